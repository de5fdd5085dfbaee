/- What is proved: what each function of this program computes, as equations on the evaluator. No condition. -/
import Derived.Test.YtdnmhlfjafjkbaaGreatDoorC2
import Derived.Test.YtdnmhlfjafjkbaaGreatDoorT0
set_option linter.all false
namespace Go.Proofs.YtdnmhlfjafjkbaaGreatDoor.Vm
open Go Go.Ev
set_option maxRecDepth 100000
set_option maxHeartbeats 4000000
attribute [local go_sem] m_ x_ l_ k_ o_ t_ a_ s_ q_ b_ c_ u_ g_ z3p z0i z4m z1j z3k z0d z4i z0u z1v z01 z2q z1i z3j z0c z4h z1m z3n z0g z4k z0v z1w z02 z2r z0t z1u zz z2n z1l z3m z0f z2k z56 z0s z6g z1n z3o z0h z4l z1o z1e z0j z4n z1h z3i z0b z4g z1k z3l z0e z4j z2p z17 z2o z5x z6r z6s z4t z2w z2z z2y z2x z3b z3c z51 z4v z70 z0k z3q z2m z0z z2u z3e z3g z53 z54 z52 z3h z1t z0w z4e z2l z1s z11 z05 z1y z12 z2t z6l z4p z1f z0q z1g pubs pub z6j params z22 z00 z15 z25 z30 z3d z5y untips untip z4c wantedAV setElems withO z6t z36 z33 z32 z4x z35 z31 z4w z34 List.replicate_succ List.replicate_zero opAV valAV aval avals ofVal Env.get setD canon gcAV renAll renEnv renStore renCells z2c cutSt okEnv okStore okRefs okRef z18 z74 z57 z73 z71 z72 z75 cellsEq cellEq isShift intOp boolOp z6m z6n z76 bne resAV tupAV z4u z9j z62 fins zep z61 z6w z6v z9k storeAV readCells putCells z55 z2j z0r fieldAddrAV z8i goI List.getElem?_cons_zero List.getElem?_cons_succ List.getElem?_nil Option.bind_some Option.map_some List.length_cons List.length_nil List.all_cons List.all_nil Bool.and_true Bool.true_and Bool.and_false Bool.false_and and_true true_and and_false false_and Bool.false_eq_true List.set_cons_zero List.set_cons_succ List.append_nil List.nil_append List.cons_append List.take_zero List.take_succ_cons List.take_nil List.drop_zero List.drop_succ_cons List.map_cons List.map_nil decide_true decide_false beq_self_eq_true Bool.not_true Bool.not_false or_true true_or or_false false_or Nat.zero_add Nat.add_zero Nat.le_refl Nat.lt_irrefl decide_eq_true_eq eq_self_iff_true not_true_eq_false not_false_eq_true List.getD_cons_zero z3f Nat.zero_le Nat.not_lt_zero Bool.true_beq Bool.false_beq beq_true beq_false ge_iff_le gt_iff_lt keepR keepT ownTop zf6 pus Option.map_none z20 z1z z4z z38 z4y Int.cast_ofNat_Int Nat.mul_one Nat.zero_mul Int.toNat_natCast Int.toNat_zero setParts withO2 hasKey z50 z4q z3a z2v z0y z0m zt z1q setm z48 z5t z5b z90 z97 zbs z7d z5g z46 z2f z7f z5k z5f z3x z5u z45 z7e z5i z42 z2d z7h z5l z7p z43 z44 z5q z2b z7a z5e z5d z7b Option.bind_none Bool.not_eq_true' decide_eq_false_iff_not Bool.and_eq_true Bool.or_eq_true Option.some.injEq Int.not_lt Int.not_le
attribute [local go_sem_proc] reduceIte Nat.reduceEqDiff Nat.reduceAdd Nat.reduceSub Nat.reduceLeDiff Nat.reduceLT reduceCtorEq Int.reduceLT Int.reduceLE Int.reduceEq Int.reduceBEq Int.reduceSub Int.reduceAdd Int.reduceMul Int.reduceNeg Int.reduceToNat Nat.reduceMul Nat.reduceBEq
def wayF (U:List Nat):Nat→Nat→List Nat
 |0,w=> [w]
 |f+1,w=>if w=0 then [0] else w::wayF U f (upC U w)
theorem z1b (U:List Nat): ∀f,wayF U f 0=[0]
 |0=>rfl
 |f+1=>by show (if 0=0 then _ else _)=_;rw [if_pos rfl]
theorem zdl (U:List Nat): ∀f w,itC U f w=0→wayF U (f+1) w=wayF U f w
 |0,w,h=>by
  have:w=0:=h
  subst this;rfl
 |f+1,w,h=>by
  have h:itC U f (upC U w)=0:=h
  show (if w=0 then [0] else w::wayF U (f+1) (upC U w))=(if w=0 then [0] else w::wayF U f (upC U w))
  rw [zdl U f _ h]
theorem z2i {U:List Nat} {m w:Nat} (h:itC U m w=0)(hw:w≠0):wayF U m w=w::wayF U m (upC U w):=by
 cases m with
 |zero=>exact absurd h hw
 |succ m=>
  have h2:itC U m (upC U w)=0:=h
  rw [zdl U m _ h2]
  show (if w=0 then [0] else w::wayF U m (upC U w))=_
  rw [if_neg hw]
theorem zfn {U:List Nat} {m w:Nat} (h:itC U m w=0):itC U m (upC U w)=0:=by
 have:=zd5 U m w
 rw [h] at this
 show itC U (m+1) w=0
 rw [this];rfl
theorem z77 {U:List Nat}: ∀(t m w:Nat),itC U t w=0→itC U m w=0→0∈wayF U m w
 |0,m,w,h,_=>by
  have:w=0:=h
  subst this;rw [z1b];simp
 |t+1,m,w,h,hm=>by
  by_cases hw:w=0
  ·subst hw;rw [z1b];simp
  ·rw [z2i hm hw]
   exact List.mem_cons_of_mem _ (z77 t m _ h (zfn hm))
theorem zd1 {U:List Nat} {m:Nat} (c:Nat)(hc:c≠0): ∀(t w:Nat),itC U t w=0→itC U m w=0→(c∈wayF U m w↔∃t,itC U t w=c)
 |0,w,h,_=>by
  have:w=0:=h
  subst this;rw [z1b]
  simp only [List.mem_singleton,z19,exists_const]
  exact eq_comm
 |t+1,w,h,hm=>by
  by_cases hw:w=0
  ·subst hw;rw [z1b]
   simp only [List.mem_singleton,z19,exists_const]
   exact eq_comm
  ·rw [z2i hm hw,List.mem_cons,zd1 c hc t _ h (zfn hm)]
   constructor
   ·rintro (rfl| ⟨s,e⟩)
    ·exact ⟨0,rfl⟩
    ·exact ⟨s+1,e⟩
   ·rintro ⟨s,e⟩
    cases s with
    |zero=>left;exact e.symm
    |succ s=>right;exact ⟨s,e⟩
theorem ze9 {U:List Nat} {w s:Nat} (hs:itC U (s+1) w=w): ∀(k:Nat),itC U (k*(s+1)) w=w
 |0=>by rw [Nat.zero_mul];rfl
 |k+1=>by rw [Nat.succ_mul,zat,ze9 hs k,hs]
theorem zg9 {U:List Nat} {m w:Nat} (hm:itC U m w=0)(hw:w≠0):w ∉ wayF U m (upC U w):=by
 intro h
 rw [zd1 w hw m _ (zfn hm) (zfn hm)] at h
 obtain ⟨s,e⟩:=h
 have h2:=ze9 (U:=U) (w:=w) (s:=s) e m
 have h3:m*(s+1)=m+m*s:=by rw [Nat.mul_succ,Nat.add_comm]
 rw [h3,zat,hm,z19] at h2
 exact hw h2.symm
theorem zdk {U:List Nat} {m:Nat} (c:Nat): ∀(t w:Nat),itC U t w=0→itC U m w=0→c∈wayF U m w→∃Q,wayF U m w=Q++wayF U m c∧c ∉ Q∧itC U m c=0
 |0,w,h,_,hc=>by
  have:w=0:=h
  subst this;rw [z1b,List.mem_singleton] at hc
  subst hc;exact ⟨[],rfl,by simp,z19 U m⟩
 |t+1,w,h,hm,hc=>by
  by_cases e:c=w
  ·subst e;exact ⟨[],rfl,by simp,hm⟩
  ·by_cases hw:w=0
   ·subst hw;rw [z1b,List.mem_singleton] at hc;exact absurd hc e
   ·rw [z2i hm hw,List.mem_cons] at hc
    obtain ⟨Q,h1,h2,h3⟩:=zdk c t _ h (zfn hm) (hc.resolve_left e)
    refine ⟨w::Q,by rw [z2i hm hw,h1];rfl,?_,h3⟩
    rw [List.mem_cons,not_or];exact ⟨e,h2⟩
def farF (y:List Nat):List Nat→Nat→Nat
 | [],_=>0
 |c::r,i=>if c∈y then i+y.idxOf c else farF y r (i+1)
theorem zjc {Q r:List Nat} {c:Nat} (h:c ∉ Q):(Q++c::r).idxOf c=Q.length:=by
 rw [List.idxOf_append,if_neg h,List.idxOf_cons_self,Nat.zero_add]
theorem zhr {U:List Nat} {m c:Nat} (hm:itC U m c=0): ∃r,wayF U m c=c::r:=by
 by_cases h:c=0
 ·subst h;rw [z1b];exact ⟨[],rfl⟩
 ·rw [z2i hm h];exact ⟨_,rfl⟩
theorem zeq {U:List Nat} {m:Nat} (wb:Nat)(hb:itC U m wb=0): ∀(t w i:Nat),itC U t w=0→itC U m w=0→
  ∃P Q c,wayF U m w=P++wayF U m c∧wayF U m wb=Q++wayF U m c∧(∀p∈P,p ∉ wayF U m wb)∧c ∉ Q∧itC U m c=0∧P.Nodup∧farF (wayF U m wb) (wayF U m w) i=i+P.length+Q.length
 |t,w,i,h,hm=>by
  by_cases hin:w∈wayF U m wb
  ·obtain ⟨Q,h1,h2,h3⟩:=zdk w m wb hb hb hin
   refine ⟨[],Q,w,rfl,h1,by simp,h2,h3,List.nodup_nil,?_⟩
   obtain ⟨r,hr⟩:=zhr hm
   have e:(wayF U m wb).idxOf w=Q.length:=by rw [h1,hr,zjc h2]
   rw [hr]
   show (if w∈_ then _ else _)=_
   rw [if_pos hin,e];rfl
  ·have hw:w≠0:=by rintro rfl;exact hin (z77 m m wb hb hb)
   cases t with
   |zero=>exact absurd h hw
   |succ t=>
    obtain ⟨P,Q,c,h1,h2,h3,h4,h5,h6,h7⟩:=zeq wb hb t (upC U w) (i+1) h (zfn hm)
    have hnl:=zg9 hm hw
    refine ⟨w::P,Q,c,by rw [z2i hm hw,h1];rfl,h2,?_,h4,h5,?_,?_⟩
    ·intro p hp
     rw [List.mem_cons] at hp
     rcases hp with rfl|hp
     ·exact hin
     ·exact h3 p hp
    ·rw [List.nodup_cons]
     refine ⟨fun hp=>hnl ?_,h6⟩
     rw [h1];exact List.mem_append_left _ hp
    ·rw [z2i hm hw]
     show (if w∈_ then _ else _)=_
     rw [if_neg hin,h7,List.length_cons];omega
theorem z9z {U:List Nat} {m:Nat}: ∀(t w:Nat),itC U t w=0→itC U m w=0→(wayF U m w).Nodup
 |0,w,h,_=>by
  have:w=0:=h
  subst this;rw [z1b];simp
 |t+1,w,h,hm=>by
  by_cases hw:w=0
  ·subst hw;rw [z1b];simp
  ·rw [z2i hm hw,List.nodup_cons]
   exact ⟨zg9 hm hw,z9z t _ h (zfn hm)⟩
theorem zg4 {m:Nat} {P:List Nat} (f:Nat→Bool)(hnd:P.Nodup)(h0:0 ∉ P)(h: ∀j,(j<m∧f j=true)↔j+1∈P):P.length=((List.range m).filter f).length:=by
 have e:(P.map (· -1)).Perm ((List.range m).filter f):=by
  rw [List.perm_ext_iff_of_nodup]
  ·intro a
   rw [List.mem_filter,List.mem_range,h a,List.mem_map]
   constructor
   ·rintro ⟨x,hx,rfl⟩
    have:x≠0:=by rintro rfl;exact h0 hx
    rwa [show x-1+1=x by omega]
   ·intro hx
    exact ⟨a+1,hx,by omega⟩
  ·unfold List.Nodup at*
   rw [List.pairwise_map]
   refine List.Pairwise.imp_of_mem (fun {a b} ha hb hne he=>hne ?_) hnd
   have h1:a≠0:=by rintro rfl;exact h0 ha
   have h2:b≠0:=by rintro rfl;exact h0 hb
   omega
  ·exact List.nodup_range.sublist List.filter_sublist
 rw [←e.length_eq,lm_]
theorem zeu (L:List Nat)(f:Nat→Bool):L.countP f=((List.range L.length).filter (fun j=>f (L.getD j 0))).length:=by
 rw [←List.countP_eq_length_filter]
 conv=>lhs;rw [show L=(List.range L.length).map (fun j=>L.getD j 0) by
  apply List.ext_getElem
  ·simp
  ·intro i h1 h2;simp [List.getD_eq_getElem?_getD,h1]]
 rw [List.countP_map];rfl
def xorN (a b s:Nat):Bool:=s.testBit a !=s.testBit b
theorem zlz {n:Nat} {L U A:List Nat} (hn:n≤8)(h:Lam n L)(ht:IsTree L n U A) {a b:Nat} (ha:a<n)(hb:b<n):
  farF (wayF U U.length (A.getD b 0)) (wayF U U.length (A.getD a 0)) 0=L.countP (xorN a b):=by
 have ea:=zmm hn h ht ha
 have eb:=zmm hn h ht hb
 rw [←ht.ul] at ea eb
 obtain ⟨P,Q,c,h1,h2,h3,h4,h5,h6,h7⟩:=zeq _ eb U.length (A.getD a 0) 0 ea ea
 rw [h7]
 have z:=z77 U.length U.length _ eb eb
 have nb:=z9z U.length _ eb eb
 have na:=z9z U.length _ ea ea
 have hma:=fun j=>(zd1 (j+1) (by omega) U.length _ ea ea).trans (z91 hn h ht ha j)
 have hmb:=fun j=>(zd1 (j+1) (by omega) U.length _ eb eb).trans (z91 hn h ht hb j)
 rw [h2] at nb
 obtain ⟨nq,_,nq2⟩:=List.nodup_append.1 nb
 have hzc:0∈wayF U U.length c:=z77 U.length U.length _ h5 h5
 have p0:0 ∉ P:=fun hp=>h3 0 hp z
 have q0:0 ∉ Q:=fun hq=>nq2 0 hq 0 hzc rfl
 have lP:P.length=((List.range L.length).filter (fun j=>(L.getD j 0).testBit a&& !(L.getD j 0).testBit b)).length:=by
  apply zg4 _ h6 p0
  intro j
  rw [Bool.and_eq_true,Bool.not_eq_true']
  constructor
  ·rintro ⟨hj,f1,f2⟩
   have:j+1∈wayF U U.length (A.getD a 0):=(hma j).2 ⟨hj,f1⟩
   rw [h1,List.mem_append] at this
   rcases this with h|h
   ·exact h
   ·have:j+1∈wayF U U.length (A.getD b 0):=by rw [h2];exact List.mem_append_right _ h
    rw [(hmb j).1 this |>.2] at f2;cases f2
  ·intro hp
   have h8:j+1∈wayF U U.length (A.getD a 0):=by rw [h1];exact List.mem_append_left _ hp
   obtain ⟨h9,h10⟩:=(hma j).1 h8
   refine ⟨h9,h10,?_⟩
   cases hc:(L.getD j 0).testBit b
   ·rfl
   ·exact absurd ((hmb j).2 ⟨h9,hc⟩) (h3 _ hp)
 have lQ:Q.length=((List.range L.length).filter (fun j=>(L.getD j 0).testBit b&& !(L.getD j 0).testBit a)).length:=by
  apply zg4 _ nq q0
  intro j
  rw [Bool.and_eq_true,Bool.not_eq_true']
  constructor
  ·rintro ⟨hj,f1,f2⟩
   have:j+1∈wayF U U.length (A.getD b 0):=(hmb j).2 ⟨hj,f1⟩
   rw [h2,List.mem_append] at this
   rcases this with h|h
   ·exact h
   ·have:j+1∈wayF U U.length (A.getD a 0):=by rw [h1];exact List.mem_append_right _ h
    rw [(hma j).1 this |>.2] at f2;cases f2
  ·intro hq
   have h8:j+1∈wayF U U.length (A.getD b 0):=by rw [h2];exact List.mem_append_left _ hq
   obtain ⟨h9,h10⟩:=(hmb j).1 h8
   refine ⟨h9,h10,?_⟩
   cases hc:(L.getD j 0).testBit a
   ·rfl
   ·have h11:=(hma j).2 ⟨h9,hc⟩
    rw [h1,List.mem_append] at h11
    rcases h11 with h11|h11
    ·exact absurd h8 (h3 _ h11)
    ·exact absurd rfl (nq2 _ hq _ h11)
 rw [lP,lQ,zeu]
 simp only [←List.countP_eq_length_filter,Nat.zero_add]
 generalize List.range L.length=R
 induction R with
 |nil=>rfl
 |cons j r ih=>
  simp only [List.countP_cons,xorN] at ih⊢
  rw [←ih]
  cases (L.getD j 0).testBit a<;>cases (L.getD j 0).testBit b<;>simp<;>omega
def sumX (L:List Nat) (a b c d:Nat):Nat:=L.countP (xorN a b)+L.countP (xorN c d)
theorem zi2 (s:Nat)(L:List Nat)(a b c d:Nat):sumX (s::L) a b c d=sumX L a b c d+((if xorN a b s then 1 else 0)+(if xorN c d s then 1 else 0)):=by
 simp only [sumX,List.countP_cons];omega
def two (s w x y z:Nat):Bool:=s.testBit w==s.testBit x&&s.testBit y==s.testBit z&&s.testBit w !=s.testBit y
theorem zkw {s t w x y z:Nat} (h:(∀i,s.testBit i=true→t.testBit i=false)∨Sub s t∨Sub t s)(h0:s.testBit 0=false)(h02:t.testBit 0=false)(h1:two s w x y z=true):two t w y x z=false:=by
 cases h2:two t w y x z
 ·rfl
 ·exfalso
  unfold two at h1 h2
  rcases h with h|h|h
  ·have k: ∀a b c d p q r t:Bool,(a==b&&c==d&&a !=c)=true→(p==r&&q==t&&p !=q)=true→(a=true→p=false)→(b=true→q=false)→(c=true→r=false)→(d=true→t=false)→False:=by decide
   exact k _ _ _ _ _ _ _ _ h1 h2 (h w) (h x) (h y) (h z)
  ·have k: ∀a b c d p q r t:Bool,(a==b&&c==d&&a !=c)=true→(p==r&&q==t&&p !=q)=true→(a=true→p=true)→(b=true→q=true)→(c=true→r=true)→(d=true→t=true)→False:=by decide
   exact k _ _ _ _ _ _ _ _ h1 h2 (h w) (h x) (h y) (h z)
  ·have k: ∀a b c d p q r t:Bool,(a==b&&c==d&&a !=c)=true→(p==r&&q==t&&p !=q)=true→(p=true→a=true)→(q=true→b=true)→(r=true→c=true)→(t=true→d=true)→False:=by decide
   exact k _ _ _ _ _ _ _ _ h1 h2 (h w) (h x) (h y) (h z)
theorem z9s (s w x y z:Nat):two s w x z y=two s w x y z:=by
 unfold two
 cases s.testBit w<;>cases s.testBit x<;>cases s.testBit y<;>cases s.testBit z<;>rfl
theorem zfb {L:List Nat} (w x y z:Nat)(h: ∀s∈L,two s w y x z=false∧two s w z x y=false):sumX L w y x z=sumX L w z x y∧sumX L w x y z≤sumX L w y x z:=by
 induction L with
 |nil=>exact ⟨rfl,Nat.le_refl _⟩
 |cons s L ih=>
  obtain ⟨i1,i2⟩:=ih (fun s hs=>h s (by simp [hs]))
  obtain ⟨h1,h2⟩:=h s (by simp)
  simp only [zi2]
  unfold two at h1 h2
  have key: ∀p q r t:Bool,(p==r&&q==t&&p !=q)=false→(p==t&&q==r&&p !=q)=false→
   (if (p !=r)=true then 1 else 0)+(if (q !=t)=true then 1 else 0)=(if (p !=t)=true then 1 else 0)+(if (q !=r)=true then 1 else 0)∧
   (if (p !=q)=true then 1 else 0)+(if (r !=t)=true then 1 else 0)≤(if (p !=r)=true then 1 else 0)+(if (q !=t)=true then 1 else 0):=by decide
  have k:=key _ _ _ _ h1 h2
  unfold xorN
  omega
theorem zfc (L:List Nat)(w x y z:Nat):sumX L w x z y=sumX L w x y z:=by
 unfold sumX
 congr 1
 congr 1
 funext s
 unfold xorN
 exact (by decide: ∀p q:Bool,(p !=q)=(q !=p)) _ _
theorem zjl {L:List Nat} (h0: ∀s∈L,s.testBit 0=false)(hag: ∀s∈L,∀t∈L,(∀i,s.testBit i=true→t.testBit i=false)∨Sub s t∨Sub t s)(w x y z:Nat):
  (sumX L w y x z=sumX L w z x y∧sumX L w x y z≤sumX L w y x z)∨(sumX L w x y z=sumX L w z x y∧sumX L w y x z≤sumX L w x y z)∨(sumX L w x y z=sumX L w y x z∧sumX L w z x y≤sumX L w x y z):=by
 have nn: ∀s∈L,∀t∈L,∀w x y z,two s w x y z=true→two t w y x z=false:=fun s hs t ht w x y z h=>zkw (hag s hs t ht) (h0 s hs) (h0 t ht) h
 by_cases hA: ∃s∈L,two s w x y z=true
 ·obtain ⟨s,hs,e⟩:=hA
  left
  apply zfb
  intro t ht
  refine ⟨nn s hs t ht w x y z e,?_⟩
  exact nn s hs t ht w x z y (by rw [z9s];exact e)
 ·have hA: ∀s∈L,two s w x y z=false:=fun s hs=>by
   cases h:two s w x y z
   ·rfl
   ·exact absurd ⟨s,hs,h⟩ hA
  by_cases hB: ∃s∈L,two s w y x z=true
  ·obtain ⟨s,hs,e⟩:=hB
   right;left
   have:=zfb (L:=L) w y x z (fun t ht=>⟨hA t ht,by
    exact nn s hs t ht w y z x (by rw [z9s];exact e)⟩)
   rw [zfc L w z x y] at this
   exact this
  ·have hB: ∀s∈L,two s w y x z=false:=fun s hs=>by
    cases h:two s w y x z
    ·rfl
    ·exact absurd ⟨s,hs,h⟩ hB
   right;right
   have:=zfb (L:=L) w z x y (fun t ht=>⟨by rw [z9s];exact hA t ht,by rw [z9s];exact hB t ht⟩)
   rw [zfc L w x y z,zfc L w y x z] at this
   exact this
attribute [local go_sem] m_ x_ l_ k_ o_ t_ a_ s_ q_ b_ c_ u_ g_ zp zf zm zq z28 z27 zh zl zk zc zj z2s
section
variable {α:Type} (lt:α→α→Bool)
def insR:List α→α→List α
 | [],x=> [x]
 |a::C,x=>if lt x a=true then a::insR C x else x::a::C
def insL (A:List α) (x:α):List α:=(insR lt A.reverse x).reverse
def sortL (l:List α):List α:=l.foldl (insL lt) []
theorem zlk (x:α):insL lt [] x=[x]:=rfl
theorem zj9 (A:List α)(a x:α):insL lt (A++ [a]) x=if lt x a=true then insL lt A x++ [a] else A++ [a,x]:=by
 unfold insL
 rw [List.reverse_append,List.reverse_singleton,List.singleton_append]
 simp only [insR]
 split
 ·rw [List.reverse_cons]
 ·simp
theorem zef: ∀(C:List α) (x:α),(insR lt C x).Perm (x::C)
 | [],_=>List.Perm.refl _
 |a::C,x=>by
  simp only [insR]
  split
  ·exact ((zef C x).cons a).trans (List.Perm.swap x a C)
  ·exact List.Perm.refl _
theorem zja (A:List α)(x:α):(insL lt A x).Perm (A++ [x]):=by
 unfold insL
 refine (List.reverse_perm _).trans ((zef lt _ x).trans ?_)
 refine ((List.reverse_perm A).cons x).trans ?_
 exact (List.perm_append_singleton x A).symm
theorem zll (A:List α)(x:α):(insL lt A x).length=A.length+1:=by
 rw [(zja lt A x).length_eq];simp
theorem zgx (x:α)(l:List α):sortL lt (x::l)=l.foldl (insL lt) [x]:=rfl
variable (h1: ∀a b,lt a b=true→lt b a=false) (h2: ∀a b c,lt b a=false→lt c b=false→lt c a=false)
include h1 h2
end
theorem zkf {α:Type} (S:List α)(l:Nat)(c:α)(h:S[l]? =some c):S.set l c=S:=by
 apply List.ext_getElem?
 intro i
 rw [List.getElem?_set]
 split
 ·next e=>subst e;rw [h];split<;>simp_all
 ·rfl
def ltI (a b:Int):Bool:=decide (a<b)
theorem c157 (a b:Int)(st:St):run L 157 [I a,I b] st=some (B (ltI a b),st):=by
 rw [run_pure (fn:=ir157) rfl rfl]
 unfold ltI
 by_cases h:a<b
 ·simp only [ir157,go_sem,c138,h]
 ·simp only [ir157,go_sem,c138,h]
theorem getII (X:List Int)(i:Nat)(x:Int)(h:X[i]? =some x):(X.map I)[i]? =some (I x):=by
 rw [List.getElem?_map,h];rfl
theorem zk4 (A:List Int)(x:Int)(B:List Int):(A++x::B)[A.length]? =some x:=by simp
theorem ziz (S0:List (List AV))(T:List Nat)(l:Nat)(hl:l<S0.length)(n:Nat)(hn:n≤1000)(x:Int)(i:Nat)(lo hi:Nat)(j:Nat)(A:List Int)(C:List Int)(hok:A.length=j∧j+1+C.length=n)(env:Env)(st:St)
  (hg:gcAV false lo hi (canon env [0,1,2,6,7]) st=([(0,.rsl l 0 n n 1 false),(1,I 0),(2,I n),(6,I i),(7,I j)],⟨S0.set l ((A++x::C).map I),T⟩)):
  ∃x_1 en s,lim (headed pure (run L) false [0,1,2,6,7] lp151_0 lo hi) env st=some (x_1,en,s)∧(x_1=.exit 2∧en.get 0=.rsl l 0 n n 1 false∧en.get 1=I 0∧en.get 2=I n∧en.get 6=I i∧s=⟨S0.set l ((insL ltI A x++C).map I),T⟩):=by
 refine z9 (α:=Nat×List Int×List Int) (fun ⟨j,A,C⟩=>j) (fun ⟨j,A,C⟩=>A.length=j∧j+1+C.length=n) (fun ⟨j,A,C⟩=>([(0,.rsl l 0 n n 1 false),(1,I 0),(2,I n),(6,I i),(7,I j)],⟨S0.set l ((A++x::C).map I),T⟩)) (fun ⟨j,A,C⟩ x_1 en s=>x_1=.exit 2∧en.get 0=.rsl l 0 n n 1 false∧en.get 1=I 0∧en.get 2=I n∧en.get 6=I i∧s=⟨S0.set l ((insL ltI A x++C).map I),T⟩) (fun ⟨j,A,C⟩ hok=> ?_) ⟨j,A,C⟩ hok env st hg
 simp only at hok
 obtain ⟨h1,h2⟩:=hok
 dsimp only at h1 h2⊢
 have hget: ∀D:List AV,(S0.set l D)[l]? =some D:=fun D=>List.getElem?_set_self hl
 rcases List.eq_nil_or_concat A with rfl| ⟨A',a,rfl⟩
 ·have hj:j=0:=by simpa using h1.symm
  subst hj
  rw [zlk]
  simp only [go_sem,lp151_0,Int.natCast_zero]
 ·rw [List.concat_eq_append] at h1⊢
  obtain ⟨m,rfl⟩: ∃m,j=m+1:=⟨A'.length,by rw [←h1];simp⟩
  have hm:A'.length=m:=by simpa using h1
  have hk:=fun st=>c157 x a st
  have hg1:=getII ((A'++ [a])++x::C) (m+1) x (by
   have:=zk4 (A'++ [a]) x C
   rwa [h1] at this)
  have hg2:=getII ((A'++ [a])++x::C) m a (by
   have:=zk4 A' a (x::C)
   rw [hm] at this
   simpa using this)
  have hset:(((A'++ [a])++x::C).set (m+1) a).set m x=A'++x::a::C:=by
   subst hm
   simp
  have hset2:((((A'++ [a])++x::C).map I).set (m+1) (I a)).set m (I x)=(A'++x::a::C).map I:=by
   rw [←hset,List.map_set,List.map_set]
  have hlen:((A'++ [a])++x::C).length=n:=by simp;omega
  have hpos:((0:Int)<((m+1:Nat):Int))=True:=eT (by omega)
  have hw:IntKind.i64.wrap (((m+1:Nat):Int)-1)=((m:Nat):Int):=by rw [zy]<;>omega
  have b0:((0:Int)≤((m+1:Nat):Int))=True:=eT (by omega)
  have b1:(((m+1:Nat):Int)<(n:Int))=True:=eT (by omega)
  have b2:((0:Int)≤((m:Nat):Int))=True:=eT (by omega)
  have b3:(((m:Nat):Int)<(n:Int))=True:=eT (by omega)
  have b4:(m+1<n)=True:=eT (by omega)
  have b5:(m<n)=True:=eT (by omega)
  have b6:(m+1+1≤n)=True:=eT (by omega)
  have b7:(m+1≤n)=True:=eT (by omega)
  rw [zj9]
  generalize hX:(A'++ [a])++x::C=X at*
  by_cases p:ltI x a=true
  ·rw [if_pos p]
   simp only [go_sem,lp151_0,hpos,hw,b0,b1,b2,b3,b4,b5,b6,b7,hg1,hg2,hk,p,hget,hlen,List.set_set,hset2,lm_,List.length_set]
   refine ⟨(m,A',a::C),by simp only [go_sem,z3,z4,z5,hset,hset2]<;>rfl,?_,?_,fun x en s hq=> ?_⟩
   ·dsimp only;exact ⟨hm,by rw [List.length_cons];omega⟩
   ·dsimp only;omega
   ·dsimp only at hq;rw [List.append_assoc,List.singleton_append];exact hq
  ·have hlt':ltI x a=false:=by simpa using p
   rw [if_neg p]
   have e:A'++ [a,x]++C=X:=by rw [←hX];simp
   rw [e]
   simp only [go_sem,lp151_0,hpos,hw,b0,b1,b2,b3,b4,b5,b6,b7,hg1,hg2,hk,hlt',hget,hlen,lm_]
theorem ziy (S0:List (List AV))(T:List Nat)(l:Nat)(hl:l<S0.length)(n:Nat)(hn:n≤1000)(lo hi:Nat)(i:Nat)(A:List Int)(C:List Int)(hok:A.length=i∧i+C.length=n)(env:Env)(st:St)
  (hg:gcAV false lo hi (canon env [0,1,2,6]) st=([(0,.rsl l 0 n n 1 false),(1,I 0),(2,I n),(6,I i)],⟨S0.set l ((A++C).map I),T⟩)):
  ∃x_1 en s,lim (headed pure (run L) false [0,1,2,6] lp151_1 lo hi) env st=some (x_1,en,s)∧(x_1=.exit 0∧s=⟨S0.set l ((C.foldl (insL ltI) A).map I),T⟩):=by
 refine z9 (α:=Nat×List Int×List Int) (fun ⟨i,A,C⟩=>C.length) (fun ⟨i,A,C⟩=>A.length=i∧i+C.length=n) (fun ⟨i,A,C⟩=>([(0,.rsl l 0 n n 1 false),(1,I 0),(2,I n),(6,I i)],⟨S0.set l ((A++C).map I),T⟩)) (fun ⟨i,A,C⟩ x_1 en s=>x_1=.exit 0∧s=⟨S0.set l ((C.foldl (insL ltI) A).map I),T⟩) (fun ⟨i,A,C⟩ hok=> ?_) ⟨i,A,C⟩ hok env st hg
 simp only at hok
 obtain ⟨h1,h2⟩:=hok
 dsimp only at h1 h2⊢
 cases C with
 |nil=>
  obtain rfl:i=n:=by simpa using h2
  rw [List.append_nil]
  simp only [go_sem,lp151_1,show ((i:Int)<(i:Int))=False from eF (by omega)]
  rfl
 |cons x C=>
  rw [List.length_cons] at h2
  have hs:=zg i (by omega)
  have hlt:((i:Int)<(n:Int))=True:=eT (by omega)
  rw [List.foldl_cons]
  simp only [go_sem,lp151_1,hlt,hs]
  generalize hg:lim (headed pure (run L) false _ lp151_0 _ _) _ _=o
  obtain ⟨x,en,s,rfl,h2⟩: ∃x en s,o=some (x,en,s)∧_:=by rw [←hg];exact ziz S0 T l hl n hn x i _ _ i A C ⟨h1,by omega⟩ _ _ (by simp only [go_sem]<;>rfl)
  clear hg
  obtain ⟨rfl,e0,e1,e2,e6,rfl⟩:=h2
  have hA:=zll ltI A x
  simp only [go_sem,lp151_1,e0,e1,e2,e6,hs]
  refine ⟨(i+1,insL ltI A x,C),by simp only [go_sem,z3,z4,z5,e0,e1,e2,e6]<;>rfl,?_,?_,fun x en s hq=> ?_⟩
  ·dsimp only;exact ⟨by omega,by omega⟩
  ·dsimp only;omega
  ·exact hq
theorem c151 (S:List (List AV))(T:List Nat)(l:Nat)(X:List Int)(h:S[l]? =some (X.map I))(h1:1≤X.length)(hn:X.length≤1000):
  run L 151 [.rsl l 0 X.length X.length 1 false,I 0,I X.length] ⟨S,T⟩=some (.tup [],⟨S.set l ((sortL ltI X).map I),T⟩):=by
 rw [zd (fn:=ir151) rfl rfl]
 have hl:=(List.getElem?_eq_some_iff.1 h).1
 have hS:=zkf S l _ h
 cases X with
 |nil=>simp at h1
 |cons x C=>
  have hw:IntKind.i64.wrap (0+1)=1:=by decide
  rw [zgx]
  generalize hk:(x::C).length=k at*
  rw [List.length_cons] at hk
  rw [←hS]
  simp only [ir151,go_sem,hw,List.set_set]
  generalize hg:lim (headed pure (run L) false _ lp151_1 _ _) _ _=o
  obtain ⟨x,en,s,rfl,h2⟩: ∃x en s,o=some (x,en,s)∧_:=by rw [←hg];exact ziy S T l hl k hn _ _ 1 [x] C ⟨rfl,by omega⟩ _ _ (by simp only [go_sem,show ((1:Nat):Int)=1 from rfl,show [x]++C=x::C from rfl]<;>rfl)
  clear hg
  obtain ⟨rfl,rfl⟩:=h2
  simp only [go_sem]
theorem znl (S:List (List AV))(T:List Nat)(l:Nat)(X:List Int)(h:S[l]? =some (X.map I))(h1:1≤X.length)(hn:X.length≤12)(lim0:Int)(lo hi:Nat)(u:Nat)(hok:True)(env:Env)(st:St)
  (hg:gcAV false lo hi (canon env [0,1,2,3,8,9]) st=([(0,.rsl l 0 X.length X.length 1 false),(1,I 0),(2,I X.length),(3,I lim0),(8,B true),(9,B true)],⟨S,T⟩)):
  ∃x_1 en s,lim (headed pure (run L) false [0,1,2,3,8,9] lp120_0 lo hi) env st=some (x_1,en,s)∧(x_1=.ret∧s=⟨S.set l ((sortL ltI X).map I),T⟩):=by
 refine z9 (α:=Nat) (fun u=>u) (fun u=>True) (fun u=>([(0,.rsl l 0 X.length X.length 1 false),(1,I 0),(2,I X.length),(3,I lim0),(8,B true),(9,B true)],⟨S,T⟩)) (fun u x_1 en s=>x_1=.ret∧s=⟨S.set l ((sortL ltI X).map I),T⟩) (fun u hok=> ?_) u hok env st hg
 have h109:=c151 S T l X h h1 (by omega)
 have hw:IntKind.i64.wrap ((X.length:Int)-0)=(X.length:Int):=by rw [zy]<;>omega
 have q:((X.length:Int)≤12)=True:=eT (by omega)
 simp only [go_sem,lp120_0,hw,q,h109,show pure 151=false from rfl]
theorem c120 (S:List (List AV))(T:List Nat)(l:Nat)(X:List Int)(h:S[l]? =some (X.map I))(h1:1≤X.length)(hn:X.length≤12)(lim0:Int):
  run L 120 [.rsl l 0 X.length X.length 1 false,I 0,I X.length,I lim0] ⟨S,T⟩=some (.tup [],⟨S.set l ((sortL ltI X).map I),T⟩):=by
 rw [zd (fn:=ir120) rfl rfl]
 simp only [ir120,go_sem]
 generalize hg:lim (headed pure (run L) false _ lp120_0 _ _) _ _=o
 obtain ⟨x,en,s,rfl,h2⟩: ∃x en s,o=some (x,en,s)∧_:=by rw [←hg];exact znl S T l X h h1 hn lim0 _ _ 0 trivial _ _ (by simp only [go_sem]<;>rfl)
 clear hg
 obtain ⟨rfl,rfl⟩:=h2
 simp only [go_sem]
theorem c63 (S:List (List AV))(T:List Nat)(l:Nat)(X:List Int)(h:S[l]? =some (X.map I))(h1:1≤X.length)(hn:X.length≤12):
  run L 63 [.rsl l 0 X.length X.length 1 false] ⟨S,T⟩=some (.tup [],⟨S.set l ((sortL ltI X).map I),T⟩):=by
 rw [zd (fn:=ir63) rfl rfl]
 have hw:IntKind.u64.wrap (X.length:Int)=(X.length:Int):=by simp [IntKind.wrap,IntKind.bits,IntKind.signed];omega
 have h91:=fun st=>c115 X.length (by omega) st
 have h93:=c120 S T l X h h1 hn (Go.Sort.bitsLen X.length:Nat)
 simp only [ir63,go_sem,hw,h91,h93,show pure 120=false from rfl]
attribute [local go_sem] m_ x_ l_ k_ o_ t_ a_ s_ q_ b_ c_ u_ g_ zp zf zm zq z28 z27 zh zl zk zc zj z2s
theorem znq (nl:Bool)(ss:List Nat)(hss: ∀s∈ss,s<256)(hk:ss.length≤100)(a b:Nat)(ha:a≤8)(hb:b≤8)(i:Nat)(k:Nat)(hok:i≤ss.length∧k≤i)(env:Env)(st:St)
  (hg:gcAV true 0 0 (canon env [1,2,7,10,11,12]) st=([(1,J a),(2,J b),(7,J k),(10,sl 1 nl (ss.map E8)),(11,J ss.length),(12,J i)],⟨[],[]⟩)):
  ∃x_1 en s,lim (headed pure (run L) true [1,2,7,10,11,12] lp102_0 0 0) env st=some (x_1,en,s)∧(x_1=.exit 0∧en.get 7=J (k+(ss.drop i).countP (xorN a b))):=by
 refine z9 (α:=Nat×Nat) (fun ⟨i,k⟩=>ss.length-i) (fun ⟨i,k⟩=>i≤ss.length∧k≤i) (fun ⟨i,k⟩=>([(1,J a),(2,J b),(7,J k),(10,sl 1 nl (ss.map E8)),(11,J ss.length),(12,J i)],⟨[],[]⟩)) (fun ⟨i,k⟩ x_1 en s=>x_1=.exit 0∧en.get 7=J (k+(ss.drop i).countP (xorN a b))) (fun ⟨i,k⟩ hok=> ?_) ⟨i,k⟩ hok env st hg
 simp only at hok
 obtain ⟨h1,h2⟩:=hok
 dsimp only at h1 h2⊢
 by_cases h:i<ss.length
 ·have hs:=zg i (by omega)
  have hk1:=zg k (by omega)
  have hlt:((i:Int)<(ss.length:Int))=True:=eT (by omega)
  have hx:=z37 E8 nl ss i h
  have hd:ss.drop i=ss[i]::ss.drop (i+1):=List.drop_eq_getElem_cons h
  rw [hd,List.countP_cons]
  generalize ss[i]=s at*
  have h1a:=fun st=>c106g s a ha st
  have h1b:=fun st=>c106g s b hb st
  have hxo:xorN a b s=(s.testBit a !=s.testBit b):=rfl
  rw [hxo]
  by_cases e:s.testBit a=s.testBit b
  ·have e2:(s.testBit a !=s.testBit b)=false:=by simpa using e
   rw [e2,if_neg (by simp),Nat.add_zero]
   rw [e] at h1a
   cases hb:s.testBit b<;>rw [hb] at h1a h1b
   all_goals
    simp only [go_sem,lp102_0,hlt,hs,hx,h1a,h1b]
    refine ⟨(i+1,k),by simp only [go_sem,z3,z4,z5]<;>rfl,?_,?_,fun x en s hq=> ?_⟩
    ·dsimp only;omega
    ·dsimp only;omega
    ·exact hq
  ·have e2:(s.testBit a !=s.testBit b)=true:=by simpa using e
   rw [e2,if_pos rfl]
   have e3:k+((ss.drop (i+1)).countP (xorN a b)+1)=(k+1)+(ss.drop (i+1)).countP (xorN a b):=by omega
   rw [e3]
   cases ha:s.testBit a<;>cases hb:s.testBit b<;>rw [ha,hb] at e<;>rw [ha] at h1a<;>rw [hb] at h1b
   ·exact absurd rfl e
   ·simp only [go_sem,lp102_0,hlt,hs,hk1,hx,h1a,h1b]
    refine ⟨(i+1,k+1),by simp only [go_sem,z3,z4,z5]<;>rfl,?_,?_,fun x en s hq=> ?_⟩
    ·dsimp only;omega
    ·dsimp only;omega
    ·exact hq
   ·simp only [go_sem,lp102_0,hlt,hs,hk1,hx,h1a,h1b]
    refine ⟨(i+1,k+1),by simp only [go_sem,z3,z4,z5]<;>rfl,?_,?_,fun x en s hq=> ?_⟩
    ·dsimp only;omega
    ·dsimp only;omega
    ·exact hq
   ·exact absurd rfl e
 ·have e:ss.drop i=[]:=List.drop_eq_nil_of_le (by omega)
  have hlt:((i:Int)<(ss.length:Int))=False:=eF (by omega)
  rw [e]
  simp only [go_sem,lp102_0,hlt]
  rfl
theorem c102 (nl:Bool)(ss:List Nat)(hss: ∀s∈ss,s<256)(hk:ss.length≤100)(a b:Nat)(ha:a≤8)(hb:b≤8)(st:St):
  run L 102 [sl 1 nl (ss.map E8),J a,J b] st=some (J (ss.countP (xorN a b)),st):=by
 rw [run_pure (fn:=ir102) rfl rfl]
 simp only [ir102,go_sem,lm_]
 generalize hg:lim (headed pure (run L) true _ lp102_0 _ _) _ _=o
 obtain ⟨x,en,s,rfl,h2⟩: ∃x en s,o=some (x,en,s)∧_:=by rw [←hg];exact znq nl ss hss hk a b ha hb 0 0 (by omega) _ _ (by simp only [go_sem,Int.natCast_zero]<;>rfl)
 clear hg
 rw [List.drop_zero,Nat.zero_add] at h2
 obtain ⟨rfl,e7⟩:=h2
 simp only [go_sem,e7]
theorem c32 (n:Nat)(h2:2≤n)(hn:n≤8)(nl:Bool)(X:List Nat)(hX: ∀v∈X,v<2^n∧v≠0∧v≠2^n-1)(hnd:(X.map (smlN n)).Nodup)(hl:X.length≤13)(a b:Nat)(ha:a<n)(hb:b<n)(st:St):
  run L 32 [J n,sl 1 nl (X.map tM),J a,J b] st=some (.tup [J ((X.map (smlN n)).countP (xorN a b)),I 0],st):=by
 rw [run_pure (fn:=ir32) rfl rfl]
 have h70:=c70 n h2 hn nl X hX hnd (by omega)
 have hss: ∀x∈X.map (smlN n),x<256:=by
  intro x hx
  rw [List.mem_map] at hx
  obtain ⟨v,hv,rfl⟩:=hx
  exact Nat.lt_of_lt_of_le (zcq (hX v hv).1) (Nat.pow_le_pow_right (n:=2) (by decide) hn)
 have hk:(X.map (smlN n)).length≤13:=by rw [lm_];exact hl
 have h102:=fun st=>c102 true (X.map (smlN n)) hss (by omega) a b (by omega) (by omega) st
 generalize X.map (smlN n)=ss at*
 have q1:(min (a:Int) (b:Int)<0)=False:=eF (by omega)
 have q2:((n:Int)≤max (a:Int) (b:Int))=False:=eF (by omega)
 by_cases he:ss=[]
 ·subst he
  have eA:kA []=.v (.slice none 0 0):=rfl
  have eS:kS []=[]:=rfl
  rw [eA,eS] at h70
  rw [show sl 1 true (([]:List Nat).map E8)=AV.v (.slice none 0 0) from rfl] at h102
  simp only [ir32,go_sem,h70,show pure 70=false from rfl,shStore,shV,shVs,h102,q1,q2,zgo,frzAV,frzT,frzLs,rslsOf]
 ·rw [zed he,zd4 he] at h70
  have hsv:=zbl 0 ss
  obtain ⟨S',hfz⟩:=znx (S:=[ss.map u8]) (l:=0) rfl (by simpa using he) []
  have hfv:=frzV_E 0 ss he
  simp only [ir32,go_sem,h70,show pure 70=false from rfl,shStore,shV,shVs,hsv,h102,q1,q2,zgo,frzAV,frzT,frzLs,rslsOf,hfz,frzEnv,frzEnv_get,frzV_v,hfv]
theorem c32x (n:Nat)(h2:2≤n)(hn:n≤8)(nl:Bool)(X:List Nat)(hX: ∀v∈X,v<2^n∧v≠0∧v≠2^n-1)(hnd:(X.map (smlN n)).Nodup)(hl:X.length≤13)(a b:Int)(hab:min a b<0∨(n:Int)≤max a b)(st:St):
  run L 32 [J n,sl 1 nl (X.map tM),I a,I b] st=some (.tup [I 0,I 2],st):=by
 rw [run_pure (fn:=ir32) rfl rfl]
 have h70:=c70 n h2 hn nl X hX hnd (by omega)
 generalize X.map (smlN n)=ss at*
 have hS: ∃S,shStore 0 (kS ss)=S:=⟨_,rfl⟩
 by_cases q1:min a b<0
 ·by_cases he:ss=[]
  ·subst he
   have eA:kA []=.v (.slice none 0 0):=rfl
   have eS:kS []=[]:=rfl
   rw [eA,eS] at h70
   simp only [ir32,go_sem,h70,show pure 70=false from rfl,shStore,shV,shVs,q1]
  ·rw [zed he,zd4 he] at h70
   have hsv:=zbl 0 ss
   simp only [ir32,go_sem,h70,show pure 70=false from rfl,shStore,shV,shVs,hsv,q1]
 ·have q2:=hab.resolve_left q1
  by_cases he:ss=[]
  ·subst he
   have eA:kA []=.v (.slice none 0 0):=rfl
   have eS:kS []=[]:=rfl
   rw [eA,eS] at h70
   simp only [ir32,go_sem,h70,show pure 70=false from rfl,shStore,shV,shVs,q1,q2]
  ·rw [zed he,zd4 he] at h70
   have hsv:=zbl 0 ss
   simp only [ir32,go_sem,h70,show pure 70=false from rfl,shStore,shV,shVs,hsv,q1,q2]
def wA (l:List Nat):AV:=if l.length≤1 then .lst .full 1 (l.map J) else oA (l.map J)
def wT (l:List Nat):List Nat:=if l.length≤1 then [] else oT (l.map J)
def wAcc (l:List Nat):List (Nat×Nat):=if l.length≤1 then [] else oAcc (l.map J)
theorem ren1_w (l:List Nat):ren1 0 (wT l) [] (wA l)=(wA l,wAcc l):=by
 unfold wA wT wAcc
 split
 ·rw [z17]
 ·exact z7q _
theorem zka (l:List Nat):(wAcc l).map (fun x=>x.2)=wT l:=by
 unfold wAcc wT
 split
 ·rfl
 ·exact z2h _
theorem znd (n:Nat)(l:List Nat):okRef n (wA l)=true:=by
 unfold wA;split
 ·rfl
 ·exact zp _ _
theorem len_w (l:List Nat):lenAV (wA l)=some (J l.length):=by
 unfold wA;split
 ·rw [z5x,lm_]
 ·rw [len_o,lm_]
theorem zm5 (p:List Nat)(w y:Nat)(s:List (List AV))(h:p.length<900):appendAV 1 (wA (p++ [w])) [J y] ⟨s,wT (p++ [w])⟩=some (wA (p++ [w]++ [y]),⟨s,wT (p++ [w]++ [y])⟩):=by
 unfold wA wT
 have h2: ¬(p++ [w]++ [y]).length≤1:=by simp
 rw [if_neg h2,if_neg h2]
 cases p with
 |nil=>rfl
 |cons a r=>
  have h3: ¬(a::r++ [w]).length≤1:=by simp
  rw [if_neg h3,if_neg h3,z8s _ _ _ (by simp at h⊢;omega)]
  simp
theorem last_w (p:List Nat)(w:Nat):indexSAV 1 (wA (p++ [w])) (J p.length)=some (.eptr (J w) 0):=by
 have key: ∀g,indexSAV 1 (.lst g 1 ((p++ [w]).map J)) (J p.length)=some (.eptr (J w) 0):=by
  intro g
  have e:((p++ [w]).map J)[p.length]? =some (J w):=by simp
  simp only [indexSAV,natOf,e]
  simp
 unfold wA oA loc
 split
 ·exact key _
 ·rw [if_neg (by simp)];exact key _
theorem fin_w (st:St)(p:List Nat)(h:p≠[]):fin st (wA p)=sl 1 true (p.map J):=by
 unfold wA
 split
 ·rw [z61,zdt (by simpa using h)]
 ·rw [z28]
def treeE (nu nw:Bool) (U W:List Nat):AV:=.eptr (.agg [sl 1 nu (U.map J),sl 1 nw (W.map J)]) 0
theorem znp (nu nw:Bool)(U W:List Nat)(hU: ∀u∈U,u≤U.length)(hl:U.length≤13)(f:Nat)(p:List Nat)(w:Nat)(hok:itC U f w=0∧w≤U.length∧p.length+f≤20)(env:Env)(st:St)
  (hg:gcAV true 0 0 (canon env [0,1,4]) st=([(0,J w),(1,treeE nu nw U W),(4,wA (p++ [w]))],⟨[],wT (p++ [w])⟩)):
  ∃x_1 en s,lim (headed pure (run L) true [0,1,4] lp104_0 0 0) env st=some (x_1,en,s)∧(x_1=.exit 0∧en.get 4=wA (p++wayF U f w)∧s=⟨[],wT (p++wayF U f w)⟩):=by
 refine z9 (α:=Nat×List Nat×Nat) (fun ⟨f,p,w⟩=>f) (fun ⟨f,p,w⟩=>itC U f w=0∧w≤U.length∧p.length+f≤20) (fun ⟨f,p,w⟩=>([(0,J w),(1,treeE nu nw U W),(4,wA (p++ [w]))],⟨[],wT (p++ [w])⟩)) (fun ⟨f,p,w⟩ x_1 en s=>x_1=.exit 0∧en.get 4=wA (p++wayF U f w)∧s=⟨[],wT (p++wayF U f w)⟩) (fun ⟨f,p,w⟩ hok=> ?_) ⟨f,p,w⟩ hok env st hg
 simp only at hok
 obtain ⟨h1,h2,h3⟩:=hok
 dsimp only at h1 h2 h3⊢
 by_cases h:w=0
 ·subst h
  rw [z1b]
  simp only [go_sem,lp104_0,Int.natCast_zero]
 ·cases f with
  |zero=>exact absurd h1 h
  |succ f=>
   have h1:itC U f (upC U w)=0:=h1
   have hgt:((0:Int)<(w:Int))=True:=eT (by omega)
   have hm:IntKind.i64.wrap ((w:Int)-1)=((w-1:Nat):Int):=by
    rw [←w64 (w-1) (by omega)];congr 1;omega
   have hx:=z37 J nu U (w-1) (by omega)
   have hup:upC U w=U[w-1]'(by omega):=by
    unfold upC;rw [if_neg h,List.getD_eq_getElem?_getD,List.getElem?_eq_getElem (by omega)];rfl
   have hle:=hU (U[w-1]'(by omega)) (List.getElem_mem _)
   have hwf:wayF U (f+1) w=w::wayF U f (upC U w):=by
    show (if w=0 then _ else _)=_
    rw [if_neg h]
   rw [hwf,hup]
   rw [hup] at h1
   generalize U[w-1]'(by omega)=u at*
   have happ:=fun S=>zm5 p w u S (by omega)
   have hll:=len_w (p++ [w]++ [u])
   have hll2:IntKind.i64.wrap (((p++ [w]++ [u]).length:Int)-1)=((p++ [w]).length:Int):=by
    rw [←w64 (p++ [w]).length (by simp;omega)];congr 1;simp;omega
   have hla:=last_w (p++ [w]) u
   have e:p++w::wayF U f u=(p++ [w])++wayF U f u:=by simp
   rw [e]
   unfold treeE
   simp only [go_sem,lp104_0,hgt,hm,hx,happ,hll,hll2,hla]
   refine ⟨(f,p++ [w],u),by simp only [go_sem,z3,z4,z5,ren1_w,zka,znd,treeE]<;>rfl,?_,?_,fun x en s hq=> ?_⟩
   ·dsimp only;exact ⟨h1,hle,by simp;omega⟩
   ·dsimp only;omega
   ·exact hq
theorem zmq (U:List Nat)(f w:Nat):wayF U f w≠[]:=by
 cases f with
 |zero=>simp [wayF]
 |succ f=>unfold wayF;split<;>simp
theorem c104 (nu nw:Bool)(U W:List Nat)(hU: ∀u∈U,u≤U.length)(hl:U.length≤13)(w:Nat)(hw:w≤U.length)(h0:itC U U.length w=0)(st:St):
  run L 104 [J w,treeE nu nw U W] st=some (sl 1 true ((wayF U U.length w).map J),st):=by
 rw [run_pure (fn:=ir104) rfl rfl]
 have e1:wA ([]++ [w])=.lst .full 1 [J w]:=rfl
 have hf:=fun st=>fin_w st (wayF U U.length w) (zmq _ _ _)
 simp only [ir104,go_sem,treeE]
 generalize hg:lim (headed pure (run L) true _ lp104_0 _ _) _ _=o
 obtain ⟨x,en,s,rfl,h2⟩: ∃x en s,o=some (x,en,s)∧_:=by rw [←hg];exact znp nu nw U W hU hl U.length [] w ⟨h0,hw,by simp;omega⟩ _ _ (by simp only [go_sem,Int.natCast_zero,treeE,e1]<;>rfl)
 clear hg
 rw [List.nil_append] at h2
 obtain ⟨rfl,e4,rfl⟩:=h2
 simp only [go_sem,e4,hf]
attribute [local go_sem] m_ x_ l_ k_ o_ t_ a_ s_ q_ b_ c_ u_ g_ zp zf zm zq z28 z27 zh zl zk zc zj z2s
theorem zfo (y:List Nat)(c:Nat): ∀i,indexOf (c:Int) (y.map fun (n:Nat)=>(n:Int)) i=if c∈y then ((i+y.idxOf c:Nat):Int) else -1:=by
 induction y with
 |nil=>intro i;rfl
 |cons b r ih=>
  intro i
  rw [List.map_cons]
  show (if (c:Int)=(b:Int) then (i:Int) else indexOf (c:Int) _ (i+1))=_
  by_cases h:c=b
  ·subst h
   rw [if_pos rfl,if_pos (by simp),List.idxOf_cons_self];rfl
  ·rw [if_neg (by omega),ih (i+1),List.idxOf_cons]
   have hb:(b==c)=false:=by simpa using fun e=>h e.symm
   rw [hb,cond_false]
   by_cases h2:c∈r
   ·rw [if_pos h2,if_pos (by simp [h2])];omega
   ·rw [if_neg h2,if_neg (by simp [h,h2])]
theorem idx_le (y:List Nat)(c:Nat)(h:c∈y):y.idxOf c<y.length:=List.idxOf_lt_length_iff.2 h
theorem mapJ (y:List Nat):(y.map fun (n:Nat)=>(n:Int)).map I=y.map J:=by rw [List.map_map];rfl
theorem loop34 (n1 n2:Bool)(xs ys:List Nat)(hx:xs.length≤100)(hy:ys.length≤100)(i:Nat)(hok:i≤xs.length∧∃c∈xs.drop i,c∈ys)(env:Env)(st:St)
  (hg:gcAV true 1 0 (canon env [13,51,52,53]) st=([(13,sl 1 n2 (ys.map J)),(51,sl 1 n1 (xs.map J)),(52,J xs.length),(53,J i)],⟨[[]],[]⟩)):
  ∃x_1 en s,lim (headed pure (run L) true [13,51,52,53] lp34_0 1 0) env st=some (x_1,en,s)∧(x_1=.ret∧en.get 8=J (farF ys (xs.drop i) i)∧en.get 9=I 0):=by
 refine z9 (α:=Nat) (fun i=>xs.length-i) (fun i=>i≤xs.length∧∃c∈xs.drop i,c∈ys) (fun i=>([(13,sl 1 n2 (ys.map J)),(51,sl 1 n1 (xs.map J)),(52,J xs.length),(53,J i)],⟨[[]],[]⟩)) (fun i x_1 en s=>x_1=.ret∧en.get 8=J (farF ys (xs.drop i) i)∧en.get 9=I 0) (fun i hok=> ?_) i hok env st hg
 obtain ⟨h1,h2⟩:=hok
 by_cases h:i<xs.length
 ·have hs:=zg i (by omega)
  have hlt:((i:Int)<(xs.length:Int))=True:=eT (by omega)
  have hx:=z37 J n1 xs i h
  have hd:xs.drop i=xs[i]::xs.drop (i+1):=List.drop_eq_getElem_cons h
  rw [hd] at h2⊢
  generalize xs[i]=c at*
  have hff:farF ys (c::xs.drop (i+1)) i=if c∈ys then i+ys.idxOf c else farF ys (xs.drop (i+1)) (i+1):=rfl
  have h59:=fun st=>c59 n2 (ys.map fun (n:Nat)=>(n:Int)) (by rw [lm_];omega) c st
  rw [mapJ,zfo] at h59
  rw [hff]
  by_cases hc:c∈ys
  ·have hlt2:=idx_le ys c hc
   rw [if_pos hc] at h59⊢
   rw [Nat.zero_add] at h59
   generalize ys.idxOf c=k at*
   have hw:IntKind.i64.wrap ((i:Int)+(k:Int))=((i+k:Nat):Int):=by
    rw [←w64 (i+k) (by omega)];congr 1
   have q:((0:Int)≤(k:Int))=True:=eT (by omega)
   simp only [go_sem,lp34_0,hlt,hs,hx,h59,hw,q]
  ·rw [if_neg hc] at h59⊢
   have q:((0:Int)≤(-1:Int))=False:=eF (by omega)
   obtain ⟨d,hd1,hd2⟩:=h2
   rw [List.mem_cons] at hd1
   have hd1:d∈xs.drop (i+1):=by
    rcases hd1 with rfl|hd1
    ·exact absurd hd2 hc
    ·exact hd1
   simp only [go_sem,lp34_0,hlt,hs,hx,h59,q]
   refine ⟨i+1,by simp only [go_sem,z3,z4,z5]<;>rfl,?_,?_,fun x en s hq=> ?_⟩
   ·exact ⟨by omega,d,hd1,hd2⟩
   ·omega
   ·exact hq
 ·obtain ⟨c,hc,_⟩:=h2
  rw [List.drop_eq_nil_of_le (by omega)] at hc
  cases hc
theorem zf7 (U:List Nat): ∀f w,(wayF U f w).length≤f+1
 |0,w=>by simp [wayF]
 |f+1,w=>by
  unfold wayF
  split
  ·simp
  ·have:=zf7 U f (upC U w)
   rw [List.length_cons];omega
theorem c34 (n:Nat)(h2:2≤n)(hn:n≤8)(nu nw:Bool)(U W:List Nat)(hU: ∀u∈U,u≤U.length)(hW: ∀w∈W,w≤U.length)(hl:U.length≤13)(hWl:W.length=n)(hend: ∀w,w≤U.length→itC U U.length w=0)(hr:(readN U W).1=0)(a b:Nat)(ha:a<n)(hb:b<n)(st:St):
  run L 34 [J n,.agg [sl 1 nu (U.map J),sl 1 nw (W.map J)],J a,J b] st=some (.tup [J (farF (wayF U U.length (W.getD b 0)) (wayF U U.length (W.getD a 0)) 0),I 0],st):=by
 rw [run_pure (fn:=ir34) rfl rfl]
 have h30:=fun st=>c30N n h2 hn nu nw U W hU hW hl hWl st
 rw [hr] at h30
 have q1:(min (a:Int) (b:Int)<0)=False:=eF (by omega)
 have q2:((n:Int)≤max (a:Int) (b:Int))=False:=eF (by omega)
 have ea:W.getD a 0=W[a]'(by omega):=by rw [List.getD_eq_getElem?_getD,List.getElem?_eq_getElem (by omega)];rfl
 have eb:W.getD b 0=W[b]'(by omega):=by rw [List.getD_eq_getElem?_getD,List.getElem?_eq_getElem (by omega)];rfl
 have hxa:=z37 J nw W a (by omega)
 have hxb:=z37 J nw W b (by omega)
 have hwa:=hW (W[a]'(by omega)) (List.getElem_mem _)
 have hwb:=hW (W[b]'(by omega)) (List.getElem_mem _)
 rw [ea,eb]
 generalize W[a]'(by omega)=wa at*
 generalize W[b]'(by omega)=wb at*
 have ia:=hend wa hwa
 have ib:=hend wb hwb
 have h104a:=fun st=>c104 nu nw U W hU hl wa hwa ia st
 have h104b:=fun st=>c104 nu nw U W hU hl wb hwb ib st
 unfold treeE at h104a h104b
 have za:=z77 U.length U.length wa ia ia
 have zb:=z77 U.length U.length wb ib ib
 have la:=zf7 U U.length wa
 have lb:=zf7 U U.length wb
 have hll:=z6q J true (wayF U U.length wa)
 generalize wayF U U.length wa=xs at*
 generalize wayF U U.length wb=ys at*
 simp only [ir34,go_sem,h30,q1,q2,zjy,frzPs,frzP1,hxa,hxb,h104a,h104b,hll]
 generalize hg:lim (headed pure (run L) true _ lp34_0 _ _) _ _=o
 obtain ⟨x,en,s,rfl,h2⟩: ∃x en s,o=some (x,en,s)∧_:=by rw [←hg];exact loop34 true true xs ys (by omega) (by omega) 0 ⟨by omega,0,by simpa using za,zb⟩ _ _ (by simp only [go_sem,Int.natCast_zero]<;>rfl)
 clear hg
 rw [List.drop_zero] at h2
 obtain ⟨rfl,e8,e9⟩:=h2
 simp only [go_sem,e8,e9]
theorem c34x (n:Nat)(h2:2≤n)(hn:n≤8)(nu nw:Bool)(U W:List Nat)(hU: ∀u∈U,u≤U.length)(hW: ∀w∈W,w≤U.length)(hl:U.length≤13)(hWl:W.length=n)(hr:(readN U W).1=0)(a b:Int)(hab:min a b<0∨(n:Int)≤max a b)(st:St):
  run L 34 [J n,.agg [sl 1 nu (U.map J),sl 1 nw (W.map J)],I a,I b] st=some (.tup [I 0,I 2],st):=by
 rw [run_pure (fn:=ir34) rfl rfl]
 have h30:=fun st=>c30N n h2 hn nu nw U W hU hW hl hWl st
 rw [hr] at h30
 by_cases q1:min a b<0
 ·simp only [ir34,go_sem,h30,q1]
 ·have q2:=hab.resolve_left q1
  simp only [ir34,go_sem,h30,q1,q2]
attribute [local go_sem] m_ x_ l_ k_ o_ t_ a_ s_ q_ b_ c_ u_ g_ zp zf zm zq z28 z27 zh zl zk zc zj z2s
theorem mk_ag {n:Nat} (hn:n≤8)(g:Nat)(hg:g % 2=1) {out:List Nat} (h:clP out 0=none)(x:Nat):clP (mkS n g out x) 0=none:=by
 unfold mkS
 split
 ·exact h
 ·split
  ·exact h
  ·split
   ·exact h
   ·rename_i h3
    rw [zdf] at h⊢
    rw [List.pairwise_append]
    refine ⟨h,by simp,?_⟩
    intro a ha b hb
    rw [List.mem_singleton] at hb
    subst hb
    cases hc:agN a (smN n x)
    ·exfalso
     apply h3
     refine ⟨hg,?_⟩
     rw [List.any_eq_true]
     exact ⟨a,ha,by rw [hc];rfl⟩
    ·rfl
theorem zjp {n:Nat} (hn:n≤8)(g:Nat)(hg:g % 2=1): ∀(zs out:List Nat),clP out 0=none→clP (zs.foldl (mkS n g) out) 0=none
 | [],out,h=>h
 |z::r,out,h=>by
  rw [List.foldl_cons]
  exact zjp hn g hg r _ (mk_ag hn g hg h z)
theorem zni {n:Nat} (hn:n≤8)(g:Nat)(hg:g % 2=1)(zs:List Nat)(k:Nat):clP (madeS n g zs k) 0=none:=zjp hn g hg _ _ rfl
theorem zmp (s a b:Nat):((s >>>a)^^^(s >>>b)) % 2=if xorN a b s=true then 1 else 0:=by
 have h:=Nat.testBit_zero ((s >>>a)^^^(s >>>b))
 rw [Nat.testBit_xor,Nat.testBit_shiftRight,Nat.testBit_shiftRight,Nat.add_zero,Nat.add_zero] at h
 unfold xorN
 have h2:=Nat.mod_two_eq_zero_or_one ((s >>>a)^^^(s >>>b))
 cases hb:(s.testBit a^^s.testBit b)
 ·rw [hb] at h
  have h3:(s.testBit a !=s.testBit b)=false:=hb
  rw [h3,if_neg (by simp)]
  have:=h.symm;simp only [decide_eq_false_iff_not] at this;omega
 ·rw [hb] at h
  have h3:(s.testBit a !=s.testBit b)=true:=hb
  rw [h3,if_pos rfl]
  have:=h.symm;simp only [decide_eq_true_eq] at this;exact this
theorem zld (C Bs Ds Fs:List AV)(hC1: ∀n,okRefs n C=true)(hC2: ∀n T acc,renCells n T acc C=(C,acc))(hB1: ∀n,okRefs n Bs=true)(hB2: ∀n T acc,renCells n T acc Bs=(Bs,acc))(hD1: ∀n,okRefs n Ds=true)(hD2: ∀n T acc,renCells n T acc Ds=(Ds,acc))(hF1: ∀n,okRefs n Fs=true)(hF2: ∀n T acc,renCells n T acc Fs=(Fs,acc))(n:Nat)(ss X:List Nat)(hss: ∀s∈ss,s<256)(hk:ss.length≤13)(a b i j:Nat)(ha:a<8)(hb:b<8)(k:Nat)(w:Nat)(hok:k≤ss.length∧w≤k)(env:Env)(st:St)
  (hg:gcAV true 4 0 (canon env [3,5,6,7,8,10,11,12,13,45,46,49,50,53,54,55]) st=([(3,.ptr 1 0),(5,J n),(6,sl 1 true (ss.map U)),(7,sl 1 true (X.map tM)),(8,.ptr 2 0),(10,.ptr 3 0),(11,J a),(12,J b),(13,J w),(45,J n),(46,J i),(49,J n),(50,J j),(53,sl 1 true (ss.map U)),(54,J ss.length),(55,J k)],⟨[C,Bs,Ds,Fs],[]⟩)):
  ∃x_1 en s,lim (headed pure (run L) true [3,5,6,7,8,10,11,12,13,45,46,49,50,53,54,55] lp12_0 4 0) env st=some (x_1,en,s)∧(x_1=.exit 4∧en.get 3=.ptr 1 0∧en.get 5=J n∧en.get 6=sl 1 true (ss.map U)∧en.get 7=sl 1 true (X.map tM)∧en.get 8=.ptr 2 0∧en.get 10=.ptr 3 0∧en.get 11=J a∧en.get 12=J b∧en.get 13=J (w+(ss.drop k).countP (xorN a b))∧en.get 45=J n∧en.get 46=J i∧en.get 49=J n∧en.get 50=J j∧s=⟨[C,Bs,Ds,Fs],[]⟩):=by
 refine z9 (α:=Nat×Nat) (fun ⟨k,w⟩=>ss.length-k) (fun ⟨k,w⟩=>k≤ss.length∧w≤k) (fun ⟨k,w⟩=>([(3,.ptr 1 0),(5,J n),(6,sl 1 true (ss.map U)),(7,sl 1 true (X.map tM)),(8,.ptr 2 0),(10,.ptr 3 0),(11,J a),(12,J b),(13,J w),(45,J n),(46,J i),(49,J n),(50,J j),(53,sl 1 true (ss.map U)),(54,J ss.length),(55,J k)],⟨[C,Bs,Ds,Fs],[]⟩)) (fun ⟨k,w⟩ x_1 en s=>x_1=.exit 4∧en.get 3=.ptr 1 0∧en.get 5=J n∧en.get 6=sl 1 true (ss.map U)∧en.get 7=sl 1 true (X.map tM)∧en.get 8=.ptr 2 0∧en.get 10=.ptr 3 0∧en.get 11=J a∧en.get 12=J b∧en.get 13=J (w+(ss.drop k).countP (xorN a b))∧en.get 45=J n∧en.get 46=J i∧en.get 49=J n∧en.get 50=J j∧s=⟨[C,Bs,Ds,Fs],[]⟩) (fun ⟨k,w⟩ hok=> ?_) ⟨k,w⟩ hok env st hg
 simp only at hok
 obtain ⟨h1,h2⟩:=hok
 dsimp only at h1 h2⊢
 by_cases h:k<ss.length
 ·have hs:=zg k (by omega)
  have hlt:((k:Int)<(ss.length:Int))=True:=eT (by omega)
  have hx:=z37 U true ss k h
  have hd:ss.drop k=ss[k]::ss.drop (k+1):=List.drop_eq_getElem_cons h
  have h8:=hss ss[k] (List.getElem_mem h)
  rw [hd,List.countP_cons]
  generalize ss[k]=v at*
  have e1:=shr_u v a
  have e2:=shr_u v b
  rw [min64 a (by omega)] at e1
  rw [min64 b (by omega)] at e2
  have s1:v >>>a<256:=Nat.lt_of_le_of_lt (Nat.shiftRight_le _ _) h8
  have s2:v >>>b<256:=Nat.lt_of_le_of_lt (Nat.shiftRight_le _ _) h8
  have e3:=xorU _ _ s1 s2
  have e4:=zo9 ((v >>>a)^^^(v >>>b))
  rw [zmp] at e4
  have hw0:IntKind.i64.wrap (((if xorN a b v=true then 1 else 0:Nat):Int))=((if xorN a b v=true then 1 else 0:Nat):Int):=by
   split<;>rfl
  have hw1:IntKind.i64.wrap ((w:Int)+((if xorN a b v=true then 1 else 0:Nat):Int))=((w+(if xorN a b v=true then 1 else 0):Nat):Int):=by
   rw [zy]<;>split<;>omega
  have e5:w+((ss.drop (k+1)).countP (xorN a b)+if xorN a b v=true then 1 else 0)=(w+if xorN a b v=true then 1 else 0)+(ss.drop (k+1)).countP (xorN a b):=by omega
  rw [e5]
  have hle:(if xorN a b v=true then 1 else 0)≤1:=by split<;>omega
  generalize (if xorN a b v=true then 1 else 0)=d at*
  simp only [go_sem,lp12_0,hlt,hs,hx,e1,e2,e3,e4,hw0,hw1]
  refine ⟨(k+1,w+d),by simp only [go_sem,z3,z4,z5,hC1,hC2,hB1,hB2,hD1,hD2,hF1,hF2]<;>rfl,?_,?_,fun x en s hq=> ?_⟩
  ·dsimp only;omega
  ·dsimp only;omega
  ·exact hq
 ·have e:ss.drop k=[]:=List.drop_eq_nil_of_le (by omega)
  have hlt:((k:Int)<(ss.length:Int))=False:=eF (by omega)
  rw [e]
  simp only [go_sem,lp12_0,hlt]
  rfl
def FarTo (n:Nat) (f:Nat→Nat→Nat) (i j:Nat) (F:List Nat):Prop:=F.length=64∧∀x y,x<n→y<n→(x<i∨x=i∧y<j)→F.getD (x*8+y) 0=f x y
theorem zm0 {n:Nat} (hn:n≤8) {f:Nat→Nat→Nat} {i j:Nat} (hi:i<n)(hj:j<n) {F:List Nat} (h:FarTo n f i j F):FarTo n f i (j+1) (F.set (i*8+j) (f i j)):=by
 obtain ⟨h1,h2⟩:=h
 refine ⟨by rw [List.length_set];exact h1,fun x y hx hy hxy=> ?_⟩
 rw [z16]
 by_cases e:i*8+j=x*8+y
 ·have:x=i:=by omega
  have:y=j:=by omega
  subst_vars
  rw [if_pos ⟨rfl,by omega⟩]
 ·rw [if_neg (fun h=>e h.1)]
  apply h2 x y hx hy
  rcases hxy with h| ⟨h,h3⟩
  ·left;exact h
  ·right;refine ⟨h,?_⟩
   subst h;omega
theorem zo0 {n:Nat} {f:Nat→Nat→Nat} {i:Nat} {F:List Nat} (h:FarTo n f i n F):FarTo n f (i+1) 0 F:=by
 refine ⟨h.1,fun x y hx hy hxy=>h.2 x y hx hy ?_⟩
 omega
theorem zlc (C Bs:List AV)(hC1: ∀n,okRefs n C=true)(hC2: ∀n T acc,renCells n T acc C=(C,acc))(hB1: ∀n,okRefs n Bs=true)(hB2: ∀n T acc,renCells n T acc Bs=(Bs,acc))(t:List AV)(htl:t.length=2)(hD1: ∀n,okRefs n t=true)(hD2: ∀n T acc,renCells n T acc t=(t,acc))(hDp:pubs t=t)(n:Nat)(hn:n≤8)(ss X:List Nat)(hss: ∀s∈ss,s<256)(hk:ss.length≤13)(a:Nat)(ha:a<n)(f:Nat→Nat→Nat)(hf: ∀x y,x<n→y<n→f x y=ss.countP (xorN x y))(h32: ∀x y:Nat,x<n→y<n→∀st,run L 32 [J n,sl 1 true (X.map tM),J x,J y] st=some (.tup [J (f x y),I 0],st))(h34: ∀x y:Nat,x<n→y<n→∀st,run L 34 [J n,.agg t,J x,J y] st=some (.tup [J (f x y),I 0],st))(j:Nat)(F:List Nat)(hok:j≤n∧FarTo n f a j F)(env:Env)(st:St)
  (hg:gcAV true 4 0 (canon env [3,5,6,7,8,10,11,45,46,49,50]) st=([(3,.ptr 1 0),(5,J n),(6,sl 1 true (ss.map U)),(7,sl 1 true (X.map tM)),(8,.ptr 2 0),(10,.ptr 3 0),(11,J a),(45,J n),(46,J a),(49,J n),(50,J j)],⟨[C,Bs,t,F.map J],[]⟩)):
  ∃x_1 en s,lim (headed pure (run L) true [3,5,6,7,8,10,11,45,46,49,50] lp12_1 4 0) env st=some (x_1,en,s)∧(x_1=.exit 2∧en.get 3=.ptr 1 0∧en.get 5=J n∧en.get 6=sl 1 true (ss.map U)∧en.get 7=sl 1 true (X.map tM)∧en.get 8=.ptr 2 0∧en.get 10=.ptr 3 0∧en.get 45=J n∧en.get 46=J a∧∃F',FarTo n f a n F'∧s=⟨[C,Bs,t,F'.map J],[]⟩):=by
 refine z9 (α:=Nat×List Nat) (fun ⟨j,F⟩=>n-j) (fun ⟨j,F⟩=>j≤n∧FarTo n f a j F) (fun ⟨j,F⟩=>([(3,.ptr 1 0),(5,J n),(6,sl 1 true (ss.map U)),(7,sl 1 true (X.map tM)),(8,.ptr 2 0),(10,.ptr 3 0),(11,J a),(45,J n),(46,J a),(49,J n),(50,J j)],⟨[C,Bs,t,F.map J],[]⟩)) (fun ⟨j,F⟩ x_1 en s=>x_1=.exit 2∧en.get 3=.ptr 1 0∧en.get 5=J n∧en.get 6=sl 1 true (ss.map U)∧en.get 7=sl 1 true (X.map tM)∧en.get 8=.ptr 2 0∧en.get 10=.ptr 3 0∧en.get 45=J n∧en.get 46=J a∧∃F',FarTo n f a n F'∧s=⟨[C,Bs,t,F'.map J],[]⟩) (fun ⟨j,F⟩ hok=> ?_) ⟨j,F⟩ hok env st hg
 simp only at hok
 obtain ⟨h1,h2⟩:=hok
 dsimp only at h1 h2⊢
 by_cases h:j<n
 ·have hs:=zg j (by omega)
  have hlt:((j:Int)<(n:Int))=True:=eT (by omega)
  have hll:=z6q U true ss
  have hnx:=zm0 hn ha h h2
  have hfe:=hf a j ha h
  have g32:=h32 a j ha h
  have g34:=h34 a j ha h
  have hFl:=h2.1
  simp only [go_sem,lp12_1,hlt,hll]
  generalize hg:lim (headed pure (run L) true _ lp12_0 _ _) _ _=o
  obtain ⟨x,en,s,rfl,h2⟩: ∃x en s,o=some (x,en,s)∧_:=by rw [←hg];exact zld C Bs t (F.map J) hC1 hC2 hB1 hB2 hD1 hD2 (fun n=>z09 n F) (fun n T acc=>zo n T acc F) n ss X hss hk a j a j (by omega) (by omega) 0 0 (by omega) _ _ (by simp only [go_sem,hC1,hC2,hB1,hB2,hD1,hD2,z09,zo,Int.natCast_zero]<;>rfl)
  clear hg
  rw [List.drop_zero,Nat.zero_add,←hfe] at h2
  obtain ⟨rfl,e3,e5,e6,e7,e8,e10,e11,e12,e13,e45,e46,e49,e50,rfl⟩:=h2
  have htk:t.take 2=t:=List.take_of_length_le (by omega)
  have q:((f a j:Int)=(f a j:Int))=True:=eT rfl
  have n1:((0:Int)≤(a:Int))=True:=eT (by omega)
  have n2:((a:Int)<8)=True:=eT (by omega)
  have n3:((0:Int)≤(j:Int))=True:=eT (by omega)
  have n4:((j:Int)<8)=True:=eT (by omega)
  have n5:(a*8+j+1≤(F.map J).length)=True:=eT (by rw [lm_];omega)
  simp only [go_sem,lp12_1,e3,e5,e6,e7,e8,e10,e11,e12,e13,e45,e46,e49,e50,g32,g34,htl,htk,hDp,q,hs,n1,n2,n3,n4,n5]
  refine ⟨(j+1,F.set (a*8+j) (f a j)),by simp only [go_sem,z3,z4,z5,e3,e5,e6,e7,e8,e10,e11,e45,e46,e49,hC1,hC2,hB1,hB2,hD1,hD2,z09,zo]<;>rfl,?_,?_,fun x en s hq=> ?_⟩
  ·dsimp only;exact ⟨by omega,hnx⟩
  ·dsimp only;omega
  ·exact hq
 ·have e:j=n:=by omega
  subst e
  have hlt:((j:Int)<(j:Int))=False:=eF (by omega)
  simp only [go_sem,lp12_1,hlt]
  exact ⟨F,h2,rfl⟩
theorem zlb (C Bs:List AV)(hC1: ∀n,okRefs n C=true)(hC2: ∀n T acc,renCells n T acc C=(C,acc))(hB1: ∀n,okRefs n Bs=true)(hB2: ∀n T acc,renCells n T acc Bs=(Bs,acc))(t:List AV)(htl:t.length=2)(hD1: ∀n,okRefs n t=true)(hD2: ∀n T acc,renCells n T acc t=(t,acc))(hDp:pubs t=t)(n:Nat)(hn:n≤8)(ss X:List Nat)(hss: ∀s∈ss,s<256)(hk:ss.length≤13)(f:Nat→Nat→Nat)(hf: ∀x y,x<n→y<n→f x y=ss.countP (xorN x y))(h32: ∀x y:Nat,x<n→y<n→∀st,run L 32 [J n,sl 1 true (X.map tM),J x,J y] st=some (.tup [J (f x y),I 0],st))(h34: ∀x y:Nat,x<n→y<n→∀st,run L 34 [J n,.agg t,J x,J y] st=some (.tup [J (f x y),I 0],st))(i:Nat)(F:List Nat)(hok:i≤n∧FarTo n f i 0 F)(env:Env)(st:St)
  (hg:gcAV true 4 0 (canon env [3,5,6,7,8,10,45,46]) st=([(3,.ptr 1 0),(5,J n),(6,sl 1 true (ss.map U)),(7,sl 1 true (X.map tM)),(8,.ptr 2 0),(10,.ptr 3 0),(45,J n),(46,J i)],⟨[C,Bs,t,F.map J],[]⟩)):
  ∃x_1 en s,lim (headed pure (run L) true [3,5,6,7,8,10,45,46] lp12_2 4 0) env st=some (x_1,en,s)∧(x_1=.exit 0∧en.get 3=.ptr 1 0∧en.get 5=J n∧en.get 7=sl 1 true (X.map tM)∧en.get 8=.ptr 2 0∧en.get 10=.ptr 3 0∧∃F',FarTo n f n 0 F'∧s=⟨[C,Bs,t,F'.map J],[]⟩):=by
 refine z9 (α:=Nat×List Nat) (fun ⟨i,F⟩=>n-i) (fun ⟨i,F⟩=>i≤n∧FarTo n f i 0 F) (fun ⟨i,F⟩=>([(3,.ptr 1 0),(5,J n),(6,sl 1 true (ss.map U)),(7,sl 1 true (X.map tM)),(8,.ptr 2 0),(10,.ptr 3 0),(45,J n),(46,J i)],⟨[C,Bs,t,F.map J],[]⟩)) (fun ⟨i,F⟩ x_1 en s=>x_1=.exit 0∧en.get 3=.ptr 1 0∧en.get 5=J n∧en.get 7=sl 1 true (X.map tM)∧en.get 8=.ptr 2 0∧en.get 10=.ptr 3 0∧∃F',FarTo n f n 0 F'∧s=⟨[C,Bs,t,F'.map J],[]⟩) (fun ⟨i,F⟩ hok=> ?_) ⟨i,F⟩ hok env st hg
 simp only at hok
 obtain ⟨h1,h2⟩:=hok
 dsimp only at h1 h2⊢
 by_cases h:i<n
 ·have hs:=zg i (by omega)
  have hlt:((i:Int)<(n:Int))=True:=eT (by omega)
  simp only [go_sem,lp12_2,hlt]
  generalize hg:lim (headed pure (run L) true _ lp12_1 _ _) _ _=o
  obtain ⟨x,en,s,rfl,h2⟩: ∃x en s,o=some (x,en,s)∧_:=by rw [←hg];exact zlc C Bs hC1 hC2 hB1 hB2 t htl hD1 hD2 hDp n hn ss X hss hk i h f hf h32 h34 0 F ⟨by omega,h2⟩ _ _ (by simp only [go_sem,hC1,hC2,hB1,hB2,hD1,hD2,z09,zo,Int.natCast_zero]<;>rfl)
  clear hg
  obtain ⟨rfl,e3,e5,e6,e7,e8,e10,e45,e46,F2,hF2,rfl⟩:=h2
  simp only [go_sem,lp12_2,e3,e5,e6,e7,e8,e10,e45,e46,hs]
  refine ⟨(i+1,F2),by simp only [go_sem,z3,z4,z5,e3,e5,e6,e7,e8,e10,e45,hC1,hC2,hB1,hB2,hD1,hD2,z09,zo]<;>rfl,?_,?_,fun x en s hq=> ?_⟩
  ·dsimp only;exact ⟨by omega,zo0 hF2⟩
  ·dsimp only;omega
  ·exact hq
 ·have e:i=n:=by omega
  subst e
  have hlt:((i:Int)<(i:Int))=False:=eF (by omega)
  simp only [go_sem,lp12_2,hlt]
  exact ⟨F,h2,rfl⟩
theorem zgw {x y z:Int} (h:(y=z∧x≤y)∨(x=z∧y≤x)∨(x=y∧z≤x)): ∃c m,sortL ltI [x,y,z]=[c,m,m]:=by
 rcases h with ⟨rfl,h⟩ | ⟨rfl,h⟩ | ⟨rfl,h⟩
 ·refine ⟨x,y,?_⟩
  simp [sortL,insL,insR,ltI,show ¬y<x by omega]
 ·by_cases e:y<x
  ·refine ⟨y,x,?_⟩
   simp [sortL,insL,insR,ltI,e]
  ·have:x=y:=by omega
   subst this
   refine ⟨x,x,?_⟩
   simp [sortL,insL,insR,ltI]
 ·by_cases e:z<x
  ·refine ⟨z,x,?_⟩
   simp [sortL,insL,insR,ltI,e]
  ·have:x=z:=by omega
   subst this
   refine ⟨x,x,?_⟩
   simp [sortL,insL,insR,ltI]
attribute [local go_sem] m_ x_ l_ k_ o_ t_ a_ s_ q_ b_ c_ u_ g_ zp zf zm zq z28 z27 zh zl zk zc zj z2s
theorem zo3 (a g:Nat)(zs:List Nat)(m w:Nat):(cutC a g zs m w).set 1 (.v (.int .u8 1))=cutC a 1 zs m w:=rfl
theorem zju (n:Nat)(f:Nat→Nat→Nat):FarTo n f 0 0 (List.replicate 64 0):=⟨by simp,fun x y _ _ h=>by omega⟩
theorem c12 (a g:Nat)(ha:a<256)(zs:List Nat)(hz:zs.length=13)(hzs: ∀z∈zs,z<256)(m w:Nat)(hm:m<256)(b0 b1 b2 b3:Nat)(hb0:b0<256)(hb1:b1<256)(hb2:b2<256)(hb3:b3<256):
  run L 12 [cutAV a g zs m w,.agg [u8 b0,u8 b1,u8 b2,u8 b3]] ⟨[],[]⟩=some (B true,⟨[],[]⟩):=by
 rw [run_pure (fn:=ir12) rfl rfl]
 have hd:=Nat.mod_lt a (show 0<7 by decide)
 have h38:=fun st=>c38 a 1 ha zs hz hzs m w hm 8 7 (.inr (.inr ⟨rfl,rfl⟩)) st
 have hmk:=znh (n:=2+a % 7) (by omega) 1 zs (m % 14)
 have hag:=zni (n:=2+a % 7) (by omega) 1 rfl zs (m % 14)
 have hm14:m % 14≤13:=by omega
 generalize hn:2+a % 7=n at*
 have hn2:2≤n∧n≤8:=by omega
 have h2n:2^n≤256:=Nat.pow_le_pow_right (n:=2) (by decide) hn2.2
 obtain ⟨hS,hSl⟩:=hmk
 generalize madeS n 1 zs (m % 14)=ss at*
 have hun:cutAV a g zs m w=.agg (cutC a g zs m w):=rfl
 have hl17:(cutC a g zs m w).length=17:=lenC a g zs hz m w
 have hl17':(cutC a 1 zs m w).length=17:=lenC a 1 zs hz m w
 have htk:(cutC a 1 zs m w).take 17=cutC a 1 zs m w:=List.take_of_length_le (by omega)
 have h256: ∀s∈ss,s<256:=fun s h=>Nat.lt_of_lt_of_le (hS.lt s h) h2n
 have h39: ∀st,run L 39 [.agg (cutC a 1 zs m w),J n,sl 1 true (ss.map U)] st=some (sl 1 true ((toldL n w 0 ss).map tM),st):=fun st=>c39 n (by omega) a 1 zs hz m w true ss h256 (by omega) st
 have hsm:=zfv (n:=n) (by omega) w 0 ss hS.even
 have hgd:=zdr (n:=n) (by omega) w 0 ss (fun s h=>⟨hS.lt s h,hS.ne s h,hS.even s h⟩)
 have hLl:=zfw n w 0 ss
 have h38: ∀st,run L 38 [.agg (cutC a 1 zs m w),I 8] st=some (.tup [J n,sl 1 true (ss.map U)],st):=h38
 have hnd:((toldL n w 0 ss).map (smlN n)).Nodup:=by rw [hsm];exact hS.nd
 have hl13:(toldL n w 0 ss).length≤13:=by rw [hLl];omega
 have hag':clP ((toldL n w 0 ss).map (smlN n)) 0=none:=by rw [hsm];exact hag
 have h26:=fun st=>c26 n hn2.1 hn2.2 true (toldL n w 0 ss) hgd hnd hl13 hag' st
 have h32:=fun x y hx hy st=>c32 n hn2.1 hn2.2 true (toldL n w 0 ss) hgd hnd hl13 x y hx hy st
 have h32x:=fun x y hxy st=>c32x n hn2.1 hn2.2 true (toldL n w 0 ss) hgd hnd hl13 x y hxy st
 rw [hsm] at h26 h32
 generalize toldL n w 0 ss=LL at*
 have hlam:=(hS.lam hn2.2 hag).srt hn2.2
 have htree:=zje hn2.2 hlam
 have hsl:=zcp h256
 have hso:=zgv ss
 have hread:=zhx hn2.2 hlam htree (by omega) hso
 have hUl:=htree.ul
 have hAl:=htree.al
 have tU:=zhz hn2.2 hlam htree
 have tA:=zmb hn2.2 hlam htree
 have tE:=zcl hn2.2 hlam htree
 have hft:=fun x y hx hy=>zlz hn2.2 hlam htree (a:=x) (b:=y) hx hy
 generalize growN (srt ss) n (ordG (srt ss))=UW at*
 obtain ⟨Us,W⟩:=UW
 dsimp only at*
 have hr0:(readN Us W).1=0:=by rw [hread]
 have h34: ∀x y:Nat,x<n→y<n→∀st,run L 34 [J n,.agg [sl 1 false (Us.map J),sl 1 false (W.map J)],J x,J y] st=some (.tup [J (ss.countP (xorN x y)),I 0],st):=by
  intro x y hx hy st
  have:=c34 n hn2.1 hn2.2 false false Us W tU tA (by omega) hAl tE hr0 x y hx hy st
  rw [hft x y hx hy,(z81 h256).countP_eq] at this
  exact this
 have h34x:=fun x y hxy st=>c34x n hn2.1 hn2.2 false false Us W tU tA (by omega) hAl hr0 x y hxy st
 have hD1: ∀n,okRefs n [sl 1 false (Us.map J),sl 1 false (W.map J)]=true:=fun n=>by simp only [okRefs,z18,Bool.and_self]
 have hD2: ∀n T acc,renCells n T acc [sl 1 false (Us.map J),sl 1 false (W.map J)]=([sl 1 false (Us.map J),sl 1 false (W.map J)],acc):=fun n T acc=>by simp only [renCells,z2c]
 have hDp:pubs [sl 1 false (Us.map J),sl 1 false (W.map J)]=[sl 1 false (Us.map J),sl 1 false (W.map J)]:=by simp only [pubs,z6j,List.map_cons,List.map_nil]
 have hut:treeA (Us,W)=.agg [sl 1 false (Us.map J),sl 1 false (W.map J)]:=rfl
 rw [hut] at h26
 have hC1:=fun k=>z21 k a 1 zs m w
 have hC2:=fun k T acc=>z03 k T acc a 1 zs m w
 have hB1: ∀n,okRefs n [u8 b0,u8 b1,u8 b2,u8 b3]=true:=fun n=>rfl
 have hB2: ∀n T acc,renCells n T acc [u8 b0,u8 b1,u8 b2,u8 b3]=([u8 b0,u8 b1,u8 b2,u8 b3],acc):=fun n T acc=>rfl
 have hF0:=zju n (fun x y=>ss.countP (xorN x y))
 have hcs:=zo3 a g zs m w
 simp only [ir12,hun,go_sem,z21,z03,zn8,za1,hl17,hl17',htk,hcs,h38,h39,h26]
 generalize hg:lim (headed pure (run L) true _ lp12_2 _ _) _ _=o
 obtain ⟨x,en,s,rfl,h2⟩: ∃x en s,o=some (x,en,s)∧_:=by rw [←hg];exact zlb (cutC a 1 zs m w) [u8 b0,u8 b1,u8 b2,u8 b3] hC1 hC2 hB1 hB2 [sl 1 false (Us.map J),sl 1 false (W.map J)] rfl hD1 hD2 hDp n hn2.2 ss LL h256 (by omega) (fun x y=>ss.countP (xorN x y)) (fun _ _ _ _=>rfl) h32 h34 0 (List.replicate 64 0) ⟨by omega,hF0⟩ _ _ (by simp only [go_sem,z21,z03,z09,zo,Int.natCast_zero]<;>rfl)
 clear hg
 obtain ⟨rfl,e3,e5,e7,e8,e10,F,hF,rfl⟩:=h2
 have cw: ∀b:Nat,b<256→IntKind.i64.wrap (b:Int)=(b:Int):=fun b hb=>by rw [zy]<;>omega
 have cm: ∀b:Nat,((b:Int)).tmod (n:Int)=((b % n:Nat):Int):=fun b=>by rw [Int.tmod_eq_emod_of_nonneg (by omega)];rfl
 have cl: ∀b:Nat,b % n<n:=fun b=>Nat.mod_lt _ (by omega)
 have w0:=cw b0 hb0
 have w1:=cw b1 hb1
 have w2:=cw b2 hb2
 have w3:=cw b3 hb3
 have m0:=cm b0
 have m1:=cm b1
 have m2:=cm b2
 have m3:=cm b3
 have l0:=cl b0
 have l1:=cl b1
 have l2:=cl b2
 have l3:=cl b3
 generalize b0 % n=x0 at*
 generalize b1 % n=x1 at*
 generalize b2 % n=x2 at*
 generalize b3 % n=x3 at*
 have hz0:((n:Int)=0)=False:=eF (by omega)
 have hFl:=hF.1
 have p1: ∀x:Nat,((0:Int)≤(x:Int))=True:=fun x=>eT (by omega)
 have p2: ∀x:Nat,x<n→((x:Int)<8)=True:=fun x hx=>eT (by omega)
 have p20:=p2 x0 l0
 have p21:=p2 x1 l1
 have p22:=p2 x2 l2
 have p23:=p2 x3 l3
 have gF: ∀x y,x<n→y<n→(F.map J)[x*8+y]? =some (J (ss.countP (xorN x y))):=fun x y hx hy=>by
  rw [getJ F _ (by omega),hF.2 x y hx hy (.inl hx)]
 have g01:=gF x0 x1 l0 l1
 have g23:=gF x2 x3 l2 l3
 have g02:=gF x0 x2 l0 l2
 have g13:=gF x1 x3 l1 l3
 have g03:=gF x0 x3 l0 l3
 have g12:=gF x1 x2 l1 l2
 have cnt: ∀x y,ss.countP (xorN x y)≤13:=fun x y=>Nat.le_trans List.countP_le_length (by omega)
 have wsum: ∀x y z t,IntKind.i64.wrap ((ss.countP (xorN x y):Int)+(ss.countP (xorN z t):Int))=((sumX ss x y z t:Nat):Int):=fun x y z t=>by
  have:=cnt x y
  have:=cnt z t
  unfold sumX
  rw [zy]<;>omega
 have s1:=wsum x0 x1 x2 x3
 have s2:=wsum x0 x2 x1 x3
 have s3:=wsum x0 x3 x1 x2
 have hfour:=zjl (L:=ss) hS.even (fun s hs t ht=>(zmn (h256 s hs) (h256 t ht)).1 ((hS.lam hn2.2 hag).ag s hs t ht)) x0 x1 x2 x3
 obtain ⟨c,d,hsort⟩:=zgw (x:=(sumX ss x0 x1 x2 x3:Int)) (y:=(sumX ss x0 x2 x1 x3:Int)) (z:=(sumX ss x0 x3 x1 x2:Int)) (by omega)
 have h63:run L 63 [.rsl 4 0 3 3 1 false] ⟨[cutC a 1 zs m w,[u8 b0,u8 b1,u8 b2,u8 b3],[sl 1 false (Us.map J),sl 1 false (W.map J)],F.map J,[J (sumX ss x0 x1 x2 x3),J (sumX ss x0 x2 x1 x3),J (sumX ss x0 x3 x1 x2)]],[]⟩=some (.tup [],⟨[cutC a 1 zs m w,[u8 b0,u8 b1,u8 b2,u8 b3],[sl 1 false (Us.map J),sl 1 false (W.map J)],F.map J,[I c,I d,I d]],[]⟩):=by
  have:=c63 [cutC a 1 zs m w,[u8 b0,u8 b1,u8 b2,u8 b3],[sl 1 false (Us.map J),sl 1 false (W.map J)],F.map J,[J (sumX ss x0 x1 x2 x3),J (sumX ss x0 x2 x1 x3),J (sumX ss x0 x3 x1 x2)]] [] 4 [(sumX ss x0 x1 x2 x3:Int),(sumX ss x0 x2 x1 x3:Int),(sumX ss x0 x3 x1 x2:Int)] rfl (by simp) (by simp)
  rw [hsort] at this
  exact this
 have hnew:newM 1 false [J (sumX ss x0 x1 x2 x3),J (sumX ss x0 x2 x1 x3),J (sumX ss x0 x3 x1 x2)] ⟨[cutC a 1 zs m w,[u8 b0,u8 b1,u8 b2,u8 b3],[sl 1 false (Us.map J),sl 1 false (W.map J)],F.map J],[]⟩=some (.rsl 4 0 3 3 1 false,⟨[cutC a 1 zs m w,[u8 b0,u8 b1,u8 b2,u8 b3],[sl 1 false (Us.map J),sl 1 false (W.map J)],F.map J,[J (sumX ss x0 x1 x2 x3),J (sumX ss x0 x2 x1 x3),J (sumX ss x0 x3 x1 x2)]],[]⟩):=rfl
 generalize sumX ss x0 x1 x2 x3=y1 at*
 generalize sumX ss x0 x2 x1 x3=y2 at*
 generalize sumX ss x0 x3 x1 x2=y3 at*
 have i1:indexSAV 1 (.rsl 4 0 3 3 1 false) (.v (.int .i64 1))=some (.ptr 4 1):=rfl
 have i2:indexSAV 1 (.rsl 4 0 3 3 1 false) (.v (.int .i64 2))=some (.ptr 4 2):=rfl
 have h32x:=h32x n 0 (.inr (by omega))
 have h34x:=h34x 0 n (.inr (by omega))
 simp only [go_sem,e3,e5,e7,e8,e10,w0,w1,w2,w3,m0,m1,m2,m3,hz0,hFl,p1,p20,p21,p22,p23,lm_,g01,g23,g02,g13,g03,g12,s1,s2,s3,hnew,h63,h32x,h34x,c15,i1,i2,show pure 63=false from rfl]
end Go.Proofs.YtdnmhlfjafjkbaaGreatDoor.Vm
namespace Go.Proofs.YtdnmhlfjafjkbaaGreatDoor.Vm
open Go Go.Ev Go.ChangeShapes Go.WideShapes Go.ChangeAt Go.RowKit
set_option maxRecDepth 100000
set_option maxHeartbeats 4000000
attribute [local go_sem] m_ x_ l_ k_ o_ t_ a_ s_ q_ b_ c_ u_ g_ z3p z0i z4m z1j z3k z0d z4i z0u z1v z01 z2q z1i z3j z0c z4h z1m z3n z0g z4k z0v z1w z02 z2r z0t z1u zz z2n z1l z3m z0f z2k z56 z0s z6g z1n z3o z0h z4l z1o z1e z0j z4n z1h z3i z0b z4g z1k z3l z0e z4j z2p z17 z2o z5x z6r z6s z4t z2w z2z z2y z2x z3b z3c z51 z4v z70 z0k z3q z2m z0z z2u z3e z3g z53 z54 z52 z3h z1t z0w z4e z2l z1s z11 z05 z1y z12 z2t z6l z4p z1f z0q z1g pubs pub z6j params z22 z00 z15 z25 z30 z3d z5y untips untip z4c wantedAV setElems withO z6t z36 z33 z32 z4x z35 z31 z4w z34 List.replicate_succ List.replicate_zero opAV valAV aval avals ofVal Env.get setD canon gcAV renAll renEnv renStore renCells z2c cutSt okEnv okStore okRefs okRef z18 z74 z57 z73 z71 z72 z75 cellsEq cellEq isShift intOp boolOp z6m z6n z76 bne resAV tupAV z4u z9j z62 fins zep z61 z6w z6v z9k storeAV readCells putCells z55 z2j z0r fieldAddrAV z8i goI List.getElem?_cons_zero List.getElem?_cons_succ List.getElem?_nil Option.bind_some Option.map_some List.length_cons List.length_nil List.all_cons List.all_nil Bool.and_true Bool.true_and Bool.and_false Bool.false_and and_true true_and and_false false_and Bool.false_eq_true List.set_cons_zero List.set_cons_succ List.append_nil List.nil_append List.cons_append List.take_zero List.take_succ_cons List.take_nil List.drop_zero List.drop_succ_cons List.map_cons List.map_nil decide_true decide_false beq_self_eq_true Bool.not_true Bool.not_false or_true true_or or_false false_or Nat.zero_add Nat.add_zero Nat.le_refl Nat.lt_irrefl decide_eq_true_eq eq_self_iff_true not_true_eq_false not_false_eq_true List.getD_cons_zero z3f Nat.zero_le Nat.not_lt_zero Bool.true_beq Bool.false_beq beq_true beq_false ge_iff_le gt_iff_lt keepR keepT ownTop zf6 pus Option.map_none z20 z1z z4z z38 z4y Int.cast_ofNat_Int Nat.mul_one Nat.zero_mul Int.toNat_natCast Int.toNat_zero setParts withO2 hasKey z50 z4q z3a z2v z0y z0m zt z1q setm z48 z5t z5b z90 z97 zbs z7d z5g z46 z2f z7f z5k z5f z3x z5u z45 z7e z5i z42 z2d z7h z5l z7p z43 z44 z5q z2b z7a z5e z5d z7b Option.bind_none Bool.not_eq_true' decide_eq_false_iff_not Bool.and_eq_true Bool.or_eq_true Option.some.injEq Int.not_lt Int.not_le
attribute [local go_sem_proc] reduceIte Nat.reduceEqDiff Nat.reduceAdd Nat.reduceSub Nat.reduceLeDiff Nat.reduceLT reduceCtorEq Int.reduceLT Int.reduceLE Int.reduceEq Int.reduceBEq Int.reduceSub Int.reduceAdd Int.reduceMul Int.reduceNeg Int.reduceToNat Nat.reduceMul Nat.reduceBEq
theorem zo4:Tryz.prog.cellsOf 88=4:=by kernel_rfl
theorem sh_four {a:AV} (h:ShV Tryz.prog 8 88 a): ∃b0 b1 b2 b3:Nat,a=.agg [u8 b0,u8 b1,u8 b2,u8 b3]∧b0<256∧b1<256∧b2<256∧b3<256:=by
 unfold ShV at h
 rw [if_pos (by unfold aggB;rw [Tryz.underlying88])] at h
 obtain ⟨cs,rfl,hs⟩:=h
 unfold Sh at hs
 simp only [Tryz.underlying88,zo4,zk0] at hs
 obtain ⟨zs,h1,h2,h3⟩:=zbb 4 cs (by omega) (fun i hi=>by
  have:=hs.2 i hi
  rw [Nat.mul_one] at this
  exact z8f this)
 subst h1
 match zs,h2 with
 | [b0,b1,b2,b3],_=>exact ⟨b0,b1,b2,b3,rfl,h3 _ (by simp),h3 _ (by simp),h3 _ (by simp),h3 _ (by simp)⟩
end Go.Proofs.YtdnmhlfjafjkbaaGreatDoor.Vm
