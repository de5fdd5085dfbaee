/- What is proved: what each function of this program computes, as equations on the evaluator. No condition. -/
import Derived.Test.YtdnmhlfjafjkbaaGreatDoorC3
import Derived.Test.YtdnmhlfjafjkbaaGreatDoorT0
set_option linter.all false
namespace Go.Proofs.YtdnmhlfjafjkbaaGreatDoor.Vm
open Go Go.Ev
set_option maxRecDepth 100000
attribute [local go_sem] m_ x_ l_ k_ cells_any storable_any ren1_any shaped_ptr cells_ptr storable_ptr ren1_ptr shaped_eptr cells_eptr storable_eptr ren1_eptr shaped_rsl cells_rsl storable_rsl ren1_rsl shaped_int cells_int storable_int ren1_int shaped_bool cells_bool storable_bool ren1_bool shaped_nils cells_nils storable_nils ren1_nils shaped_lst cells_lst storable_lst shaped_fn cells_fn storable_fn ren1_fn shaped_ifc cells_ifc storable_ifc ren1_ifc shaped_agg cells_agg storable_agg ren1_agg shaped_tup cells_tup storable_tup ren1_tup shaped_nif cells_nif storable_nif ren1_nif ren1_lany ren1_lfull ren1_lown len_lst len_rsl len_nil load_ptr load_eptr isRsl_lst isRsl_nil isRsl_rsl elems_nil elems_lst elems_sl isRsl_sl body_eq bodyK_normal bodyK_ret resK_some leaveK_some only_some code_skip code_exit code_ret code_ops code_seq code_cond code_block seqK_normal seqK_ret seqK_exit condK_true condK_false blockK_normal blockK_ret blockK_exit opsK_some ops_nil ops_cons wantK_true wantK_false stepK_some pubs pub pub_sl params okRef_loc storable_loc shaped_loc cells_loc isRsl_loc elems_loc len_loc untips untip untip_sl wantedAV setElems withO isAgg_v isAgg_agg isAgg_lst isAgg_ptr isAgg_fn isAgg_ifc isAgg_rsl isAgg_sl isAgg_loc List.replicate_succ List.replicate_zero opAV valAV aval avals ofVal Env.get setD canon gcAV renAll renEnv renStore renCells ren1_sl cutSt okEnv okStore okRefs okRef okRef_sl bin_int bin_bool bin_lst bin_rsl bin_nil bin_agg cellsEq cellEq isShift intOp boolOp min_int max_int beq_int bne resAV tupAV leave_eq fin_sl fin_loc fins fin_v fin_lst fin_agg fin_tup fin_fn storeAV readCells putCells cells_sl shaped_sl storable_sl fieldAddrAV len_sl goI List.getElem?_cons_zero List.getElem?_cons_succ List.getElem?_nil Option.bind_some Option.map_some List.length_cons List.length_nil List.all_cons List.all_nil Bool.and_true Bool.true_and Bool.and_false Bool.false_and and_true true_and and_false false_and Bool.false_eq_true List.set_cons_zero List.set_cons_succ List.append_nil List.nil_append List.cons_append List.take_zero List.take_succ_cons List.take_nil List.drop_zero List.drop_succ_cons List.map_cons List.map_nil decide_true decide_false beq_self_eq_true Bool.not_true Bool.not_false or_true true_or or_false false_or Nat.zero_add Nat.add_zero Nat.le_refl Nat.lt_irrefl decide_eq_true_eq eq_self_iff_true not_true_eq_false not_false_eq_true List.getD_cons_zero code_loop Nat.zero_le Nat.not_lt_zero Bool.true_beq Bool.false_beq beq_true beq_false ge_iff_le gt_iff_lt keepR keepT ownTop Lpure pus Option.map_none assert_ifc assert_nil idxA_ptr idxA_eptr idxV_agg Int.cast_ofNat_Int Nat.mul_one Nat.zero_mul Int.toNat_natCast Int.toNat_zero setParts withO2 hasKey eqnil_sl nenil_sl eqnil_loc nenil_loc map_nil_iff okRefs_ints renCells_ints index_rsl_if setm make_ints condK_dec wantK_dec not_dec and_dec or_dec seqK_ite seqK_none blockK_ite blockK_none opsK_ite opsK_none stepK_ite stepK_none bodyK_ite bodyK_none resK_ite resK_none leaveK_ite leaveK_none only_ite only_none bind_ite gives_some gives_none gives_ite then_normal then_ret then_exit then_none then_ite Option.bind_none Bool.not_eq_true' decide_eq_false_iff_not Bool.and_eq_true Bool.or_eq_true Option.some.injEq Int.not_lt Int.not_le
attribute [local go_sem_proc] reduceIte Nat.reduceEqDiff Nat.reduceAdd Nat.reduceSub Nat.reduceLeDiff Nat.reduceLT reduceCtorEq Int.reduceLT Int.reduceLE Int.reduceEq Int.reduceBEq Int.reduceSub Int.reduceAdd Int.reduceMul Int.reduceNeg Int.reduceToNat Nat.reduceMul Nat.reduceBEq
theorem walkO_bit (U:List Nat)(a:Nat): ∀(f w:Nat) (O:List Nat),(∀t,itC U t w≤O.length)→∀k,k<O.length→∀b,
  ((walkO U a f w O).getD k 0).testBit b=((O.getD k 0).testBit b||(decide (b=a)&&decide (∃t,t<f∧itC U t w=k+1)))
 |0,w,O,_,k,hk,b=>by
  have: ¬ ∃t,t<0∧itC U t w=k+1:=fun ⟨t,h,_⟩=>by omega
  rw [decide_eq_false this,Bool.and_false,Bool.or_false];rfl
 |f+1,w,O,hle,k,hk,b=>by
  by_cases hw:w=0
  ·subst hw
   rw [walkO_zero]
   have: ¬ ∃t,t<f+1∧itC U t 0=k+1:=fun ⟨t,_,h⟩=>by rw [itC_zero] at h;omega
   rw [decide_eq_false this,Bool.and_false,Bool.or_false]
  ·have e:walkO U a (f+1) w O=walkO U a f (upC U w) (O.set (w-1) (O.getD (w-1) 0|||2^a)):=by
    show (if w=0 then O else _)=_
    rw [if_neg hw]
   have hw1:w≤O.length:=hle 0
   have ih:=walkO_bit U a f (upC U w) (O.set (w-1) (O.getD (w-1) 0|||2^a)) (fun t=>by rw [List.length_set];exact hle (t+1)) k (by rw [List.length_set];exact hk) b
   rw [e,ih,set_getD]
   have hsplit:decide (∃t,t<f+1∧itC U t w=k+1)=(decide (w=k+1)||decide (∃t,t<f∧itC U t (upC U w)=k+1)):=by
    rw [Bool.eq_iff_iff]
    simp only [Bool.or_eq_true,decide_eq_true_eq]
    constructor
    ·rintro ⟨t,h1,h2⟩
     cases t with
     |zero=>exact .inl h2
     |succ t=>exact .inr ⟨t,by omega,h2⟩
    ·rintro (h| ⟨t,h1,h2⟩)
     ·exact ⟨0,by omega,h⟩
     ·exact ⟨t+1,by omega,h2⟩
   rw [hsplit]
   by_cases hk2:w=k+1
   ·rw [if_pos ⟨by omega,hk⟩,Nat.testBit_or,Nat.testBit_two_pow,decide_eq_true hk2,Bool.true_or,Bool.and_true]
    rw [show w-1=k by omega]
    have e3:decide (a=b)=decide (b=a):=by simp only [eq_comm]
    rw [e3]
    cases (O.getD k 0).testBit b<;>cases decide (b=a)<;>simp
   ·rw [if_neg (by omega),decide_eq_false hk2,Bool.false_or]
theorem outF_bit (U:List Nat)(m:Nat)(hU: ∀u∈U,u≤m): ∀(W:List Nat) (a:Nat) (O:List Nat),a+W.length≤8→O.length=m→(∀w∈W,w≤m)→(∀k,O.getD k 0<256)→∀k,k<m→∀b,
  ((outF U a W O).getD k 0).testBit b=((O.getD k 0).testBit b||(decide (a≤b∧b<a+W.length)&&decide (∃t,t<U.length∧itC U t (W.getD (b-a) 0)=k+1)))
 | [],a,O,_,_,_,_,k,hk,b=>by
  have: ¬(a≤b∧b<a+([]:List Nat).length):=by simp
  rw [decide_eq_false this,Bool.false_and,Bool.or_false];rfl
 |w::r,a,O,hl,hO,hW,hb,k,hk,b=>by
  rw [List.length_cons] at hl
  have hwo:=walkO_ok U a (by omega) U.length w O hb
  have hbit:=walkO_bit U a U.length w O (fun t=>by rw [hO];exact itC_le hU t w (hW w (by simp))) k (by rw [hO];exact hk) b
  have ih:=outF_bit U m hU r (a+1) (walkO U a U.length w O) (by omega) (by rw [hwo.1,hO]) (fun x hx=>hW x (by simp [hx])) hwo.2 k hk b
  show ((outF U (a+1) r (walkO U a U.length w O)).getD k 0).testBit b=_
  rw [ih,hbit]
  by_cases h1:b=a
  ·subst h1
   have e1: ¬(b+1≤b∧b<b+1+r.length):=by omega
   have e2:b≤b∧b<b+(w::r).length:=⟨Nat.le_refl _,by simp⟩
   rw [decide_eq_false e1,decide_eq_true e2,Nat.sub_self,List.getD_cons_zero]
   simp
  ·rw [decide_eq_false h1,Bool.false_and,Bool.or_false]
   by_cases h2:a+1≤b∧b<a+1+r.length
   ·have e2:a≤b∧b<a+(w::r).length:=⟨by omega,by rw [List.length_cons];omega⟩
    rw [decide_eq_true h2,decide_eq_true e2,show b-a=(b-(a+1))+1 by omega]
    rfl
   ·have e2: ¬(a≤b∧b<a+(w::r).length):=by rw [List.length_cons];omega
    rw [decide_eq_false h2,decide_eq_false e2]
    simp
theorem outL_bit {U W:List Nat} (hU: ∀u∈U,u≤U.length)(hW: ∀w∈W,w≤U.length)(hWl:W.length≤8) {k:Nat} (hk:k<U.length)(b:Nat):
  ((outL U W).getD k 0).testBit b=(decide (b<W.length)&&decide (∃t,t<U.length∧itC U t (W.getD b 0)=k+1)):=by
 have h:=outF_bit U U.length hU W 0 (List.replicate U.length 0) (by omega) (by simp) hW (fun k=>by simp [List.getD_eq_getElem?_getD,List.getElem?_replicate];split<;>simp) k hk b
 have e0:((List.replicate U.length 0).getD k 0).testBit b=false:=by
  simp [List.getD_eq_getElem?_getD,List.getElem?_replicate,hk]
 unfold outL
 rw [h,e0,Bool.false_or,Nat.zero_add,Nat.sub_zero]
 simp
theorem ext_getD {A B:List Nat} (hl:A.length=B.length)(h: ∀k,k<A.length→A.getD k 0=B.getD k 0):A=B:=by
 apply List.ext_getElem hl
 intro i h1 h2
 have:=h i h1
 rw [List.getD_eq_getElem?_getD,List.getD_eq_getElem?_getD,List.getElem?_eq_getElem h1,List.getElem?_eq_getElem h2] at this
 exact this
theorem laneF_get (U:List Nat): ∀(us:List Nat) (s:Nat) (Q:List Nat) (c:Nat),c<Q.length→s+us.length<Q.length→(∀u∈us,u<Q.length)→
  (laneF U s us Q).getD c 0=Q.getD c 0+(if s<c∧c≤s+us.length then 1 else 0)+us.count c
 | [],s,Q,c,_,_,_=>by
  rw [if_neg (by simp)];rfl
 |u::r,s,Q,c,hc,hs,hu=>by
  rw [List.length_cons] at hs
  have hl:=laneS_len Q (s,u)
  have ih:=laneF_get U r (s+1) (laneS Q (s,u)) c (by rw [hl];exact hc) (by rw [hl];omega) (fun x hx=>by rw [hl];exact hu x (by simp [hx]))
  show (laneF U (s+1) r (laneS Q (s,u))).getD c 0=_
  have hul:=hu u (by simp)
  have e:(laneS Q (s,u)).getD c 0=Q.getD c 0+(if c=s+1 then 1 else 0)+(if u=c then 1 else 0):=by
   unfold laneS
   dsimp only
   have e2: ∀x,x<Q.length→(Q.set (s+1) (Q.getD (s+1) 0+1)).getD x 0=Q.getD x 0+(if x=s+1 then 1 else 0):=by
    intro x hx
    rw [set_getD]
    by_cases h:s+1=x
    ·rw [if_pos ⟨h,hx⟩,if_pos h.symm,h]
    ·rw [if_neg (fun h2=>h h2.1),if_neg (fun h2=>h h2.symm),Nat.add_zero]
   rw [set_getD,List.length_set]
   by_cases h:u=c
   ·subst h
    rw [if_pos ⟨rfl,hc⟩,e2 u hc,if_pos rfl]
   ·rw [if_neg (fun h2=>h h2.1),if_neg h,e2 c hc];omega
  rw [ih,e,List.count_cons,List.length_cons]
  have e3:(if (u==c)=true then 1 else 0)=(if u=c then 1 else 0):=by simp
  rw [e3]
  repeat' split
  all_goals omega
theorem laneL_get {U:List Nat} (hU: ∀u∈U,u≤U.length) {c:Nat} (hc:c≤U.length):(laneL U).getD c 0=min c 1+U.count c:=by
 unfold laneL
 rw [laneF_get U U 0 _ c (by simp;omega) (by simp) (fun u hu=>by have:=hU u hu;simp;omega)]
 have e0:(List.replicate (U.length+1) 0).getD c 0=0:=by simp [List.getD_eq_getElem?_getD,List.getElem?_replicate];split<;>rfl
 rw [e0]
 by_cases h:c=0
 ·subst h;simp
 ·rw [if_pos (by omega)];omega
theorem lackF_iff (W:List Nat): ∀(Q:List Nat) (c:Nat),lackF W c Q=true↔∃i,i<Q.length∧Q.getD i 0<3∧(c+i) ∉ W
 | [],c=>by simp [lackF]
 |k::r,c=>by
  have ih:=lackF_iff W r (c+1)
  simp only [lackF,Bool.or_eq_true,ih,lackB,Bool.and_eq_true,decide_eq_true_eq]
  constructor
  ·rintro (⟨h1,h2⟩ | ⟨i,h1,h2,h3⟩)
   ·exact ⟨0,by simp,h1,h2⟩
   ·exact ⟨i+1,by simpa using h1,h2,by rwa [show c+(i+1)=c+1+i by omega]⟩
  ·rintro ⟨i,h1,h2,h3⟩
   cases i with
   |zero=>exact .inl ⟨h2,h3⟩
   |succ i=>exact .inr ⟨i,by simpa using h1,h2,by rwa [show c+1+i=c+(i+1) by omega]⟩
section
variable {n:Nat} {L U A:List Nat} (hn:n≤8) (h:Lam n L) (ht:IsTree L n U A)
include hn h ht
theorem tree_U: ∀u∈U,u≤U.length:=by
 intro u hu
 obtain ⟨k,hk,rfl⟩:=List.getElem_of_mem hu
 rw [ht.ul]
 have hk2:k<L.length:=by rw [←ht.ul];exact hk
 have e:U.getD k 0=U[k]:=by rw [List.getD_eq_getElem?_getD,List.getElem?_eq_getElem hk];rfl
 rcases ht.up k hk2 with ⟨h1,_⟩ | ⟨j,h1,h2,_⟩
 ·rw [e] at h1;omega
 ·rw [e] at h1;omega
theorem tree_A: ∀w∈A,w≤U.length:=by
 intro w hw
 obtain ⟨a,ha,rfl⟩:=List.getElem_of_mem hw
 rw [ht.ul]
 have e:A.getD a 0=A[a]:=by rw [List.getD_eq_getElem?_getD,List.getElem?_eq_getElem ha];rfl
 rcases ht.at' a (by rw [←ht.al];exact ha) with ⟨h1,_⟩ | ⟨j,h1,h2,_⟩
 ·rw [e] at h1;omega
 ·rw [e] at h1;omega
theorem tree_end: ∀w,w≤U.length→itC U U.length w=0:=by
 intro w hw
 by_cases h0:w=0
 ·rw [h0,itC_zero]
 ·have:=up_end hn h ht (k:=w-1) (by rw [←ht.ul];omega)
  rw [show w-1+1=w by omega,←ht.ul] at this
  exact this
theorem tree_zero (h1:1≤n):A.getD 0 0=0:=by
 rcases at_cases hn h ht (a:=0) (by omega) with ⟨h1,_⟩ | ⟨j,_,h2,h3,_⟩
 ·exact h1
 ·rw [h.even _ (getD_mem h2)] at h3;cases h3
theorem tree_child {k a:Nat} (ha:a<n)(hk:k<L.length)(hb:(L.getD k 0).testBit a=true)(hne:A.getD a 0≠k+1): ∃i,i<L.length∧U.getD i 0=k+1∧(L.getD i 0).testBit a=true:=by
 obtain ⟨t,e⟩:=(met_iff hn h ht ha k).2 ⟨hk,hb⟩
 cases t with
 |zero=>exact absurd e hne
 |succ t=>
  rw [itC_succ] at e
  have hc0:itC U t (A.getD a 0)≠0:=fun h0=>by rw [h0] at e;simp [upC] at e
  obtain ⟨i,hi⟩: ∃i,itC U t (A.getD a 0)=i+1:=⟨itC U t (A.getD a 0)-1,by omega⟩
  rw [hi,upC_succ] at e
  obtain ⟨h1,h2⟩:=(met_iff hn h ht ha i).1 ⟨t,hi⟩
  exact ⟨i,h1,e,h2⟩
theorem count_two {U:List Nat} {c i j:Nat} (hi:i<U.length)(hj:j<U.length)(hij:i<j)(h1:U.getD i 0=c)(h2:U.getD j 0=c):2≤U.count c:=by
 have e1:U[i]=c:=by rwa [List.getD_eq_getElem?_getD,List.getElem?_eq_getElem hi] at h1
 have e2:U[j]=c:=by rwa [List.getD_eq_getElem?_getD,List.getElem?_eq_getElem hj] at h2
 have hs:U=U.take j++U.drop j:=(List.take_append_drop j U).symm
 rw [hs,List.count_append]
 have m1:c∈U.take j:=by rw [List.mem_take_iff_getElem];exact ⟨i,by omega,e1⟩
 have m2:c∈U.drop j:=by rw [List.drop_eq_getElem_cons hj,e2];simp
 have:=List.count_pos_iff.2 m1
 have:=List.count_pos_iff.2 m2
 omega
theorem tree_lack (h1:1≤n): ∀c,c≤U.length→¬(min c 1+U.count c<3∧c ∉ A):=by
 rintro c hc ⟨h2,h3⟩
 have hin: ∀a,a<n→A.getD a 0∈A:=fun a ha=>getD_mem (by rw [ht.al];exact ha)
 by_cases h0:c=0
 ·have:=hin 0 (by omega)
  rw [tree_zero hn h ht h1] at this
  rw [h0] at h3;exact h3 this
 ·obtain ⟨k,rfl⟩: ∃k,c=k+1:=⟨c-1,by omega⟩
  have hk:k<L.length:=by rw [←ht.ul];omega
  have hmk:=getD_mem hk
  have lk:=h.lt8 hn hmk
  have hlt: ∀{s a:Nat},s∈L→s.testBit a=true→a<n:=by
   intro s a hs hb
   apply Nat.lt_of_not_le;intro h9
   rw [tb_lt (h.lt s hs) a h9] at hb;cases hb
  obtain ⟨a,ha⟩:=ne_bit (h.ne _ hmk)
  have han:=hlt hmk ha
  obtain ⟨i,hi,ui,bi⟩:=tree_child hn h ht han hk ha (fun e=>h3 (e▸hin a han))
  have hmi:=getD_mem hi
  have li:=h.lt8 hn hmi
  have hik:Sub (L.getD i 0) (L.getD k 0)∧pc (L.getD i 0)<pc (L.getD k 0):=by
   rcases up_cases hn h ht hi with ⟨e,_⟩ | ⟨j,e,hj,s1,s2,_⟩
   ·rw [e] at ui;omega
   ·have:j=k:=by rw [ui] at e;omega
    subst this;exact ⟨s1,s2⟩
  obtain ⟨b,hb1,hb2⟩: ∃b,(L.getD k 0).testBit b=true∧(L.getD i 0).testBit b=false:=by
   apply Classical.byContradiction
   intro hno
   have:Sub (L.getD k 0) (L.getD i 0):=fun b hb=>by
    cases hc:(L.getD i 0).testBit b
    ·exact absurd ⟨b,hb,hc⟩ hno
    ·rfl
   have:=pc_mono this
   omega
  have hbn:=hlt hmk hb1
  obtain ⟨j,hj,uj,bj⟩:=tree_child hn h ht hbn hk hb1 (fun e=>h3 (e▸hin b hbn))
  have hij:i≠j:=by rintro rfl;rw [hb2] at bj;cases bj
  have hcnt:2≤U.count (k+1):=by
   rcases Nat.lt_or_gt_of_ne hij with h4|h4
   ·exact count_two hn h ht (by rw [ht.ul];exact hi) (by rw [ht.ul];exact hj) h4 ui uj
   ·exact count_two hn h ht (by rw [ht.ul];exact hj) (by rw [ht.ul];exact hi) h4 uj ui
  omega
theorem tree_out:outL U A=L:=by
 have hU:=tree_U hn h ht
 have hA:=tree_A hn h ht
 have hoo:=outF_ok U A 0 (List.replicate U.length 0) (by rw [ht.al];omega) (fun k=>by simp [List.getD_eq_getElem?_getD,List.getElem?_replicate];split<;>simp)
 rw [show outF U 0 A (List.replicate U.length 0)=outL U A from rfl,List.length_replicate] at hoo
 apply ext_getD (hoo.1.trans ht.ul)
 intro k hk
 rw [hoo.1] at hk
 have hk2:k<L.length:=by rw [←ht.ul];exact hk
 apply Nat.eq_of_testBit_eq
 intro b
 rw [outL_bit hU hA (by rw [ht.al];exact hn) hk b,ht.al,Bool.eq_iff_iff]
 simp only [Bool.and_eq_true,decide_eq_true_eq]
 constructor
 ·rintro ⟨hb,t,_,e⟩
  exact ((met_iff hn h ht hb k).1 ⟨t,e⟩).2
 ·intro hb
  have hbn:b<n:=by
   apply Nat.lt_of_not_le;intro h9
   rw [tb_lt (h.lt _ (getD_mem hk2)) b h9] at hb;cases hb
  obtain ⟨t,e⟩:=(met_iff hn h ht hbn k).2 ⟨hk2,hb⟩
  refine ⟨hbn,t,?_,e⟩
  apply Nat.lt_of_not_le
  intro hge
  have hend:=tree_end hn h ht (A.getD b 0) (hA _ (getD_mem (by rw [ht.al];exact hbn)))
  have:itC U t (A.getD b 0)=0:=by
   rw [show t=U.length+(t-U.length) by omega,itC_add,hend,itC_zero]
  omega
theorem tree_read (h1:1≤n)(hs:L.Pairwise LexLe):readN U A=(0,L):=by
 have hlc:lostC U=false:=by
  unfold lostC
  rw [List.any_eq_false]
  intro c hc
  have:=tree_end hn h ht (c+1) (by have:=List.mem_range.1 hc;omega)
  simp [this]
 have hla:lackF A 0 (laneL U)=false:=by
  cases hq:lackF A 0 (laneL U)
  ·rfl
  ·rw [lackF_iff] at hq
   obtain ⟨i,hi,h2,h3⟩:=hq
   rw [laneL_len] at hi
   rw [laneL_get (tree_U hn h ht) (by omega)] at h2
   rw [Nat.zero_add] at h3
   exact absurd ⟨h2,h3⟩ (tree_lack hn h ht h1 i (by omega))
 have hso:srtB L=true:=by
  unfold srtB
  rw [List.all_eq_true]
  intro j hj
  have hj:=List.mem_range.1 hj
  have:=List.pairwise_iff_getElem.1 hs j (j+1) (by omega) (by omega) (by omega)
  unfold LexLe at this
  rw [List.getD_eq_getElem?_getD,List.getD_eq_getElem?_getD,List.getElem?_eq_getElem (by omega),List.getElem?_eq_getElem (by omega)]
  simp only [Option.getD_some,this,Bool.not_false]
 unfold readN
 rw [hlc,if_neg (by simp),tree_zero hn h ht h1,if_neg (by simp),hla,if_neg (by simp),tree_out hn h ht,hso,if_pos rfl]
end
attribute [local go_sem] m_ x_ l_ k_ okRef_o storable_o shaped_o cells_o fin_o pub_o shaped_t cells_t isAgg_t storable_t okRef_t pub_t
theorem clP_some: ∀(ss:List Nat) (k i j:Nat),clP ss k=some (i,j)→∃a b,i=k+a∧j=k+b∧a<b∧b<ss.length∧agN (ss.getD a 0) (ss.getD b 0)=false
 | [],_,_,_,h=>by simp [clP] at h
 |s::r,k,i,j,h=>by
  have e:clP (s::r) k=match r.findIdx? (fun b=> !agN s b) with|some j=>some (k,k+1+j)|none=>clP r (k+1):=rfl
  rw [e] at h
  cases hf:r.findIdx? (fun b=> !agN s b) with
  |some q=>
   rw [hf] at h
   simp only [Option.some.injEq,Prod.mk.injEq] at h
   rw [List.findIdx?_eq_some_iff_getElem] at hf
   obtain ⟨h1,h2,_⟩:=hf
   refine ⟨0,q+1,by omega,by omega,by omega,by simp;omega,?_⟩
   rw [List.getD_cons_zero,List.getD_cons_succ,List.getD_eq_getElem?_getD,List.getElem?_eq_getElem h1]
   simpa using h2
  |none=>
   rw [hf] at h
   obtain ⟨a,b,h1,h2,h3,h4,h5⟩:=clP_some r (k+1) i j h
   exact ⟨a+1,b+1,by omega,by omega,by omega,by simpa using h4,by simpa using h5⟩
theorem c26x (n:Nat)(h2:2≤n)(hn:n≤8)(nl:Bool)(X:List Nat)(hX: ∀v∈X,v<2^n∧v≠0∧v≠2^n-1)(hnd:(X.map (smlN n)).Nodup)(hl:X.length≤13)(hc:clP (X.map (smlN n)) 0≠none)(st:St):
  run L 26 [J n,sl 1 nl (X.map tM)] st=some (.tup [.agg [.v (.slice none 0 0),.v (.slice none 0 0)],I 12],st):=by
 rw [run_pure (fn:=ir26) rfl rfl]
 have h79:=(c79 n h2 hn nl X hX hnd hl).2 hc
 generalize X.map (smlN n)=ss at*
 have he:ss≠[]:=by rintro rfl;exact hc rfl
 rw [kS_ne he] at h79
 have hsv:=shVs_8 1 ss
 simp only [ir26,go_sem,h79,show pure 79=false from rfl,shStore,shV,shVs,hsv,keepR,keepT,ownTop]
theorem Sides.lam {n:Nat} {ss:List Nat} (h:Sides n ss)(hn:n≤8)(hc:clP ss 0=none):Lam n ss:=by
 refine ⟨h.lt,h.ne,h.even,h.nd,fun s hs t ht=> ?_⟩
 have hp:=(clP_none ss 0).1 hc
 have h8: ∀s∈ss,s<256:=fun s hs=>Nat.lt_of_lt_of_le (h.lt s hs) (Nat.pow_le_pow_right (n:=2) (by decide) hn)
 by_cases e:s=t
 ·subst e;exact agN_self (h8 s hs)
 ·rw [List.pairwise_iff_getElem] at hp
  obtain ⟨i,hi,rfl⟩:=List.getElem_of_mem hs
  obtain ⟨j,hj,rfl⟩:=List.getElem_of_mem ht
  rcases Nat.lt_trichotomy i j with h1|h1|h1
  ·exact hp i j hi hj h1
  ·subst h1;exact absurd rfl e
  ·rw [agN_comm];exact hp j i hj hi h1
theorem Lam.srt {n:Nat} {ss:List Nat} (h:Lam n ss)(hn:n≤8):Lam n (srt ss):=by
 have h8: ∀s∈ss,s<256:=fun s hs=>h.lt8 hn hs
 have hp:=srt_perm h8
 exact ⟨fun s hs=>h.lt s (hp.mem_iff.1 hs),fun s hs=>h.ne s (hp.mem_iff.1 hs),fun s hs=>h.even s (hp.mem_iff.1 hs),hp.nodup_iff.2 h.nd,fun s hs t ht=>h.ag s (hp.mem_iff.1 hs) t (hp.mem_iff.1 ht)⟩
theorem loop8 (n:Nat)(C D:List AV)(hC1: ∀n,okRefs n C=true)(hC2: ∀n T acc,renCells n T acc C=(C,acc))(hD1: ∀n,okRefs n D=true)(hD2: ∀n T acc,renCells n T acc D=(D,acc))(L0:List Nat)(h256: ∀s∈L0,s<256)(hk:L0.length≤13)(i:Nat)(hok:i≤L0.length)(env:Env)(st:St)
  (hg:gcAV true 2 0 (canon env [3,12,14,16,108,109,110]) st=([(3,J n),(12,.ptr 1 0),(14,sl 1 false (L0.map U)),(16,sl 1 true (L0.map tM)),(108,sl 1 false (L0.map U)),(109,J L0.length),(110,J i)],⟨[C,D],[]⟩)):
  ∃x_1 en s,lim (headed pure (run L) true [3,12,14,16,108,109,110] lp8_0 2 0) env st=some (x_1,en,s)∧(x_1=.exit 0∧en.get 3=J n∧en.get 12=.ptr 1 0∧en.get 14=sl 1 false (L0.map U)∧en.get 16=sl 1 true (L0.map tM)∧s=⟨[C,D],[]⟩):=by
 refine loop_wp (α:=Nat) (fun i=>L0.length-i) (fun i=>i≤L0.length) (fun i=>([(3,J n),(12,.ptr 1 0),(14,sl 1 false (L0.map U)),(16,sl 1 true (L0.map tM)),(108,sl 1 false (L0.map U)),(109,J L0.length),(110,J i)],⟨[C,D],[]⟩)) (fun i x_1 en s=>x_1=.exit 0∧en.get 3=J n∧en.get 12=.ptr 1 0∧en.get 14=sl 1 false (L0.map U)∧en.get 16=sl 1 true (L0.map tM)∧s=⟨[C,D],[]⟩) (fun i hok=> ?_) i hok env st hg
 by_cases h:i<L0.length
 ·have hs:=succ64 i (by omega)
  have hlt:((i:Int)<(L0.length:Int))=True:=eq_true (by omega)
  have hge:((L0.length:Int)≤(i:Int))=False:=eq_false (by omega)
  have hx:=idx_sl U false L0 i h
  have hy:=idx_sl tM true L0 i h
  have hb:=h256 L0[i] (List.getElem_mem h)
  have hll:=lenm_sl tM true L0
  generalize L0[i]=v at*
  have h40: ∀st,run L 40 [U v] st=some (tM v,st):=fun st=>c40 v (by omega) st
  have h22: ∀st,run L 22 [tM v,tM v] st=some (B true,st):=fun st=>by
   have hm:=memb_len v
   have:=c22 true true (memb v) (memb v) (by omega) st
   rw [decide_eq_true rfl] at this;exact this
  simp only [go_sem,lp8_0,hlt,hs,hge,hx,hy,hll,h40,h22]
  refine ⟨i+1,by simp only [go_sem,ren1_locm,loc_tips,locT_eq,hC1,hC2,hD1,hD2]<;>rfl,?_,?_,fun x en s hq=> ?_⟩
  ·omega
  ·omega
  ·exact hq
 ·have hlt:((i:Int)<(L0.length:Int))=False:=eq_false (by omega)
  simp only [go_sem,lp8_0,hlt]
set_option maxHeartbeats 4000000 in
theorem c8 (a g:Nat)(ha:a<256)(zs:List Nat)(hz:zs.length=13)(hzs: ∀z∈zs,z<256)(m w:Nat)(hm:m<256):
  run L 8 [cutAV a g zs m w] ⟨[],[]⟩=some (B true,⟨[],[]⟩):=by
 rw [run_pure (fn:=ir8) rfl rfl]
 have hd:=Nat.mod_lt a (show 0<7 by decide)
 have h38:=fun st=>c38 a g ha zs hz hzs m w hm 8 7 (.inr (.inr ⟨rfl,rfl⟩)) st
 have hmk:=made_ok (n:=2+a % 7) (by omega) g zs (m % 14)
 have hm14:m % 14≤13:=by omega
 generalize hn:2+a % 7=n at*
 have hn2:2≤n∧n≤8:=by omega
 have h2n:2^n≤256:=Nat.pow_le_pow_right (n:=2) (by decide) hn2.2
 obtain ⟨hS,hSl⟩:=hmk
 generalize madeS n g zs (m % 14)=ss at*
 have hun:cutAV a g zs m w=.agg (cutC a g zs m w):=rfl
 have hl17:(cutC a g zs m w).length=17:=lenC a g zs hz m w
 have htk:(cutC a g zs m w).take 17=cutC a g zs m w:=List.take_of_length_le (by omega)
 have h256: ∀s∈ss,s<256:=fun s h=>Nat.lt_of_lt_of_le (hS.lt s h) h2n
 have h39: ∀st,run L 39 [.agg (cutC a g zs m w),J n,sl 1 true (ss.map U)] st=some (sl 1 true ((toldL n w 0 ss).map tM),st):=fun st=>c39 n (by omega) a g zs hz m w true ss h256 (by omega) st
 have hsm:=told_sml (n:=n) (by omega) w 0 ss hS.even
 have hgd:=told_good (n:=n) (by omega) w 0 ss (fun s h=>⟨hS.lt s h,hS.ne s h,hS.even s h⟩)
 have hLl:=told_len n w 0 ss
 have h38: ∀st,run L 38 [.agg (cutC a g zs m w),I 8] st=some (.tup [J n,sl 1 true (ss.map U)],st):=h38
 have hnd:((toldL n w 0 ss).map (smlN n)).Nodup:=by rw [hsm];exact hS.nd
 have hl13:(toldL n w 0 ss).length≤13:=by rw [hLl];omega
 have h16:=fun st=>c16 n hn2.1 hn2.2 true (toldL n w 0 ss) hgd hnd hl13 st
 have h47:=fun st=>c47 n hn2.1 hn2.2 true (toldL n w 0 ss) hgd hnd hl13 st
 have h24:=fun i j hi hj st=>c24 n hn2.1 hn2.2 true (toldL n w 0 ss) hgd hnd hl13 i j hi hj st
 have h26:=fun hc st=>c26 n hn2.1 hn2.2 true (toldL n w 0 ss) hgd hnd hl13 hc st
 have h26x:=fun hc st=>c26x n hn2.1 hn2.2 true (toldL n w 0 ss) hgd hnd hl13 hc st
 have h49:=fun st=>c49 true ss h256 (by omega) st
 rw [hsm] at h16 h24 h26 h26x
 rw [hLl] at h24
 have h51:=fun st=>c51 true ss h256 (by omega) st
 generalize toldL n w 0 ss=LL at*
 have hC1:=fun k=>okRefsC k a g zs m w
 have hC2:=fun k T acc=>renCellsC k T acc a g zs m w
 cases hc:clP ss 0 with
 |some p=>
  obtain ⟨x,y⟩:=p
  obtain ⟨i,j,e1,e2,h3,h4,h5⟩:=clP_some ss 0 x y hc
  rw [Nat.zero_add] at e1 e2
  subst e1 e2
  have h24:=h24 x y (by omega) h4
  rw [h5,if_neg (by simp)] at h24
  have h26:=h26x (by rw [hc];simp)
  rw [hc] at h49 h16
  rw [show clA (some (x,y))=.tup [J x,J y,B true] from rfl] at h49
  rw [show whyA (some (x,y))=.tup [J x,J y,I 0] from rfl] at h16
  have q1:((x:Int)=(x:Int))=True:=eq_true rfl
  have q2:((y:Int)=(y:Int))=True:=eq_true rfl
  have hw0:IntKind.i64.wrap 0=0:=rfl
  simp only [ir8,hun,go_sem,okRefsC,renCellsC,pubsC,storableC,hl17,htk,h38,h39,h49,h16,h26,h47,h24,q1,q2,hw0,c15]
 |none=>
  have h26:=h26 hc
  rw [hc] at h49 h16
  rw [show clA none=.tup [I 0,I 0,B false] from rfl] at h49
  rw [show whyA none=.tup [I 0,I 0,I 13] from rfl] at h16
  have hlam:=(hS.lam hn2.2 hc).srt hn2.2
  have htree:=grow_tree hn2.2 hlam
  have hsl:=srt_len h256
  have hso:=srt_sorted ss
  have hsr:=srt_srt h256
  have hs256:=srt_lt ss
  have hread:=tree_read hn2.2 hlam htree (by omega) hso
  have hUl:=htree.ul
  have hAl:=htree.al
  have tU:=tree_U hn2.2 hlam htree
  have tA:=tree_A hn2.2 hlam htree
  have tE:=tree_end hn2.2 hlam htree
  have t0:=tree_zero hn2.2 hlam htree (by omega)
  have tL:=tree_lack hn2.2 hlam htree (by omega)
  have tO:=tree_out hn2.2 hlam htree
  generalize growN (srt ss) n (ordG (srt ss))=UW at*
  obtain ⟨Us,W⟩:=UW
  dsimp only at*
  have h50:=fun st=>c50 n hn2.1 hn2.2 false false Us W tU tA (by omega) hAl tE t0 tL st
  have h28:=fun st=>c28N n hn2.1 hn2.2 false false Us W tU tA (by omega) hAl st
  have h30:=fun st=>c30N n hn2.1 hn2.2 false false Us W tU tA (by omega) hAl st
  rw [hread] at h28 h30
  rw [tO] at h50
  unfold sidesA at h28
  dsimp only at h28 h30
  rw [if_pos rfl,hsr] at h28
  have h23:=fun st=>c23M true true (srt ss) (srt ss) (by omega) st
  rw [decide_eq_true rfl] at h23
  have hD1: ∀n,okRefs n [sl 1 false (Us.map J),sl 1 false (W.map J)]=true:=fun n=>by simp only [okRefs,okRef_sl,Bool.and_self]
  have hD2: ∀n T acc,renCells n T acc [sl 1 false (Us.map J),sl 1 false (W.map J)]=([sl 1 false (Us.map J),sl 1 false (W.map J)],acc):=fun n T acc=>by simp only [renCells,ren1_sl]
  have hlU:=lenm_sl U false (srt ss)
  have hlM:=lenm_sl tM true (srt ss)
  have hut:treeA (Us,W)=.agg [sl 1 false (Us.map J),sl 1 false (W.map J)]:=rfl
  rw [hut] at h26
  have qq:(((srt ss).length:Int)=((srt ss).length:Int))=True:=eq_true rfl
  simp only [ir8,hun,go_sem,okRefsC,renCellsC,pubsC,storableC,hl17,htk,h38,h39,h49,h16,h26,h47,h50,h51,hlU]
  generalize hg:lim (headed pure (run L) true _ lp8_0 _ _) _ _=o
  obtain ⟨x,en,s,rfl,h2⟩: ∃x en s,o=some (x,en,s)∧_:=by rw [←hg];exact loop8 n (cutC a g zs m w) [sl 1 false (Us.map J),sl 1 false (W.map J)] hC1 hC2 hD1 hD2 (srt ss) hs256 (by omega) 0 (by omega) _ _ (by simp only [go_sem,okRefsC,renCellsC,Int.natCast_zero]<;>rfl)
  clear hg
  obtain ⟨rfl,e3,e12,e14,e16,rfl⟩:=h2
  simp only [go_sem,e3,e12,e14,e16,h28,h30,h23,hlU,hlM,c15]
end Go.Proofs.YtdnmhlfjafjkbaaGreatDoor.Vm
