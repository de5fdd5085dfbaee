/- What is proved: what each function of this program computes, as equations on the evaluator. No condition. -/
import Derived.Test.YtdnjagnechibhaaGreatDoorC1
import Derived.Test.YtdnjagnechibhaaGreatDoorT0
import Derived.WalkKit
import Derived.ProofKit
import Derived.OpenShut
set_option linter.all false
namespace Go.Proofs.YtdnjagnechibhaaGreatDoor.Vm
open Go Go.Ev
set_option maxRecDepth 100000
attribute [local go_sem] cells_any storable_any ren1_any shaped_ptr cells_ptr storable_ptr ren1_ptr shaped_eptr cells_eptr storable_eptr ren1_eptr shaped_rsl cells_rsl storable_rsl ren1_rsl shaped_int cells_int storable_int ren1_int shaped_bool cells_bool storable_bool ren1_bool shaped_nils cells_nils storable_nils ren1_nils shaped_lst cells_lst storable_lst shaped_fn cells_fn storable_fn ren1_fn shaped_ifc cells_ifc storable_ifc ren1_ifc shaped_agg cells_agg storable_agg ren1_agg shaped_tup cells_tup storable_tup ren1_tup shaped_nif cells_nif storable_nif ren1_nif ren1_lany ren1_lfull ren1_lown len_lst len_rsl len_nil load_ptr load_eptr isRsl_lst isRsl_nil isRsl_rsl elems_nil elems_lst elems_sl isRsl_sl body_eq bodyK_normal bodyK_ret resK_some leaveK_some only_some code_skip code_exit code_ret code_ops code_seq code_cond code_block seqK_normal seqK_ret seqK_exit condK_true condK_false blockK_normal blockK_ret blockK_exit opsK_some ops_nil ops_cons wantK_true wantK_false stepK_some pubs pub pub_sl params okRef_loc storable_loc shaped_loc cells_loc isRsl_loc elems_loc len_loc untips untip untip_sl wantedAV setElems withO isAgg_v isAgg_agg isAgg_lst isAgg_ptr isAgg_fn isAgg_ifc isAgg_rsl isAgg_sl isAgg_loc List.replicate_succ List.replicate_zero opAV valAV aval avals ofVal Env.get setD canon gcAV renAll renEnv renStore renCells ren1_sl cutSt okEnv okStore okRefs okRef okRef_sl bin_int bin_bool bin_lst bin_rsl bin_nil bin_agg cellsEq cellEq isShift intOp boolOp min_int max_int beq_int bne resAV tupAV leave_eq fin_sl fin_loc fins fin_v fin_lst fin_agg fin_tup fin_fn storeAV readCells putCells cells_sl shaped_sl storable_sl fieldAddrAV len_sl goI List.getElem?_cons_zero List.getElem?_cons_succ List.getElem?_nil Option.bind_some Option.map_some List.length_cons List.length_nil List.all_cons List.all_nil Bool.and_true Bool.true_and Bool.and_false Bool.false_and and_true true_and and_false false_and Bool.false_eq_true List.set_cons_zero List.set_cons_succ List.append_nil List.nil_append List.cons_append List.take_zero List.take_succ_cons List.take_nil List.drop_zero List.drop_succ_cons List.map_cons List.map_nil decide_true decide_false beq_self_eq_true Bool.not_true Bool.not_false or_true true_or or_false false_or Nat.zero_add Nat.add_zero Nat.le_refl Nat.lt_irrefl decide_eq_true_eq eq_self_iff_true not_true_eq_false not_false_eq_true List.getD_cons_zero code_loop Nat.zero_le Nat.not_lt_zero Bool.true_beq Bool.false_beq beq_true beq_false ge_iff_le gt_iff_lt keepR keepT ownTop Lpure pus Option.map_none assert_ifc assert_nil idxA_ptr idxA_eptr idxV_agg Int.cast_ofNat_Int Nat.mul_one Nat.zero_mul Int.toNat_natCast Int.toNat_zero setParts withO2 hasKey eqnil_sl nenil_sl eqnil_loc nenil_loc map_nil_iff okRefs_ints renCells_ints
theorem all66:(List.range 8).map (fun m=>callAV L 60 66 [U m] ⟨[],[]⟩)=(List.range 8).map (fun m=>some (sl 1 true ((memb m).map I),(⟨[],[]⟩:St))):=by kernel_rfl
theorem c66 (m:Nat)(hm:m<8)(st:St):run L 66 [U m] st=some (sl 1 true ((memb m).map I),st):=
 run_any' (fn:=ir66) rfl rfl (callAV_run L 60 _ _ _ _ (all_of all66 m hm)) st
def anU (a b:Nat):Nat:=(BitVec.ofInt 64 (a:Int)&&& ~~~ BitVec.ofInt 64 (b:Int)).toNat
theorem an_u (a b:Nat):binAV .andNot none (.v (.int .u64 (a:Int))) (.v (.int .u64 (b:Int)))=some (.v (.int .u64 ((anU a b:Nat):Int))):=by
 show some (AV.v (.int .u64 (IntKind.u64.wrap ((anU a b:Nat):Int))))=_
 rw [wrapU]
 exact BitVec.isLt _
theorem clr_all:(List.range 8).all (fun o=>(List.range 3).all fun c=>decide (anU o (2^c)=clr o c)&&decide (clr o c<8))=true:=by kernel_rfl
theorem clr_ok {o c:Nat} (ho:o<8)(hc:c<3):anU o (2^c)=clr o c∧clr o c<8:=by
 have:=List.all_eq_true.1 (List.all_eq_true.1 clr_all o (List.mem_range.2 ho)) c (List.mem_range.2 hc)
 simpa using this
attribute [local go_sem high] and_one shr_u shl_one or_u an_u
structure Pat (k p:Nat) (t:List (List Int)):Prop where
 k3:k≤3
 tab:TabOk k t
 bit: ∀r c,r<k→c<k→(0<(t.getD r []).getD c 0↔cellB p r c=true)
theorem Pat.row_len {k p:Nat} {t:List (List Int)} (h:Pat k p t)(r:Nat)(hr:r<k):(t.getD r []).length=k:=by
 rw [List.getD_eq_getElem?_getD,List.getElem?_eq_getElem (by rw [h.tab.len];exact hr)]
 exact h.tab.rows _ (List.getElem_mem _)
def zeroF (k p r i o:Nat):Nat:=(List.range' i (k-i)).foldl (fun o c=>if cellB p r c then clr o c else o) o
theorem zeroF_step (k p r i o:Nat)(h:i<k):zeroF k p r i o=zeroF k p r (i+1) (if cellB p r i then clr o i else o):=by
 unfold zeroF
 rw [show k-i=(k-(i+1))+1 by omega,List.range'_succ,List.foldl_cons]
theorem zeroF_end (k p r o:Nat):zeroF k p r k o=o:=by unfold zeroF;rw [Nat.sub_self];rfl
theorem zeroF_row (k p r o:Nat):zeroF k p r 0 o=zeroRow k p o r:=by unfold zeroF zeroRow;rw [Nat.sub_zero,←List.range_eq_range']
theorem loop65_0 (k p:Nat)(t:List (List Int))(hP:Pat k p t)(r:Nat)(hr:r<k)(ml:List Int)(y z:Int)(lo hi:Nat)(i:Nat)(o:Nat)(hok:i≤k∧o<8)(env:Env)(st:St)
  (hg:gcAV true lo hi (canon env [0,5,15,16,17,24,25,26]) st=([(0,tbAV t),(5,U o),(15,sl 1 true (ml.map I)),(16,I y),(17,I z),(24,listAV (t.getD r [])),(25,I k),(26,I i)],⟨[],[]⟩)):
  ∃x_1 en s,lim (headed pure (run L) true [0,5,15,16,17,24,25,26] lp65_0 lo hi) env st=some (x_1,en,s)∧(x_1=.exit 2∧s=⟨[],[]⟩∧en.get 0=tbAV t∧en.get 15=sl 1 true (ml.map I)∧en.get 16=I y∧en.get 17=I z∧en.get 5=U (zeroF k p r i o)∧zeroF k p r i o<8):=by
 refine loop_wp (α:=Nat×Nat) (fun ⟨i,o⟩=>k-i) (fun ⟨i,o⟩=>i≤k∧o<8) (fun ⟨i,o⟩=>([(0,tbAV t),(5,U o),(15,sl 1 true (ml.map I)),(16,I y),(17,I z),(24,listAV (t.getD r [])),(25,I k),(26,I i)],⟨[],[]⟩)) (fun ⟨i,o⟩ x_1 en s=>x_1=.exit 2∧s=⟨[],[]⟩∧en.get 0=tbAV t∧en.get 15=sl 1 true (ml.map I)∧en.get 16=I y∧en.get 17=I z∧en.get 5=U (zeroF k p r i o)∧zeroF k p r i o<8) (fun ⟨i,o⟩ hok=> ?_) ⟨i,o⟩ hok env st hg
 simp only at hok
 obtain ⟨h1,h2⟩:=hok
 dsimp only at h1 h2⊢
 have h3:=hP.k3
 by_cases h:i<k
 ·have hl:=hP.row_len r hr
  have hs:=succ64 i (by omega)
  have hlt:((i:Int)<(k:Int))=True:=eq_true (by omega)
  have hx:=index_at false (t.getD r []) i (by omega) (by omega)
  rw [Int.toNat_natCast] at hx
  have hb:=hP.bit r i hr h
  have hsh:=sh1_eq i (by omega)
  obtain ⟨g1,g2⟩:=clr_ok h2 (show i<3 by omega)
  have hz:=zeroF_step k p r i o h
  rw [hz]
  generalize (t.getD r []).getD i 0=x at*
  by_cases q:0<x
  ·have q1:=hb.1 q
   rw [q1] at hz⊢
   simp only [if_true] at hz⊢
   simp only [go_sem,reduceIte,Nat.reduceEqDiff,Nat.reduceAdd,Nat.reduceSub,Nat.reduceLeDiff,Nat.reduceLT,reduceCtorEq,Int.reduceLT,Int.reduceLE,Int.reduceEq,Int.reduceBEq,Int.reduceSub,Int.reduceAdd,Int.reduceMul,Int.reduceNeg,Int.reduceToNat,Nat.reduceMul,Nat.reduceBEq,index_rsl_if,setm,make_ints,condK_dec,wantK_dec,not_dec,and_dec,or_dec,seqK_ite,seqK_none,blockK_ite,blockK_none,opsK_ite,opsK_none,stepK_ite,stepK_none,bodyK_ite,bodyK_none,resK_ite,resK_none,leaveK_ite,leaveK_none,only_ite,only_none,bind_ite,gives_some,gives_none,gives_ite,then_normal,then_ret,then_exit,then_none,then_ite,Option.bind_none,Bool.not_eq_true',decide_eq_false_iff_not,Bool.and_eq_true,Bool.or_eq_true,Option.some.injEq,Int.not_lt,Int.not_le,lp65_0,hx,hlt,hs,q,hsh,g1]
   refine ⟨(i+1,clr o i),by simp only [go_sem,reduceIte,Nat.reduceEqDiff,Nat.reduceAdd,Nat.reduceSub,Nat.reduceLeDiff,Nat.reduceLT,reduceCtorEq,Int.reduceLT,Int.reduceLE,Int.reduceEq,Int.reduceBEq,Int.reduceSub,Int.reduceAdd,Int.reduceMul,Int.reduceNeg,Int.reduceToNat,Nat.reduceMul,Nat.reduceBEq,ren1_locm,loc_tips,locT_eq]<;>rfl,?_,?_,fun x en s hq=> ?_⟩
   all_goals first|exact hq|(dsimp only;exact ⟨by omega,g2⟩)|(dsimp only;omega)
  ·have q1:cellB p r i=false:=by rw [←Bool.not_eq_true];exact fun h=>q (hb.2 h)
   rw [q1] at hz⊢
   simp only [Bool.false_eq_true,if_false] at hz⊢
   simp only [go_sem,reduceIte,Nat.reduceEqDiff,Nat.reduceAdd,Nat.reduceSub,Nat.reduceLeDiff,Nat.reduceLT,reduceCtorEq,Int.reduceLT,Int.reduceLE,Int.reduceEq,Int.reduceBEq,Int.reduceSub,Int.reduceAdd,Int.reduceMul,Int.reduceNeg,Int.reduceToNat,Nat.reduceMul,Nat.reduceBEq,index_rsl_if,setm,make_ints,condK_dec,wantK_dec,not_dec,and_dec,or_dec,seqK_ite,seqK_none,blockK_ite,blockK_none,opsK_ite,opsK_none,stepK_ite,stepK_none,bodyK_ite,bodyK_none,resK_ite,resK_none,leaveK_ite,leaveK_none,only_ite,only_none,bind_ite,gives_some,gives_none,gives_ite,then_normal,then_ret,then_exit,then_none,then_ite,Option.bind_none,Bool.not_eq_true',decide_eq_false_iff_not,Bool.and_eq_true,Bool.or_eq_true,Option.some.injEq,Int.not_lt,Int.not_le,lp65_0,hx,hlt,hs,q]
   refine ⟨(i+1,o),by simp only [go_sem,reduceIte,Nat.reduceEqDiff,Nat.reduceAdd,Nat.reduceSub,Nat.reduceLeDiff,Nat.reduceLT,reduceCtorEq,Int.reduceLT,Int.reduceLE,Int.reduceEq,Int.reduceBEq,Int.reduceSub,Int.reduceAdd,Int.reduceMul,Int.reduceNeg,Int.reduceToNat,Nat.reduceMul,Nat.reduceBEq,ren1_locm,loc_tips,locT_eq]<;>rfl,?_,?_,fun x en s hq=> ?_⟩
   all_goals first|exact hq|(dsimp only;exact ⟨by omega,h2⟩)|(dsimp only;omega)
 ·have hlt:((i:Int)<(k:Int))=False:=eq_false (by omega)
  obtain rfl:i=k:=by omega
  rw [zeroF_end]
  simp only [go_sem,reduceIte,Nat.reduceEqDiff,Nat.reduceAdd,Nat.reduceSub,Nat.reduceLeDiff,Nat.reduceLT,reduceCtorEq,Int.reduceLT,Int.reduceLE,Int.reduceEq,Int.reduceBEq,Int.reduceSub,Int.reduceAdd,Int.reduceMul,Int.reduceNeg,Int.reduceToNat,Nat.reduceMul,Nat.reduceBEq,index_rsl_if,setm,make_ints,condK_dec,wantK_dec,not_dec,and_dec,or_dec,seqK_ite,seqK_none,blockK_ite,blockK_none,opsK_ite,opsK_none,stepK_ite,stepK_none,bodyK_ite,bodyK_none,resK_ite,resK_none,leaveK_ite,leaveK_none,only_ite,only_none,bind_ite,gives_some,gives_none,gives_ite,then_normal,then_ret,then_exit,then_none,then_ite,Option.bind_none,Bool.not_eq_true',decide_eq_false_iff_not,Bool.and_eq_true,Bool.or_eq_true,Option.some.injEq,Int.not_lt,Int.not_le,lp65_0,hlt]
  exact h2
theorem loop65_1 (k p:Nat)(t:List (List Int))(hP:Pat k p t)(ml:List Int)(hml: ∀x∈ml,0≤x∧x<k)(hlen:ml.length≤7)(i:Nat)(u:Nat)(hok:i≤ml.length∧u<8)(env:Env)(st:St)
  (hg:gcAV true 0 0 (canon env [0,5,15,16,17]) st=([(0,tbAV t),(5,U u),(15,sl 1 true (ml.map I)),(16,I ml.length),(17,I i)],⟨[],[]⟩)):
  ∃x_1 en s,lim (headed pure (run L) true [0,5,15,16,17] lp65_1 0 0) env st=some (x_1,en,s)∧(x_1=.exit 0∧s=⟨[],[]⟩∧en.get 5=U ((ml.drop i).foldl (fun o (r:Int)=>zeroRow k p o r.toNat) u)∧((ml.drop i).foldl (fun o (r:Int)=>zeroRow k p o r.toNat) u)<8):=by
 refine loop_wp (α:=Nat×Nat) (fun ⟨i,u⟩=>ml.length-i) (fun ⟨i,u⟩=>i≤ml.length∧u<8) (fun ⟨i,u⟩=>([(0,tbAV t),(5,U u),(15,sl 1 true (ml.map I)),(16,I ml.length),(17,I i)],⟨[],[]⟩)) (fun ⟨i,u⟩ x_1 en s=>x_1=.exit 0∧s=⟨[],[]⟩∧en.get 5=U ((ml.drop i).foldl (fun o (r:Int)=>zeroRow k p o r.toNat) u)∧((ml.drop i).foldl (fun o (r:Int)=>zeroRow k p o r.toNat) u)<8) (fun ⟨i,u⟩ hok=> ?_) ⟨i,u⟩ hok env st hg
 simp only at hok
 obtain ⟨h1,hu⟩:=hok
 dsimp only at h1 hu⊢
 by_cases h:i<ml.length
 ·have hs:=succ64 i (by omega)
  have hlt:((i:Int)<(ml.length:Int))=True:=eq_true (by omega)
  have hx:=index_ints true ml i h
  have hd:ml.drop i=ml[i]::ml.drop (i+1):=List.drop_eq_getElem_cons h
  have hr:=hml ml[i] (List.getElem_mem h)
  rw [hd,List.foldl_cons]
  obtain ⟨r,hre⟩:=Int.eq_ofNat_of_zero_le hr.1
  rw [hre] at hx hr⊢
  rw [Int.toNat_natCast]
  have hr2:r<k:=by omega
  have hx2:=index_lists false t r (by rw [hP.tab.len];exact hr2)
  have hge:t[r]'(by rw [hP.tab.len];exact hr2)=t.getD r []:=by rw [List.getD_eq_getElem?_getD,List.getElem?_eq_getElem (by rw [hP.tab.len];exact hr2)];rfl
  rw [hge] at hx2
  have hl:=hP.row_len r hr2
  simp only [go_sem,reduceIte,Nat.reduceEqDiff,Nat.reduceAdd,Nat.reduceSub,Nat.reduceLeDiff,Nat.reduceLT,reduceCtorEq,Int.reduceLT,Int.reduceLE,Int.reduceEq,Int.reduceBEq,Int.reduceSub,Int.reduceAdd,Int.reduceMul,Int.reduceNeg,Int.reduceToNat,Nat.reduceMul,Nat.reduceBEq,index_rsl_if,setm,make_ints,condK_dec,wantK_dec,not_dec,and_dec,or_dec,seqK_ite,seqK_none,blockK_ite,blockK_none,opsK_ite,opsK_none,stepK_ite,stepK_none,bodyK_ite,bodyK_none,resK_ite,resK_none,leaveK_ite,leaveK_none,only_ite,only_none,bind_ite,gives_some,gives_none,gives_ite,then_normal,then_ret,then_exit,then_none,then_ite,Option.bind_none,Bool.not_eq_true',decide_eq_false_iff_not,Bool.and_eq_true,Bool.or_eq_true,Option.some.injEq,Int.not_lt,Int.not_le,lp65_1,hx,hx2,hlt,List.length_map,hl]
  generalize hg:lim (headed pure (run L) true _ lp65_0 _ _) _ _=o
  obtain ⟨x,en,s,rfl,h2⟩: ∃x en s,o=some (x,en,s)∧_:=by rw [←hg];exact loop65_0 k p t hP r hr2 ml ml.length i _ _ 0 u ⟨by omega,hu⟩ _ _ (by simp only [go_sem,reduceIte,Nat.reduceEqDiff,Nat.reduceAdd,Nat.reduceSub,Nat.reduceLeDiff,Nat.reduceLT,reduceCtorEq,Int.reduceLT,Int.reduceLE,Int.reduceEq,Int.reduceBEq,Int.reduceSub,Int.reduceAdd,Int.reduceMul,Int.reduceNeg,Int.reduceToNat,Nat.reduceMul,Nat.reduceBEq,Int.natCast_zero]<;>rfl)
  clear hg
  obtain ⟨rfl,rfl,g0,g15,g16,g17,g5,g6⟩:=h2
  rw [zeroF_row] at g5 g6
  simp only [go_sem,reduceIte,Nat.reduceEqDiff,Nat.reduceAdd,Nat.reduceSub,Nat.reduceLeDiff,Nat.reduceLT,reduceCtorEq,Int.reduceLT,Int.reduceLE,Int.reduceEq,Int.reduceBEq,Int.reduceSub,Int.reduceAdd,Int.reduceMul,Int.reduceNeg,Int.reduceToNat,Nat.reduceMul,Nat.reduceBEq,index_rsl_if,setm,make_ints,condK_dec,wantK_dec,not_dec,and_dec,or_dec,seqK_ite,seqK_none,blockK_ite,blockK_none,opsK_ite,opsK_none,stepK_ite,stepK_none,bodyK_ite,bodyK_none,resK_ite,resK_none,leaveK_ite,leaveK_none,only_ite,only_none,bind_ite,gives_some,gives_none,gives_ite,then_normal,then_ret,then_exit,then_none,then_ite,Option.bind_none,Bool.not_eq_true',decide_eq_false_iff_not,Bool.and_eq_true,Bool.or_eq_true,Option.some.injEq,Int.not_lt,Int.not_le,lp65_1,g0,g15,g16,g17,g5,hs]
  refine ⟨(i+1,zeroRow k p u r),by simp only [go_sem,reduceIte,Nat.reduceEqDiff,Nat.reduceAdd,Nat.reduceSub,Nat.reduceLeDiff,Nat.reduceLT,reduceCtorEq,Int.reduceLT,Int.reduceLE,Int.reduceEq,Int.reduceBEq,Int.reduceSub,Int.reduceAdd,Int.reduceMul,Int.reduceNeg,Int.reduceToNat,Nat.reduceMul,Nat.reduceBEq,ren1_locm,loc_tips,locT_eq,g0,g15,g16,g17,g5]<;>rfl,?_,?_,fun x en s hq=> ?_⟩
  all_goals first|exact hq|(dsimp only;exact ⟨by omega,g6⟩)|(dsimp only;omega)
 ·have hlt:((i:Int)<(ml.length:Int))=False:=eq_false (by omega)
  have hd:ml.drop i=[]:=List.drop_eq_nil_of_le (by omega)
  rw [hd]
  simp only [go_sem,reduceIte,Nat.reduceEqDiff,Nat.reduceAdd,Nat.reduceSub,Nat.reduceLeDiff,Nat.reduceLT,reduceCtorEq,Int.reduceLT,Int.reduceLE,Int.reduceEq,Int.reduceBEq,Int.reduceSub,Int.reduceAdd,Int.reduceMul,Int.reduceNeg,Int.reduceToNat,Nat.reduceMul,Nat.reduceBEq,index_rsl_if,setm,make_ints,condK_dec,wantK_dec,not_dec,and_dec,or_dec,seqK_ite,seqK_none,blockK_ite,blockK_none,opsK_ite,opsK_none,stepK_ite,stepK_none,bodyK_ite,bodyK_none,resK_ite,resK_none,leaveK_ite,leaveK_none,only_ite,only_none,bind_ite,gives_some,gives_none,gives_ite,then_normal,then_ret,then_exit,then_none,then_ite,Option.bind_none,Bool.not_eq_true',decide_eq_false_iff_not,Bool.and_eq_true,Bool.or_eq_true,Option.some.injEq,Int.not_lt,Int.not_le,lp65_1,hlt]
  exact ⟨rfl,hu⟩
theorem memb_k {k m:Nat} (hk:k≤3)(hm:m<2^k): ∀x∈memb m,0≤x∧x<k:=by
 have:(List.range 4).all (fun k=>(List.range (2^k)).all fun m=>(memb m).all fun x=>decide (0≤x)&&decide (x<k))=true:=by decide+kernel
 intro x hx
 have:=List.all_eq_true.1 (List.all_eq_true.1 (List.all_eq_true.1 this k (List.mem_range.2 (by omega))) m (List.mem_range.2 hm)) x hx
 simpa using this
theorem c65 (k p:Nat)(t:List (List Int))(hP:Pat k p t)(m:Nat)(hm:m<2^k)(st:St):run L 65 [tbAV t,U m] st=some (U (zerosP k p m),st)∧zerosP k p m<8:=by
 have h3:=hP.k3
 have h1:=hP.tab.n1
 have hm8:m<8:=by have:2^k≤2^3:=Nat.pow_le_pow_right (by omega) h3;omega
 have h66:=fun st=>c66 m hm8 st
 have hl7:=memb_len m
 have hsh:=sh1_eq k (by omega)
 have hp8:2^k≤8∧1≤2^k:=⟨by have:2^k≤2^3:=Nat.pow_le_pow_right (by omega) h3;omega,Nat.one_le_two_pow⟩
 have hsub:IntKind.u64.wrap (((2^k:Nat):Int)-1)=((2^k-1:Nat):Int):=by
  rw [show (((2^k:Nat):Int)-1)=((2^k-1:Nat):Int) by omega]
  exact wrapU _ (by omega)
 have hl:=hP.tab.len
 rw [run_pure (fn:=ir65) rfl rfl]
 unfold zerosP
 generalize hz:2^k-1=z at*
 simp only [ir65,go_sem,reduceIte,Nat.reduceEqDiff,Nat.reduceAdd,Nat.reduceSub,Nat.reduceLeDiff,Nat.reduceLT,reduceCtorEq,Int.reduceLT,Int.reduceLE,Int.reduceEq,Int.reduceBEq,Int.reduceSub,Int.reduceAdd,Int.reduceMul,Int.reduceNeg,Int.reduceToNat,Nat.reduceMul,Nat.reduceBEq,List.length_map,hl,h66,hsh,hsub]
 generalize hg:lim (headed pure (run L) true _ lp65_1 _ _) _ _=o
 obtain ⟨x,en,s,rfl,h2⟩: ∃x en s,o=some (x,en,s)∧_:=by rw [←hg];exact loop65_1 k p t hP (memb m) (memb_k h3 hm) hl7 0 z ⟨by omega,by omega⟩ _ _ (by simp only [go_sem,reduceIte,Nat.reduceEqDiff,Nat.reduceAdd,Nat.reduceSub,Nat.reduceLeDiff,Nat.reduceLT,reduceCtorEq,Int.reduceLT,Int.reduceLE,Int.reduceEq,Int.reduceBEq,Int.reduceSub,Int.reduceAdd,Int.reduceMul,Int.reduceNeg,Int.reduceToNat,Nat.reduceMul,Nat.reduceBEq,Int.natCast_zero]<;>rfl)
 clear hg
 obtain ⟨rfl,rfl,g5,g6⟩:=h2
 rw [List.drop_zero] at g5 g6
 refine ⟨?_,g6⟩
 simp only [go_sem,reduceIte,Nat.reduceEqDiff,Nat.reduceAdd,Nat.reduceSub,Nat.reduceLeDiff,Nat.reduceLT,reduceCtorEq,Int.reduceLT,Int.reduceLE,Int.reduceEq,Int.reduceBEq,Int.reduceSub,Int.reduceAdd,Int.reduceMul,Int.reduceNeg,Int.reduceToNat,Nat.reduceMul,Nat.reduceBEq,g5]
theorem loop20 (k p:Nat)(t:List (List Int))(hP:Pat k p t)(i:Nat)(b:List Int×List Int)(hok:i≤2^k∧b.1.length≤7∧b.2.length≤7)(env:Env)(st:St)
  (hg:gcAV true 0 0 (canon env [0,2,3,16,17]) st=([(0,tbAV t),(2,sl 1 true (b.1.map I)),(3,sl 1 true (b.2.map I)),(16,U (2^k)),(17,U i)],⟨[],[]⟩)):
  ∃x_1 en s,lim (headed pure (run L) true [0,2,3,16,17] lp20_0 0 0) env st=some (x_1,en,s)∧(x_1=.exit 0∧s=⟨[],[]⟩∧(∃b':List Int×List Int,b'=(List.range' i (2^k-i)).foldl (barStep k p) b∧b'.1.length≤7∧b'.2.length≤7∧en.get 2=sl 1 true (b'.1.map I)∧en.get 3=sl 1 true (b'.2.map I))):=by
 refine loop_wp (α:=Nat×List Int×List Int) (fun ⟨i,b⟩=>2^k-i) (fun ⟨i,b⟩=>i≤2^k∧b.1.length≤7∧b.2.length≤7) (fun ⟨i,b⟩=>([(0,tbAV t),(2,sl 1 true (b.1.map I)),(3,sl 1 true (b.2.map I)),(16,U (2^k)),(17,U i)],⟨[],[]⟩)) (fun ⟨i,b⟩ x_1 en s=>x_1=.exit 0∧s=⟨[],[]⟩∧(∃b':List Int×List Int,b'=(List.range' i (2^k-i)).foldl (barStep k p) b∧b'.1.length≤7∧b'.2.length≤7∧en.get 2=sl 1 true (b'.1.map I)∧en.get 3=sl 1 true (b'.2.map I))) (fun ⟨i,b⟩ hok=> ?_) ⟨i,b⟩ hok env st hg
 simp only at hok
 obtain ⟨h1,hb1,hb2⟩:=hok
 dsimp only at h1 hb1 hb2⊢
 have h3:=hP.k3
 have hp8:2^k≤8:=by have:2^k≤2^3:=Nat.pow_le_pow_right (by omega) h3;omega
 by_cases h:i<2^k
 ·have hs:=succU i (by omega)
  have hlt:((i:Int)<((2^k:Nat):Int))=True:=eq_true (by omega)
  have h65:=fun st=>(c65 k p t hP i h st).1
  have hz8:=(c65 k p t hP i h ⟨[],[]⟩).2
  have h66:=fun st=>c66 i (by omega) st
  have h66z:=fun st=>c66 (zerosP k p i) hz8 st
  have h67:=fun st=>c67 (zerosP k p i) (by omega) st
  have hl:=hP.tab.len
  have hm7:=memb_len i
  have hz7:=memb_len (zerosP k p i)
  have hd:(List.range' i (2^k-i)).foldl (barStep k p) b=(List.range' (i+1) (2^k-(i+1))).foldl (barStep k p) (barStep k p b i):=by
   rw [show 2^k-i=(2^k-(i+1))+1 by omega,List.range'_succ,List.foldl_cons]
  rw [hd]
  obtain ⟨b1,b2⟩:=b
  dsimp only at hb1 hb2⊢
  have h68:=fun st=>c68 true true (memb i) b1 (by omega) st
  have hw:=wrap64 (((memb i).length:Int)+((memb (zerosP k p i)).length:Int)) (by omega) (by omega)
  have hbs:barStep k p (b1,b2) i=if (memb i).length=0∨(memb i).length+(memb (zerosP k p i)).length≤k then (b1,b2) else if b1=[]∨(memb i).length<b1.length∨(memb i).length=b1.length∧lexLt (memb i) b1=true then (memb i,memb (zerosP k p i)) else (b1,b2):=rfl
  generalize zerosP k p i=z at*
  obtain ⟨kk,hk1,hk2⟩:=h68 ⟨[],[]⟩
  by_cases q0:(memb i).length=0
  ·have q0':((((memb i).length:Nat):Int)=0)=True:=eq_true (by omega)
   have e:barStep k p (b1,b2) i=(b1,b2):=by rw [hbs,if_pos (.inl q0)]
   rw [e]
   simp only [go_sem,reduceIte,Nat.reduceEqDiff,Nat.reduceAdd,Nat.reduceSub,Nat.reduceLeDiff,Nat.reduceLT,reduceCtorEq,Int.reduceLT,Int.reduceLE,Int.reduceEq,Int.reduceBEq,Int.reduceSub,Int.reduceAdd,Int.reduceMul,Int.reduceNeg,Int.reduceToNat,Nat.reduceMul,Nat.reduceBEq,index_rsl_if,setm,make_ints,condK_dec,wantK_dec,not_dec,and_dec,or_dec,seqK_ite,seqK_none,blockK_ite,blockK_none,opsK_ite,opsK_none,stepK_ite,stepK_none,bodyK_ite,bodyK_none,resK_ite,resK_none,leaveK_ite,leaveK_none,only_ite,only_none,bind_ite,gives_some,gives_none,gives_ite,then_normal,then_ret,then_exit,then_none,then_ite,Option.bind_none,Bool.not_eq_true',decide_eq_false_iff_not,Bool.and_eq_true,Bool.or_eq_true,Option.some.injEq,Int.not_lt,Int.not_le,lp20_0,hlt,h65,h66,h67,List.length_map,hl,hw,hs,q0']
   refine ⟨(i+1,b1,b2),by simp only [go_sem,reduceIte,Nat.reduceEqDiff,Nat.reduceAdd,Nat.reduceSub,Nat.reduceLeDiff,Nat.reduceLT,reduceCtorEq,Int.reduceLT,Int.reduceLE,Int.reduceEq,Int.reduceBEq,Int.reduceSub,Int.reduceAdd,Int.reduceMul,Int.reduceNeg,Int.reduceToNat,Nat.reduceMul,Nat.reduceBEq,ren1_locm,loc_tips,locT_eq]<;>rfl,?_,?_,fun x en s hq=> ?_⟩
   all_goals first|exact hq|(dsimp only;exact ⟨by omega,hb1,hb2⟩)|(dsimp only;omega)
  have q0':((((memb i).length:Nat):Int)=0)=False:=eq_false (by omega)
  by_cases q1:(memb i).length+(memb z).length≤k
  ·have q1':((((memb i).length:Nat):Int)+(((memb z).length:Nat):Int)≤(k:Int))=True:=eq_true (by omega)
   have e:barStep k p (b1,b2) i=(b1,b2):=by rw [hbs,if_pos (.inr q1)]
   rw [e]
   simp only [go_sem,reduceIte,Nat.reduceEqDiff,Nat.reduceAdd,Nat.reduceSub,Nat.reduceLeDiff,Nat.reduceLT,reduceCtorEq,Int.reduceLT,Int.reduceLE,Int.reduceEq,Int.reduceBEq,Int.reduceSub,Int.reduceAdd,Int.reduceMul,Int.reduceNeg,Int.reduceToNat,Nat.reduceMul,Nat.reduceBEq,index_rsl_if,setm,make_ints,condK_dec,wantK_dec,not_dec,and_dec,or_dec,seqK_ite,seqK_none,blockK_ite,blockK_none,opsK_ite,opsK_none,stepK_ite,stepK_none,bodyK_ite,bodyK_none,resK_ite,resK_none,leaveK_ite,leaveK_none,only_ite,only_none,bind_ite,gives_some,gives_none,gives_ite,then_normal,then_ret,then_exit,then_none,then_ite,Option.bind_none,Bool.not_eq_true',decide_eq_false_iff_not,Bool.and_eq_true,Bool.or_eq_true,Option.some.injEq,Int.not_lt,Int.not_le,lp20_0,hlt,h65,h66,h67,List.length_map,hl,hw,hs,q0',q1']
   refine ⟨(i+1,b1,b2),by simp only [go_sem,reduceIte,Nat.reduceEqDiff,Nat.reduceAdd,Nat.reduceSub,Nat.reduceLeDiff,Nat.reduceLT,reduceCtorEq,Int.reduceLT,Int.reduceLE,Int.reduceEq,Int.reduceBEq,Int.reduceSub,Int.reduceAdd,Int.reduceMul,Int.reduceNeg,Int.reduceToNat,Nat.reduceMul,Nat.reduceBEq,ren1_locm,loc_tips,locT_eq]<;>rfl,?_,?_,fun x en s hq=> ?_⟩
   all_goals first|exact hq|(dsimp only;exact ⟨by omega,hb1,hb2⟩)|(dsimp only;omega)
  have q1':((((memb i).length:Nat):Int)+(((memb z).length:Nat):Int)≤(k:Int))=False:=eq_false (by omega)
  rw [if_neg (by omega)] at hbs
  by_cases q2:b1=[]
  ·have e:barStep k p (b1,b2) i=(memb i,memb z):=by rw [hbs,if_pos (.inl q2)]
   rw [e]
   simp only [go_sem,reduceIte,Nat.reduceEqDiff,Nat.reduceAdd,Nat.reduceSub,Nat.reduceLeDiff,Nat.reduceLT,reduceCtorEq,Int.reduceLT,Int.reduceLE,Int.reduceEq,Int.reduceBEq,Int.reduceSub,Int.reduceAdd,Int.reduceMul,Int.reduceNeg,Int.reduceToNat,Nat.reduceMul,Nat.reduceBEq,index_rsl_if,setm,make_ints,condK_dec,wantK_dec,not_dec,and_dec,or_dec,seqK_ite,seqK_none,blockK_ite,blockK_none,opsK_ite,opsK_none,stepK_ite,stepK_none,bodyK_ite,bodyK_none,resK_ite,resK_none,leaveK_ite,leaveK_none,only_ite,only_none,bind_ite,gives_some,gives_none,gives_ite,then_normal,then_ret,then_exit,then_none,then_ite,Option.bind_none,Bool.not_eq_true',decide_eq_false_iff_not,Bool.and_eq_true,Bool.or_eq_true,Option.some.injEq,Int.not_lt,Int.not_le,lp20_0,hlt,h65,h66,h66z,h67,List.length_map,hl,hw,hs,q0',q1',q2]
   refine ⟨(i+1,memb i,memb z),by simp only [go_sem,reduceIte,Nat.reduceEqDiff,Nat.reduceAdd,Nat.reduceSub,Nat.reduceLeDiff,Nat.reduceLT,reduceCtorEq,Int.reduceLT,Int.reduceLE,Int.reduceEq,Int.reduceBEq,Int.reduceSub,Int.reduceAdd,Int.reduceMul,Int.reduceNeg,Int.reduceToNat,Nat.reduceMul,Nat.reduceBEq,ren1_locm,loc_tips,locT_eq]<;>rfl,?_,?_,fun x en s hq=> ?_⟩
   all_goals first|exact hq|(dsimp only;exact ⟨by omega,hm7,hz7⟩)|(dsimp only;omega)
  by_cases q3:(memb i).length<b1.length
  ·have q3':((((memb i).length:Nat):Int)<((b1.length:Nat):Int))=True:=eq_true (by omega)
   have e:barStep k p (b1,b2) i=(memb i,memb z):=by rw [hbs,if_pos (.inr (.inl q3))]
   rw [e]
   simp only [go_sem,reduceIte,Nat.reduceEqDiff,Nat.reduceAdd,Nat.reduceSub,Nat.reduceLeDiff,Nat.reduceLT,reduceCtorEq,Int.reduceLT,Int.reduceLE,Int.reduceEq,Int.reduceBEq,Int.reduceSub,Int.reduceAdd,Int.reduceMul,Int.reduceNeg,Int.reduceToNat,Nat.reduceMul,Nat.reduceBEq,index_rsl_if,setm,make_ints,condK_dec,wantK_dec,not_dec,and_dec,or_dec,seqK_ite,seqK_none,blockK_ite,blockK_none,opsK_ite,opsK_none,stepK_ite,stepK_none,bodyK_ite,bodyK_none,resK_ite,resK_none,leaveK_ite,leaveK_none,only_ite,only_none,bind_ite,gives_some,gives_none,gives_ite,then_normal,then_ret,then_exit,then_none,then_ite,Option.bind_none,Bool.not_eq_true',decide_eq_false_iff_not,Bool.and_eq_true,Bool.or_eq_true,Option.some.injEq,Int.not_lt,Int.not_le,lp20_0,hlt,h65,h66,h66z,h67,List.length_map,hl,hw,hs,q0',q1',q2,q3']
   refine ⟨(i+1,memb i,memb z),by simp only [go_sem,reduceIte,Nat.reduceEqDiff,Nat.reduceAdd,Nat.reduceSub,Nat.reduceLeDiff,Nat.reduceLT,reduceCtorEq,Int.reduceLT,Int.reduceLE,Int.reduceEq,Int.reduceBEq,Int.reduceSub,Int.reduceAdd,Int.reduceMul,Int.reduceNeg,Int.reduceToNat,Nat.reduceMul,Nat.reduceBEq,ren1_locm,loc_tips,locT_eq]<;>rfl,?_,?_,fun x en s hq=> ?_⟩
   all_goals first|exact hq|(dsimp only;exact ⟨by omega,hm7,hz7⟩)|(dsimp only;omega)
  have q3':((((memb i).length:Nat):Int)<((b1.length:Nat):Int))=False:=eq_false (by omega)
  by_cases q4:(memb i).length=b1.length
  ·have q4':((((memb i).length:Nat):Int)=((b1.length:Nat):Int))=True:=eq_true (by omega)
   by_cases q5:lexLt (memb i) b1=true
   ·have e:barStep k p (b1,b2) i=(memb i,memb z):=by rw [hbs,if_pos (.inr (.inr ⟨q4,q5⟩))]
    rw [e]
    have q6:(kk<0)=True:=eq_true (by simpa [q5] using hk2)
    simp only [go_sem,reduceIte,Nat.reduceEqDiff,Nat.reduceAdd,Nat.reduceSub,Nat.reduceLeDiff,Nat.reduceLT,reduceCtorEq,Int.reduceLT,Int.reduceLE,Int.reduceEq,Int.reduceBEq,Int.reduceSub,Int.reduceAdd,Int.reduceMul,Int.reduceNeg,Int.reduceToNat,Nat.reduceMul,Nat.reduceBEq,index_rsl_if,setm,make_ints,condK_dec,wantK_dec,not_dec,and_dec,or_dec,seqK_ite,seqK_none,blockK_ite,blockK_none,opsK_ite,opsK_none,stepK_ite,stepK_none,bodyK_ite,bodyK_none,resK_ite,resK_none,leaveK_ite,leaveK_none,only_ite,only_none,bind_ite,gives_some,gives_none,gives_ite,then_normal,then_ret,then_exit,then_none,then_ite,Option.bind_none,Bool.not_eq_true',decide_eq_false_iff_not,Bool.and_eq_true,Bool.or_eq_true,Option.some.injEq,Int.not_lt,Int.not_le,lp20_0,hlt,h65,h66,h66z,h67,List.length_map,hl,hw,hs,q0',q1',q2,q3',q4',hk1,q6]
    refine ⟨(i+1,memb i,memb z),by simp only [go_sem,reduceIte,Nat.reduceEqDiff,Nat.reduceAdd,Nat.reduceSub,Nat.reduceLeDiff,Nat.reduceLT,reduceCtorEq,Int.reduceLT,Int.reduceLE,Int.reduceEq,Int.reduceBEq,Int.reduceSub,Int.reduceAdd,Int.reduceMul,Int.reduceNeg,Int.reduceToNat,Nat.reduceMul,Nat.reduceBEq,ren1_locm,loc_tips,locT_eq]<;>rfl,?_,?_,fun x en s hq=> ?_⟩
    all_goals first|exact hq|(dsimp only;exact ⟨by omega,hm7,hz7⟩)|(dsimp only;omega)
   ·have q5':lexLt (memb i) b1=false:=by simpa using q5
    have e:barStep k p (b1,b2) i=(b1,b2):=by rw [hbs,if_neg (by simp [q2,q3,q5'])]
    rw [e]
    have q6:(kk<0)=False:=eq_false (by simpa [q5'] using hk2)
    simp only [go_sem,reduceIte,Nat.reduceEqDiff,Nat.reduceAdd,Nat.reduceSub,Nat.reduceLeDiff,Nat.reduceLT,reduceCtorEq,Int.reduceLT,Int.reduceLE,Int.reduceEq,Int.reduceBEq,Int.reduceSub,Int.reduceAdd,Int.reduceMul,Int.reduceNeg,Int.reduceToNat,Nat.reduceMul,Nat.reduceBEq,index_rsl_if,setm,make_ints,condK_dec,wantK_dec,not_dec,and_dec,or_dec,seqK_ite,seqK_none,blockK_ite,blockK_none,opsK_ite,opsK_none,stepK_ite,stepK_none,bodyK_ite,bodyK_none,resK_ite,resK_none,leaveK_ite,leaveK_none,only_ite,only_none,bind_ite,gives_some,gives_none,gives_ite,then_normal,then_ret,then_exit,then_none,then_ite,Option.bind_none,Bool.not_eq_true',decide_eq_false_iff_not,Bool.and_eq_true,Bool.or_eq_true,Option.some.injEq,Int.not_lt,Int.not_le,lp20_0,hlt,h65,h66,h66z,h67,List.length_map,hl,hw,hs,q0',q1',q2,q3',q4',hk1,q6]
    refine ⟨(i+1,b1,b2),by simp only [go_sem,reduceIte,Nat.reduceEqDiff,Nat.reduceAdd,Nat.reduceSub,Nat.reduceLeDiff,Nat.reduceLT,reduceCtorEq,Int.reduceLT,Int.reduceLE,Int.reduceEq,Int.reduceBEq,Int.reduceSub,Int.reduceAdd,Int.reduceMul,Int.reduceNeg,Int.reduceToNat,Nat.reduceMul,Nat.reduceBEq,ren1_locm,loc_tips,locT_eq]<;>rfl,?_,?_,fun x en s hq=> ?_⟩
    all_goals first|exact hq|(dsimp only;exact ⟨by omega,hb1,hb2⟩)|(dsimp only;omega)
  ·have q4':((((memb i).length:Nat):Int)=((b1.length:Nat):Int))=False:=eq_false (by omega)
   have e:barStep k p (b1,b2) i=(b1,b2):=by rw [hbs,if_neg (by simp [q2,q3,q4])]
   rw [e]
   simp only [go_sem,reduceIte,Nat.reduceEqDiff,Nat.reduceAdd,Nat.reduceSub,Nat.reduceLeDiff,Nat.reduceLT,reduceCtorEq,Int.reduceLT,Int.reduceLE,Int.reduceEq,Int.reduceBEq,Int.reduceSub,Int.reduceAdd,Int.reduceMul,Int.reduceNeg,Int.reduceToNat,Nat.reduceMul,Nat.reduceBEq,index_rsl_if,setm,make_ints,condK_dec,wantK_dec,not_dec,and_dec,or_dec,seqK_ite,seqK_none,blockK_ite,blockK_none,opsK_ite,opsK_none,stepK_ite,stepK_none,bodyK_ite,bodyK_none,resK_ite,resK_none,leaveK_ite,leaveK_none,only_ite,only_none,bind_ite,gives_some,gives_none,gives_ite,then_normal,then_ret,then_exit,then_none,then_ite,Option.bind_none,Bool.not_eq_true',decide_eq_false_iff_not,Bool.and_eq_true,Bool.or_eq_true,Option.some.injEq,Int.not_lt,Int.not_le,lp20_0,hlt,h65,h66,h66z,h67,List.length_map,hl,hw,hs,q0',q1',q2,q3',q4']
   refine ⟨(i+1,b1,b2),by simp only [go_sem,reduceIte,Nat.reduceEqDiff,Nat.reduceAdd,Nat.reduceSub,Nat.reduceLeDiff,Nat.reduceLT,reduceCtorEq,Int.reduceLT,Int.reduceLE,Int.reduceEq,Int.reduceBEq,Int.reduceSub,Int.reduceAdd,Int.reduceMul,Int.reduceNeg,Int.reduceToNat,Nat.reduceMul,Nat.reduceBEq,ren1_locm,loc_tips,locT_eq]<;>rfl,?_,?_,fun x en s hq=> ?_⟩
   all_goals first|exact hq|(dsimp only;exact ⟨by omega,hb1,hb2⟩)|(dsimp only;omega)
 ·have hlt:((i:Int)<((2^k:Nat):Int))=False:=eq_false (by omega)
  have e0:2^k-i=0:=by omega
  rw [e0]
  simp only [go_sem,reduceIte,Nat.reduceEqDiff,Nat.reduceAdd,Nat.reduceSub,Nat.reduceLeDiff,Nat.reduceLT,reduceCtorEq,Int.reduceLT,Int.reduceLE,Int.reduceEq,Int.reduceBEq,Int.reduceSub,Int.reduceAdd,Int.reduceMul,Int.reduceNeg,Int.reduceToNat,Nat.reduceMul,Nat.reduceBEq,index_rsl_if,setm,make_ints,condK_dec,wantK_dec,not_dec,and_dec,or_dec,seqK_ite,seqK_none,blockK_ite,blockK_none,opsK_ite,opsK_none,stepK_ite,stepK_none,bodyK_ite,bodyK_none,resK_ite,resK_none,leaveK_ite,leaveK_none,only_ite,only_none,bind_ite,gives_some,gives_none,gives_ite,then_normal,then_ret,then_exit,then_none,then_ite,Option.bind_none,Bool.not_eq_true',decide_eq_false_iff_not,Bool.and_eq_true,Bool.or_eq_true,Option.some.injEq,Int.not_lt,Int.not_le,lp20_0,hlt]
  exact ⟨b,rfl,hb1,hb2,rfl,rfl⟩
def barC (k p:Nat):List Int:=if (barP k p).1=[] then [] else (barP k p).2
theorem c20 (k p:Nat)(t:List (List Int))(hP:Pat k p t)(st:St):run L 20 [tbAV t] st=some (.tup [sl 1 true ((barP k p).1.map I),sl 1 true ((barC k p).map I),I (if (barP k p).1=[] then 13 else 0)],st)∧(barP k p).1.length≤7∧(barP k p).2.length≤7:=by
 have h3:=hP.k3
 have h50:=fun st=>c50 k t hP.tab st
 have hsh:=sh1_eq k (by omega)
 have hl:=hP.tab.len
 rw [run_pure (fn:=ir20) rfl rfl]
 simp only [ir20,go_sem,reduceIte,Nat.reduceEqDiff,Nat.reduceAdd,Nat.reduceSub,Nat.reduceLeDiff,Nat.reduceLT,reduceCtorEq,Int.reduceLT,Int.reduceLE,Int.reduceEq,Int.reduceBEq,Int.reduceSub,Int.reduceAdd,Int.reduceMul,Int.reduceNeg,Int.reduceToNat,Nat.reduceMul,Nat.reduceBEq,List.length_map,hl,h50,hsh,sl_nil]
 generalize hg:lim (headed pure (run L) true _ lp20_0 _ _) _ _=o
 obtain ⟨x,en,s,rfl,h2⟩: ∃x en s,o=some (x,en,s)∧_:=by rw [←hg];exact loop20 k p t hP 0 ([],[]) ⟨by omega,by simp,by simp⟩ _ _ (by simp only [go_sem,reduceIte,Nat.reduceEqDiff,Nat.reduceAdd,Nat.reduceSub,Nat.reduceLeDiff,Nat.reduceLT,reduceCtorEq,Int.reduceLT,Int.reduceLE,Int.reduceEq,Int.reduceBEq,Int.reduceSub,Int.reduceAdd,Int.reduceMul,Int.reduceNeg,Int.reduceToNat,Nat.reduceMul,Nat.reduceBEq,Int.natCast_zero,List.map_nil]<;>rfl)
 clear hg
 obtain ⟨rfl,rfl,b',e,g1,g2,g3,g4⟩:=h2
 rw [Nat.sub_zero,←List.range_eq_range'] at e
 have e:b'=barP k p:=e
 subst e
 refine ⟨?_,g1,g2⟩
 by_cases q:(barP k p).1=[]
 ·have e2:barC k p=[]:=if_pos q
  rw [e2]
  simp only [go_sem,reduceIte,Nat.reduceEqDiff,Nat.reduceAdd,Nat.reduceSub,Nat.reduceLeDiff,Nat.reduceLT,reduceCtorEq,Int.reduceLT,Int.reduceLE,Int.reduceEq,Int.reduceBEq,Int.reduceSub,Int.reduceAdd,Int.reduceMul,Int.reduceNeg,Int.reduceToNat,Nat.reduceMul,Nat.reduceBEq,g3,g4,q]
  rfl
 ·have e2:barC k p=(barP k p).2:=if_neg q
  rw [e2]
  simp only [go_sem,reduceIte,Nat.reduceEqDiff,Nat.reduceAdd,Nat.reduceSub,Nat.reduceLeDiff,Nat.reduceLT,reduceCtorEq,Int.reduceLT,Int.reduceLE,Int.reduceEq,Int.reduceBEq,Int.reduceSub,Int.reduceAdd,Int.reduceMul,Int.reduceNeg,Int.reduceToNat,Nat.reduceMul,Nat.reduceBEq,g3,g4,q]
def plA (g:Tag) (p:List Int):AV:=if p=[] then .v (.slice none 0 0) else .lst g 1 (p.map I)
theorem plA_nil (g:Tag):plA g []=.v (.slice none 0 0):=rfl
theorem plA_ne (g:Tag) {p:List Int} (h:p≠[]):plA g p=.lst g 1 (p.map I):=if_neg h
theorem plA_len (g:Tag)(p:List Int):lenAV (plA g p)=some (I p.length):=by
 by_cases h:p=[]
 ·subst h;rfl
 ·rw [plA_ne g h];simp [lenAV];rfl
theorem plA_pub (g:Tag)(p:List Int):pub (plA g p)=sl 1 true (p.map I):=by
 by_cases h:p=[]
 ·subst h;rfl
 ·rw [plA_ne g h,sl_ne (by intro h2;simp at h2;exact h h2)]
  cases g<;>rfl
theorem plA_cut (g:Tag)(p:List Int):sliceAV 1 (plA g p) none (some (I p.length)) (some (I p.length))=some (plA .full p):=by
 by_cases h:p=[]
 ·subst h;rfl
 ·rw [plA_ne g h,plA_ne .full h]
  simp [sliceAV,natOr,natOf]
  rw [List.take_of_length_le (by simp)]
theorem plA_app (p:List Int)(c:Int)(S:List (List AV))(T:List Nat)(h:p.length<1000):appendAV 1 (plA .full p) [I c] ⟨S,T⟩=some (plA (.own T.length (p.length+1)) (p++ [c]),⟨S,T++ [p.length+1]⟩):=by
 rw [plA_ne (p:=p++ [c]) _ (by simp)]
 by_cases h2:p=[]
 ·subst h2
  have:1≤maxGrow:=by unfold maxGrow;omega
  simp [plA_nil,appendAV,this]
 ·rw [plA_ne .full h2]
  have:p.length+1≤maxGrow:=by unfold maxGrow;omega
  simp [appendAV,this]
abbrev cellV (t:List (List Int)) (r c:Nat):Int:=(t.getD r []).getD c 0
section
variable {σ:Type}
def walkRow (g:Nat→σ→Bool×σ) (ok:Nat→Bool):List Nat→σ→Bool×σ
 | [],a=>(true,a)
 |c::cs,a=>if ok c=true then (if (g c a).1=true then walkRow g ok cs (g c a).2 else (false,(g c a).2)) else walkRow g ok cs a
def okC (t:List (List Int)) (p:List Int) (c:Nat):Bool:=decide (0<cellV t p.length c)&& !decide ((c:Int)∈p)
def walkF (t:List (List Int)) (vis:List Int→Int→Int→σ→Bool×σ):Nat→List Int→Int→Int→σ→Bool×σ
 |0,p,w,l,a=>vis p w l a
 |f+1,p,w,l,a=>walkRow (fun c a=>walkF t vis f (p++ [(c:Int)]) (IntKind.i64.wrap (w*cellV t p.length c)) (min l (cellV t p.length c)) a) (okC t p) (List.range t.length) a
end
def reps (j:Nat) (W:List AV):List (List AV):=List.replicate j W
theorem reps_len (j:Nat)(W:List AV):(reps j W).length=j:=List.length_replicate
theorem reps_succ (j:Nat)(W:List AV):reps (j+1) W=reps j W++ [W]:=List.replicate_succ'
def wC (t:List (List Int)) (kf:Nat) (caps:List AV):List AV:=[tbAV t,.fn (.func kf) [] caps]
theorem get_rep {A:List (List AV)} {m:Nat} (hA:A.length=m) {j0 j:Nat} (h:j0<j)(W:List AV):(A++reps j W)[m+j0]? =some W:=by
 rw [List.getElem?_append_right (by omega),show m+j0-A.length=j0 by omega]
 simp [reps,h]
set_option maxHeartbeats 1000000 in
theorem loop116 (σ:Type)(t:List (List Int))(n:Nat)(hT:TabOk n t)(kf:Nat)(hk:pure kf=false)(caps:List AV)(m:Nat)(base:σ→List (List AV))(hm: ∀a,(base a).length=m)(vis:List Int→Int→Int→σ→Bool×σ)(f:Nat)(p:List Int)(hp:p.length+(f+1)=n)(g:Tag)(w l:Int)(hrec: ∀c:Nat,c<n→∀g w l a j T,∃j' T',run L 116 [.agg [tbAV t,.fn (.func kf) [] caps],plA g (p++ [(c:Int)]),I w,I l] ⟨base a++reps j (wC t kf caps),T⟩=some (B (walkF t vis f (p++ [(c:Int)]) w l a).1,⟨base (walkF t vis f (p++ [(c:Int)]) w l a).2++reps j' (wC t kf caps),T'⟩)∧j≤j')(j0:Nat)(lo hi:Nat)(i:Nat)(a:σ)(j:Nat)(T:List Nat)(hok:i≤n∧j0<j)(env:Env)(st:St)
  (hg:gcAV false lo hi (canon env [1,2,3,4,9,29,30,31]) st=([(1,plA g p),(2,I w),(3,I l),(4,.ptr (m+j0) 0),(9,I p.length),(29,listAV (t.getD p.length [])),(30,I n),(31,I i)],⟨base a++reps j (wC t kf caps),T⟩)):
  ∃x_1 en s,lim (headed pure (run L) false [1,2,3,4,9,29,30,31] lp116_0 lo hi) env st=some (x_1,en,s)∧(∃j' T',s=⟨base (walkRow (fun c a=>walkF t vis f (p++ [(c:Int)]) (IntKind.i64.wrap (w*cellV t p.length c)) (min l (cellV t p.length c)) a) (okC t p) (List.range' i (n-i)) a).2++reps j' (wC t kf caps),T'⟩∧j≤j'∧(if (walkRow (fun c a=>walkF t vis f (p++ [(c:Int)]) (IntKind.i64.wrap (w*cellV t p.length c)) (min l (cellV t p.length c)) a) (okC t p) (List.range' i (n-i)) a).1=true then x_1=.exit 0 else x_1=.ret∧en.get 8=B false)):=by
 refine loop_wp (α:=Nat×σ×Nat×List Nat) (fun ⟨i,a,j,T⟩=>n-i) (fun ⟨i,a,j,T⟩=>i≤n∧j0<j) (fun ⟨i,a,j,T⟩=>([(1,plA g p),(2,I w),(3,I l),(4,.ptr (m+j0) 0),(9,I p.length),(29,listAV (t.getD p.length [])),(30,I n),(31,I i)],⟨base a++reps j (wC t kf caps),T⟩)) (fun ⟨i,a,j,T⟩ x_1 en s=> ∃j' T',s=⟨base (walkRow (fun c a=>walkF t vis f (p++ [(c:Int)]) (IntKind.i64.wrap (w*cellV t p.length c)) (min l (cellV t p.length c)) a) (okC t p) (List.range' i (n-i)) a).2++reps j' (wC t kf caps),T'⟩∧j≤j'∧(if (walkRow (fun c a=>walkF t vis f (p++ [(c:Int)]) (IntKind.i64.wrap (w*cellV t p.length c)) (min l (cellV t p.length c)) a) (okC t p) (List.range' i (n-i)) a).1=true then x_1=.exit 0 else x_1=.ret∧en.get 8=B false)) (fun ⟨i,a,j,T⟩ hok=> ?_) ⟨i,a,j,T⟩ hok env st hg
 simp only at hok
 obtain ⟨h1,hj⟩:=hok
 dsimp only at h1 hj⊢
 have h4:=hT.n4
 by_cases h:i<n
 ·have hs:=succ64 i (by omega)
  have hlt:((i:Int)<(n:Int))=True:=eq_true (by omega)
  have hrl:(t.getD p.length []).length=n:=by
   have:p.length<t.length:=by rw [hT.len];omega
   rw [List.getD_eq_getElem?_getD,List.getElem?_eq_getElem this]
   exact hT.rows _ (List.getElem_mem _)
  have hx:=index_at false (t.getD p.length []) i (by omega) (by omega)
  rw [Int.toNat_natCast] at hx
  have hd:List.range' i (n-i)=i::List.range' (i+1) (n-(i+1)):=by rw [show n-i=(n-(i+1))+1 by omega,List.range'_succ]
  rw [hd]
  have hWg:(base a++reps j (wC t kf caps))[m+j0]? =some [tbAV t,.fn (.func kf) [] caps]:=get_rep (hm a) hj (wC t kf caps)
  have h21: ∀st,run L 21 [plA g p,I i] st=some (B (decide ((i:Int)∈p)),st):=fun st=>(run_args (fn:=ir21) rfl rfl st (by rw [show pubs [plA g p,I i]=[pub (plA g p),I i] from rfl,plA_pub,show pubs [sl 1 true (p.map I),I i]=[pub (sl 1 true (p.map I)),I i] from rfl,pub_sl])).trans (c21 true p (by omega) i st)
  have hcut:=plA_cut g p
  have happ:=fun S T=>plA_app p (i:Int) S T (by omega)
  have hc:=hrec i h
  have hwr: ∀(R:List Nat),walkRow (fun c a=>walkF t vis f (p++ [(c:Int)]) (IntKind.i64.wrap (w*cellV t p.length c)) (min l (cellV t p.length c)) a) (okC t p) (i::R) a=if okC t p i=true then (if (walkF t vis f (p++ [(i:Int)]) (IntKind.i64.wrap (w*cellV t p.length i)) (min l (cellV t p.length i)) a).1=true then walkRow (fun c a=>walkF t vis f (p++ [(c:Int)]) (IntKind.i64.wrap (w*cellV t p.length c)) (min l (cellV t p.length c)) a) (okC t p) R (walkF t vis f (p++ [(i:Int)]) (IntKind.i64.wrap (w*cellV t p.length i)) (min l (cellV t p.length i)) a).2 else (false,(walkF t vis f (p++ [(i:Int)]) (IntKind.i64.wrap (w*cellV t p.length i)) (min l (cellV t p.length i)) a).2)) else walkRow (fun c a=>walkF t vis f (p++ [(c:Int)]) (IntKind.i64.wrap (w*cellV t p.length c)) (min l (cellV t p.length c)) a) (okC t p) R a:=fun R=>rfl
  rw [hwr]
  by_cases q:0<cellV t p.length i
  ·by_cases q2:(i:Int)∈p
   ·have e:okC t p i=false:=by unfold okC;rw [decide_eq_true q2,Bool.not_true,Bool.and_false]
    rw [e] at*
    simp only [Bool.false_eq_true,if_false]
    simp only [go_sem,reduceIte,Nat.reduceEqDiff,Nat.reduceAdd,Nat.reduceSub,Nat.reduceLeDiff,Nat.reduceLT,reduceCtorEq,Int.reduceLT,Int.reduceLE,Int.reduceEq,Int.reduceBEq,Int.reduceSub,Int.reduceAdd,Int.reduceMul,Int.reduceNeg,Int.reduceToNat,Nat.reduceMul,Nat.reduceBEq,index_rsl_if,setm,make_ints,condK_dec,wantK_dec,not_dec,and_dec,or_dec,seqK_ite,seqK_none,blockK_ite,blockK_none,opsK_ite,opsK_none,stepK_ite,stepK_none,bodyK_ite,bodyK_none,resK_ite,resK_none,leaveK_ite,leaveK_none,only_ite,only_none,bind_ite,gives_some,gives_none,gives_ite,then_normal,then_ret,then_exit,then_none,then_ite,Option.bind_none,Bool.not_eq_true',decide_eq_false_iff_not,Bool.and_eq_true,Bool.or_eq_true,Option.some.injEq,Int.not_lt,Int.not_le,lp116_0,hx,hlt,hs,q,q2,h21]
    refine ⟨(i+1,a,j,T),by simp only [go_sem,reduceIte,Nat.reduceEqDiff,Nat.reduceAdd,Nat.reduceSub,Nat.reduceLeDiff,Nat.reduceLT,reduceCtorEq,Int.reduceLT,Int.reduceLE,Int.reduceEq,Int.reduceBEq,Int.reduceSub,Int.reduceAdd,Int.reduceMul,Int.reduceNeg,Int.reduceToNat,Nat.reduceMul,Nat.reduceBEq,ren1_locm,loc_tips,locT_eq]<;>rfl,?_,?_,fun x en s hq=> ?_⟩
    all_goals first|exact hq|(dsimp only;exact ⟨by omega,hj⟩)|(dsimp only;omega)
   ·have e:okC t p i=true:=by unfold okC;rw [decide_eq_true q,decide_eq_false q2];rfl
    obtain ⟨j',T',hcall,hjj⟩:=hc (.own T.length (p.length+1)) (IntKind.i64.wrap (w*cellV t p.length i)) (min l (cellV t p.length i)) a j (T++ [p.length+1])
    rw [e]
    simp only [if_true]
    generalize hR:walkF t vis f (p++ [(i:Int)]) (IntKind.i64.wrap (w*cellV t p.length i)) (min l (cellV t p.length i)) a=R at*
    obtain ⟨b,a'⟩:=R
    dsimp only at hcall⊢
    cases b with
    |true=>
     simp only [if_true]
     simp only [go_sem,reduceIte,Nat.reduceEqDiff,Nat.reduceAdd,Nat.reduceSub,Nat.reduceLeDiff,Nat.reduceLT,reduceCtorEq,Int.reduceLT,Int.reduceLE,Int.reduceEq,Int.reduceBEq,Int.reduceSub,Int.reduceAdd,Int.reduceMul,Int.reduceNeg,Int.reduceToNat,Nat.reduceMul,Nat.reduceBEq,index_rsl_if,setm,make_ints,condK_dec,wantK_dec,not_dec,and_dec,or_dec,seqK_ite,seqK_none,blockK_ite,blockK_none,opsK_ite,opsK_none,stepK_ite,stepK_none,bodyK_ite,bodyK_none,resK_ite,resK_none,leaveK_ite,leaveK_none,only_ite,only_none,bind_ite,gives_some,gives_none,gives_ite,then_normal,then_ret,then_exit,then_none,then_ite,Option.bind_none,Bool.not_eq_true',decide_eq_false_iff_not,Bool.and_eq_true,Bool.or_eq_true,Option.some.injEq,Int.not_lt,Int.not_le,lp116_0,hx,hlt,hs,q,q2,h21,hWg,hcut,happ,hcall]
     refine ⟨(i+1,a',j',T'),by simp only [go_sem,reduceIte,Nat.reduceEqDiff,Nat.reduceAdd,Nat.reduceSub,Nat.reduceLeDiff,Nat.reduceLT,reduceCtorEq,Int.reduceLT,Int.reduceLE,Int.reduceEq,Int.reduceBEq,Int.reduceSub,Int.reduceAdd,Int.reduceMul,Int.reduceNeg,Int.reduceToNat,Nat.reduceMul,Nat.reduceBEq,ren1_locm,loc_tips,locT_eq]<;>rfl,?_,?_,fun x en s hq=> ?_⟩
     ·dsimp only;exact ⟨by omega,by omega⟩
     ·dsimp only;omega
     ·obtain ⟨j2,T2,k1,k2,k3⟩:=hq
      dsimp only at k2
      exact ⟨j2,T2,k1,by omega,k3⟩
    |false=>
     simp only [Bool.false_eq_true,if_false]
     simp only [go_sem,reduceIte,Nat.reduceEqDiff,Nat.reduceAdd,Nat.reduceSub,Nat.reduceLeDiff,Nat.reduceLT,reduceCtorEq,Int.reduceLT,Int.reduceLE,Int.reduceEq,Int.reduceBEq,Int.reduceSub,Int.reduceAdd,Int.reduceMul,Int.reduceNeg,Int.reduceToNat,Nat.reduceMul,Nat.reduceBEq,index_rsl_if,setm,make_ints,condK_dec,wantK_dec,not_dec,and_dec,or_dec,seqK_ite,seqK_none,blockK_ite,blockK_none,opsK_ite,opsK_none,stepK_ite,stepK_none,bodyK_ite,bodyK_none,resK_ite,resK_none,leaveK_ite,leaveK_none,only_ite,only_none,bind_ite,gives_some,gives_none,gives_ite,then_normal,then_ret,then_exit,then_none,then_ite,Option.bind_none,Bool.not_eq_true',decide_eq_false_iff_not,Bool.and_eq_true,Bool.or_eq_true,Option.some.injEq,Int.not_lt,Int.not_le,lp116_0,hx,hlt,hs,q,q2,h21,hWg,hcut,happ,hcall]
     exact ⟨j',T',rfl,hjj⟩
  ·have e:okC t p i=false:=by unfold okC;rw [decide_eq_false q,Bool.false_and]
   rw [e]
   simp only [Bool.false_eq_true,if_false]
   simp only [go_sem,reduceIte,Nat.reduceEqDiff,Nat.reduceAdd,Nat.reduceSub,Nat.reduceLeDiff,Nat.reduceLT,reduceCtorEq,Int.reduceLT,Int.reduceLE,Int.reduceEq,Int.reduceBEq,Int.reduceSub,Int.reduceAdd,Int.reduceMul,Int.reduceNeg,Int.reduceToNat,Nat.reduceMul,Nat.reduceBEq,index_rsl_if,setm,make_ints,condK_dec,wantK_dec,not_dec,and_dec,or_dec,seqK_ite,seqK_none,blockK_ite,blockK_none,opsK_ite,opsK_none,stepK_ite,stepK_none,bodyK_ite,bodyK_none,resK_ite,resK_none,leaveK_ite,leaveK_none,only_ite,only_none,bind_ite,gives_some,gives_none,gives_ite,then_normal,then_ret,then_exit,then_none,then_ite,Option.bind_none,Bool.not_eq_true',decide_eq_false_iff_not,Bool.and_eq_true,Bool.or_eq_true,Option.some.injEq,Int.not_lt,Int.not_le,lp116_0,hx,hlt,hs,q]
   refine ⟨(i+1,a,j,T),by simp only [go_sem,reduceIte,Nat.reduceEqDiff,Nat.reduceAdd,Nat.reduceSub,Nat.reduceLeDiff,Nat.reduceLT,reduceCtorEq,Int.reduceLT,Int.reduceLE,Int.reduceEq,Int.reduceBEq,Int.reduceSub,Int.reduceAdd,Int.reduceMul,Int.reduceNeg,Int.reduceToNat,Nat.reduceMul,Nat.reduceBEq,ren1_locm,loc_tips,locT_eq]<;>rfl,?_,?_,fun x en s hq=> ?_⟩
   all_goals first|exact hq|(dsimp only;exact ⟨by omega,hj⟩)|(dsimp only;omega)
 ·have hlt:((i:Int)<(n:Int))=False:=eq_false (by omega)
  rw [show n-i=0 by omega]
  simp only [go_sem,reduceIte,Nat.reduceEqDiff,Nat.reduceAdd,Nat.reduceSub,Nat.reduceLeDiff,Nat.reduceLT,reduceCtorEq,Int.reduceLT,Int.reduceLE,Int.reduceEq,Int.reduceBEq,Int.reduceSub,Int.reduceAdd,Int.reduceMul,Int.reduceNeg,Int.reduceToNat,Nat.reduceMul,Nat.reduceBEq,index_rsl_if,setm,make_ints,condK_dec,wantK_dec,not_dec,and_dec,or_dec,seqK_ite,seqK_none,blockK_ite,blockK_none,opsK_ite,opsK_none,stepK_ite,stepK_none,bodyK_ite,bodyK_none,resK_ite,resK_none,leaveK_ite,leaveK_none,only_ite,only_none,bind_ite,gives_some,gives_none,gives_ite,then_normal,then_ret,then_exit,then_none,then_ite,Option.bind_none,Bool.not_eq_true',decide_eq_false_iff_not,Bool.and_eq_true,Bool.or_eq_true,Option.some.injEq,Int.not_lt,Int.not_le,lp116_0,hlt]
  refine ⟨j,T,rfl,Nat.le_refl _,?_⟩
  simp [walkRow]
theorem c116 (σ:Type)(t:List (List Int))(n:Nat)(hT:TabOk n t)(kf:Nat)(hk:pure kf=false)(caps:List AV)(m:Nat)(base:σ→List (List AV))(hm: ∀a,(base a).length=m)(vis:List Int→Int→Int→σ→Bool×σ)
  (hv: ∀g p w l a R T,run L kf (plA g p::I w::I l::caps) ⟨base a++R,T⟩=some (B (vis p w l a).1,⟨base (vis p w l a).2++R,T⟩)):
  ∀(f:Nat) (p:List Int),p.length+f=n→∀g w l a j T,∃j' T',run L 116 [.agg [tbAV t,.fn (.func kf) [] caps],plA g p,I w,I l] ⟨base a++reps j (wC t kf caps),T⟩=some (B (walkF t vis f p w l a).1,⟨base (walkF t vis f p w l a).2++reps j' (wC t kf caps),T'⟩)∧j≤j':=by
 intro f
 have h4:=hT.n4
 have hl:=hT.len
 induction f with
 |zero=>
  intro p hp g w l a j T
  have hpl:=plA_len g p
  have hWg:(base a++reps (j+1) (wC t kf caps))[m+j]? =some [tbAV t,.fn (.func kf) [] caps]:=get_rep (hm a) (by omega) (wC t kf caps)
  have hbox:base a++reps j (wC t kf caps)++ [[tbAV t,.fn (.func kf) [] caps]]=base a++reps (j+1) (wC t kf caps):=by
   rw [List.append_assoc,reps_succ,wC]
  have hlen:(base a++reps j (wC t kf caps)).length=m+j:=by rw [List.length_append,hm,reps_len]
  have hcall:=hv g p w l a (reps (j+1) (wC t kf caps)) T
  have e:((p.length:Int)=(t.length:Int))=True:=eq_true (by omega)
  refine ⟨j+1,T,?_,by omega⟩
  rw [run_shared (fn:=ir116) rfl rfl]
  simp only [ir116,go_sem,reduceIte,Nat.reduceEqDiff,Nat.reduceAdd,Nat.reduceSub,Nat.reduceLeDiff,Nat.reduceLT,reduceCtorEq,Int.reduceLT,Int.reduceLE,Int.reduceEq,Int.reduceBEq,Int.reduceSub,Int.reduceAdd,Int.reduceMul,Int.reduceNeg,Int.reduceToNat,Nat.reduceMul,Nat.reduceBEq,hbox,hlen,hpl,hWg,List.length_map,e,hk,hcall]
  rfl
 |succ f ih=>
  intro p hp g w l a j T
  have hpl:=plA_len g p
  have hWg:(base a++reps (j+1) (wC t kf caps))[m+j]? =some [tbAV t,.fn (.func kf) [] caps]:=get_rep (hm a) (by omega) (wC t kf caps)
  have hbox:base a++reps j (wC t kf caps)++ [[tbAV t,.fn (.func kf) [] caps]]=base a++reps (j+1) (wC t kf caps):=by
   rw [List.append_assoc,reps_succ,wC]
  have hlen:(base a++reps j (wC t kf caps)).length=m+j:=by rw [List.length_append,hm,reps_len]
  have e:((p.length:Int)=(t.length:Int))=False:=eq_false (by omega)
  have hx:=index_lists false t p.length (by omega)
  have hge:t[p.length]'(by omega)=t.getD p.length []:=by rw [List.getD_eq_getElem?_getD,List.getElem?_eq_getElem (by omega)];rfl
  rw [hge] at hx
  have hrl:(t.getD p.length []).length=n:=by
   rw [←hge]
   exact hT.rows _ (List.getElem_mem _)
  rw [run_shared (fn:=ir116) rfl rfl]
  simp only [ir116,go_sem,reduceIte,Nat.reduceEqDiff,Nat.reduceAdd,Nat.reduceSub,Nat.reduceLeDiff,Nat.reduceLT,reduceCtorEq,Int.reduceLT,Int.reduceLE,Int.reduceEq,Int.reduceBEq,Int.reduceSub,Int.reduceAdd,Int.reduceMul,Int.reduceNeg,Int.reduceToNat,Nat.reduceMul,Nat.reduceBEq,hbox,hlen,hpl,hWg,List.length_map,e,hx,hrl]
  generalize hg:lim (headed pure (run L) false _ lp116_0 _ _) _ _=o
  obtain ⟨x,en,s,rfl,h2⟩: ∃x en s,o=some (x,en,s)∧_:=by rw [←hg];exact loop116 σ t n hT kf hk caps m base hm vis f p (by omega) g w l (fun c hc=>ih (p++ [(c:Int)]) (by simp;omega)) j _ _ 0 a (j+1) T ⟨by omega,by omega⟩ _ _ (by simp only [go_sem,reduceIte,Nat.reduceEqDiff,Nat.reduceAdd,Nat.reduceSub,Nat.reduceLeDiff,Nat.reduceLT,reduceCtorEq,Int.reduceLT,Int.reduceLE,Int.reduceEq,Int.reduceBEq,Int.reduceSub,Int.reduceAdd,Int.reduceMul,Int.reduceNeg,Int.reduceToNat,Nat.reduceMul,Nat.reduceBEq,Int.natCast_zero]<;>rfl)
  clear hg
  obtain ⟨j',T',rfl,hj0,hr0⟩:=h2
  refine ⟨j',T',?_,by omega⟩
  have hw:walkF t vis (f+1) p w l a=walkRow (fun c a=>walkF t vis f (p++ [(c:Int)]) (IntKind.i64.wrap (w*cellV t p.length c)) (min l (cellV t p.length c)) a) (okC t p) (List.range' 0 (n-0)) a:=by
   show walkRow _ _ (List.range t.length) a=_
   rw [hl,Nat.sub_zero,List.range_eq_range']
  rw [←hw] at hr0⊢
  by_cases q:(walkF t vis (f+1) p w l a).1=true
  ·rw [if_pos q] at hr0
   subst hr0
   rw [q]
   simp only [go_sem,reduceIte,Nat.reduceEqDiff,Nat.reduceAdd,Nat.reduceSub,Nat.reduceLeDiff,Nat.reduceLT,reduceCtorEq,Int.reduceLT,Int.reduceLE,Int.reduceEq,Int.reduceBEq,Int.reduceSub,Int.reduceAdd,Int.reduceMul,Int.reduceNeg,Int.reduceToNat,Nat.reduceMul,Nat.reduceBEq]
  ·have q':(walkF t vis (f+1) p w l a).1=false:=by simpa using q
   rw [if_neg q] at hr0
   obtain ⟨rfl,g8⟩:=hr0
   rw [q']
   simp only [go_sem,reduceIte,Nat.reduceEqDiff,Nat.reduceAdd,Nat.reduceSub,Nat.reduceLeDiff,Nat.reduceLT,reduceCtorEq,Int.reduceLT,Int.reduceLE,Int.reduceEq,Int.reduceBEq,Int.reduceSub,Int.reduceAdd,Int.reduceMul,Int.reduceNeg,Int.reduceToNat,Nat.reduceMul,Nat.reduceBEq,g8]
def isP (l:Nat):AV→Bool
 | .ptr l' _=>l'==l
 |_=>false
def notP (l:Nat):AV→Bool
 | .ptr l' _=>l' !=l
 |_=>true
theorem onB1 (env:Env)(t:Tmp)(l o:Nat):onB env [t] (.ptr l o)=isP l (env.get t):=by
 show ([t].any fun t=>match env.get t with| .ptr l' _=>l'==l|_=>false)=_
 rw [List.any_cons,List.any_nil,Bool.or_false];rfl
theorem offB1 (env:Env)(t:Tmp)(l o:Nat):offB env [t] (.ptr l o)=notP l (env.get t):=by
 show ([t].all fun t=>match env.get t with| .ptr l' _=>l' !=l|_=>true)=_
 rw [List.all_cons,List.all_nil,Bool.and_true];rfl
theorem isP_ptr (l l' o:Nat):isP l (.ptr l' o)=(l'==l):=rfl
theorem notP_ptr (l l' o:Nat):notP l (.ptr l' o)=(l' !=l):=rfl
def visC (_:List Int) (w _:Int) (a:Int×Int):Bool×(Int×Int):=(true,(IntKind.i64.wrap (a.1+1),IntKind.i64.wrap (a.2+w)))
def baseC (a:Int×Int):List (List AV):=[[I a.1],[I a.2]]
theorem c124 (g:Tag)(p:List Int)(w l:Int)(a:Int×Int)(R:List (List AV))(T:List Nat):run L 124 (plA g p::I w::I l:: [.ptr 0 0,.ptr 1 0]) ⟨baseC a++R,T⟩=some (B (visC p w l a).1,⟨baseC (visC p w l a).2++R,T⟩):=by
 rw [run_shared (fn:=ir124) rfl rfl]
 simp only [ir124,go_sem,reduceIte,Nat.reduceEqDiff,Nat.reduceAdd,Nat.reduceSub,Nat.reduceLeDiff,Nat.reduceLT,reduceCtorEq,Int.reduceLT,Int.reduceLE,Int.reduceEq,Int.reduceBEq,Int.reduceSub,Int.reduceAdd,Int.reduceMul,Int.reduceNeg,Int.reduceToNat,Nat.reduceMul,Nat.reduceBEq,baseC,visC,List.cons_append,List.nil_append]
def plansT (t:List (List Int)):Nat→List Int→Nat
 |0,_=>1
 |f+1,p=>((List.range t.length).map fun (c:Nat)=>if okC t p c=true then plansT t f (p++ [(c:Int)]) else 0).sum
theorem row_count {g:Nat→Int×Int→Bool×(Int×Int)} {ok:Nat→Bool} {N:Nat→Nat} (hg: ∀c (m:Nat) s,m+N c≤1000000→∃s',g c ((m:Int),s)=(true,(((m+N c:Nat):Int),s'))):
  ∀(cs:List Nat) (m:Nat) (s:Int),m+(cs.map fun c=>if ok c=true then N c else 0).sum≤1000000→∃s',walkRow g ok cs ((m:Int),s)=(true,(((m+(cs.map fun c=>if ok c=true then N c else 0).sum:Nat):Int),s'))
 | [],m,s,_=>⟨s,by simp [walkRow]⟩
 |c::cs,m,s,h=>by
  simp only [List.map_cons,List.sum_cons] at h⊢
  by_cases q:ok c=true
  ·rw [if_pos q] at h⊢
   obtain ⟨s1,h1⟩:=hg c m s (by omega)
   obtain ⟨s2,h2⟩:=row_count hg (ok:=ok) cs (m+N c) s1 (by omega)
   refine ⟨s2,?_⟩
   simp only [walkRow,q,if_true,h1]
   rw [h2]
   simp only [Prod.mk.injEq,true_and,and_true]
   omega
  ·rw [if_neg q] at h⊢
   obtain ⟨s2,h2⟩:=row_count hg (ok:=ok) cs m s (by omega)
   refine ⟨s2,?_⟩
   simp only [walkRow,if_neg q,h2]
   simp
theorem walk_count (t:List (List Int)): ∀(f:Nat) (p:List Int) (w l:Int) (m:Nat) (s:Int),m+plansT t f p≤1000000→∃s',walkF t visC f p w l ((m:Int),s)=(true,(((m+plansT t f p:Nat):Int),s'))
 |0,p,w,l,m,s,h=>by
  simp only [plansT] at h
  refine ⟨IntKind.i64.wrap (s+w),?_⟩
  simp only [walkF,visC,plansT]
  rw [wrap64 _ (by omega) (by omega)]
  simp
 |f+1,p,w,l,m,s,h=>by
  simp only [plansT] at h⊢
  exact row_count (N:=fun c=>plansT t f (p++ [(c:Int)])) (fun c m s h=>walk_count t f _ _ _ m s h) _ m s h
theorem sum_le_mul (b:Nat): ∀l:List Nat,(∀x∈l,x≤b)→l.sum≤l.length*b
 | [],_=>by simp
 |a::r,h=>by
  have h1:=h a (by simp)
  have h2:=sum_le_mul b r (fun x hx=>h x (by simp [hx]))
  simp only [List.sum_cons,List.length_cons]
  rw [Nat.succ_mul];omega
theorem plansT_le (t : List (List Int)) (h4 : t.length ≤ 4) : ∀ (f : Nat) (p : List Int), plansT t f p ≤ 4 ^ f
  | 0, p => by simp [plansT]
  | f + 1, p => by
    simp only [plansT]
    have := sum_le_mul (4 ^ f) ((List.range t.length).map fun (c : Nat) => if okC t p c = true then plansT t f (p ++ [(c : Int)]) else 0) (fun x hx => by
      obtain ⟨c, _, rfl⟩ := List.mem_map.1 hx
      split
      · exact plansT_le t h4 f _
      · exact Nat.zero_le _)
    rw [List.length_map, List.length_range] at this
    calc _ ≤ t.length * 4 ^ f := this
      _ ≤ 4 * 4 ^ f := Nat.mul_le_mul_right _ h4
      _ = 4 ^ (f + 1) := by rw [Nat.pow_succ]; omega
theorem plans_eq {k p:Nat} {t:List (List Int)} (hP:Pat k p t): ∀(f:Nat) (plan:List Int),plan.length+f=k→plansT t f plan=plansP k p f plan
 |0,_,_=>rfl
 |f+1,plan,h=>by
  simp only [plansT,plansP,hP.tab.len]
  congr 1
  apply List.map_congr_left
  intro c hc
  have hc':=List.mem_range.1 hc
  rw [plans_eq hP f (plan++ [(c:Int)]) (by simp;omega),show k-(f+1)=plan.length by omega]
  have hb:=hP.bit plan.length c (by omega) hc'
  have e:okC t plan c=(cellB p plan.length c&& !plan.contains (c:Int)):=by
   unfold okC
   have e1:decide (0<cellV t plan.length c)=cellB p plan.length c:=by
    rw [Bool.eq_iff_iff,decide_eq_true_iff];exact hb
   have e2:decide ((c:Int)∈plan)=plan.contains (c:Int):=by
    rw [Bool.eq_iff_iff,decide_eq_true_iff,List.contains_iff_mem]
   rw [e1,e2]
  rw [e]
theorem c19 (k p:Nat)(t:List (List Int))(hP:Pat k p t)(st:St):run L 19 [tbAV t] st=some (.tup [I (plansP k p k []),I 0],st):=by
 have h50:=fun st=>c50 k t hP.tab st
 have h3:=hP.k3
 have hl:=hP.tab.len
 have hb:=plansT_le t (by omega) k []
 have hb4:4^k≤4^3:=Nat.pow_le_pow_right (by omega) h3
 obtain ⟨s',hs'⟩:=walk_count t k [] 1 9 0 0 (by omega)
 rw [Nat.zero_add,plans_eq hP k [] (by simp)] at hs'
 have h64: ∀st,∃z,run L 64 [tbAV t] st=some (.tup [I (plansP k p k []),I z,I 0],st):=by
  intro st
  obtain ⟨j',T',hw,_⟩:=c116 (Int×Int) t k hP.tab 124 rfl [.ptr 0 0,.ptr 1 0] 2 baseC (fun _=>rfl) visC c124 k [] (by simp) .any 1 9 (0,0) 0 []
  rw [show (((0:Nat):Int),(0:Int))=((0:Int),(0:Int)) from rfl] at hs'
  rw [hs'] at hw
  simp only [plA_nil,baseC,reps,List.replicate_zero,List.append_nil] at hw
  refine ⟨s',?_⟩
  rw [run_pure (fn:=ir64) rfl rfl]
  generalize List.replicate j' (wC t 124 [.ptr 0 0,.ptr 1 0])=R at*
  simp only [ir64,go_sem,reduceIte,Nat.reduceEqDiff,Nat.reduceAdd,Nat.reduceSub,Nat.reduceLeDiff,Nat.reduceLT,reduceCtorEq,Int.reduceLT,Int.reduceLE,Int.reduceEq,Int.reduceBEq,Int.reduceSub,Int.reduceAdd,Int.reduceMul,Int.reduceNeg,Int.reduceToNat,Nat.reduceMul,Nat.reduceBEq,h50,hw,List.cons_append,List.nil_append,onB1,offB1,isP_ptr,notP_ptr,sameSt,cellsAre,plainEq]
 rw [run_pure (fn:=ir19) rfl rfl]
 obtain ⟨z,h64⟩:=h64 ⟨[],[]⟩
 simp only [ir19,go_sem,reduceIte,Nat.reduceEqDiff,Nat.reduceAdd,Nat.reduceSub,Nat.reduceLeDiff,Nat.reduceLT,reduceCtorEq,Int.reduceLT,Int.reduceLE,Int.reduceEq,Int.reduceBEq,Int.reduceSub,Int.reduceAdd,Int.reduceMul,Int.reduceNeg,Int.reduceToNat,Nat.reduceMul,Nat.reduceBEq,h64]
def tipX (z:Nat) (o:Option Nat) (xs:List AV):AV:=match o with|none=> .v (.slice none 0 0)|some i=> .lst (.own i xs.length) z xs
def tipOk (o:Option Nat) (n:Nat) (T:List Nat):Prop:=match o with|none=>n=0|some i=>T[i]? =some n∧0<n
def apI (o:Option Nat) (T:List Nat):Option Nat:=match o with|none=>some T.length|some i=>some i
def apT (o:Option Nat) (T:List Nat) (n:Nat):List Nat:=match o with|none=>T++ [n]|some i=>T.set i n
def reI (hi:Nat) (acc:List (Nat×Nat)) (o:Option Nat):Option Nat:=match o with|none=>none|some i=>if i<hi then some i else some (hi+acc.length)
def reA (hi:Nat) (acc:List (Nat×Nat)) (o:Option Nat) (n:Nat):List (Nat×Nat):=match o with|none=>acc|some i=>if i<hi then acc else acc++ [(i,n)]
theorem okRef_tip (n z:Nat)(o:Option Nat)(xs:List AV):okRef n (tipX z o xs)=true:=by cases o<;>rfl
theorem storable_tip (z:Nat)(o:Option Nat)(xs:List AV):storable (tipX z o xs)=true:=by cases o<;>rfl
theorem shaped_tip (z:Nat)(o:Option Nat)(xs:List AV):(tipX z o xs).shaped=true:=by cases o<;>rfl
theorem cells_tip (z:Nat)(o:Option Nat)(xs:List AV):(tipX z o xs).cells=[tipX z o xs]:=by cases o<;>rfl
theorem isAgg_tip (z:Nat)(o:Option Nat)(xs:List AV):Go.Ev.isAgg (tipX z o xs)=false:=by cases o<;>rfl
theorem pub_tip (z:Nat)(o:Option Nat)(xs:List AV) {T:List Nat} (h:tipOk o xs.length T):pub (tipX z o xs)=sl z true xs:=by
 cases o with
 |none=>
  have:xs=[]:=List.eq_nil_of_length_eq_zero h
  subst this;rfl
 |some i=>
  have:xs≠[]:=by rintro rfl;exact absurd h.2 (by simp)
  rw [sl_ne this];rfl
theorem tip_start (z:Nat): .v (.slice none 0 0)=tipX z none []:=rfl
theorem append_tip (z:Nat)(o:Option Nat)(xs:List AV)(y:AV)(S:List (List AV))(T:List Nat)(h:tipOk o xs.length T)(hm:xs.length<1000000):
  appendAV z (tipX z o xs) [y] ⟨S,T⟩=some (tipX z (apI o T) (xs++ [y]),⟨S,apT o T (xs.length+1)⟩):=by
 have hg:xs.length+1≤maxGrow:=by unfold maxGrow;omega
 cases o with
 |none=>
  have:xs=[]:=List.eq_nil_of_length_eq_zero h
  subst this
  have:1≤maxGrow:=by unfold maxGrow;omega
  simp [tipX,appendAV,apI,apT,this]
 |some i=>simp [tipX,appendAV,apI,apT,hg,h.1]
theorem append_tipm {β:Type} (z:Nat)(f:β→AV)(o:Option Nat)(xs:List β)(y:β)(S:List (List AV))(T:List Nat)(h:tipOk o xs.length T)(hm:xs.length<1000000):
  appendAV z (tipX z o (xs.map f)) [f y] ⟨S,T⟩=some (tipX z (apI o T) ((xs++ [y]).map f),⟨S,apT o T (xs.length+1)⟩):=by
 rw [append_tip z o (xs.map f) (f y) S T (by simpa using h) (by simpa using hm)]
 simp
theorem apOk (o:Option Nat)(n:Nat)(T:List Nat)(m:Nat)(h:tipOk o n T)(hm:0<m):tipOk (apI o T) m (apT o T m):=by
 cases o with
 |none=>simp [apI,apT,tipOk,hm]
 |some i=>
  have:i<T.length:=(List.getElem?_eq_some_iff.1 h.1).1
  simp [apI,apT,tipOk,this,hm]
def apart (o p:Option Nat):Prop:=∀i,o=some i→p≠some i
theorem apart_symm {o p:Option Nat} (h:apart o p):apart p o:=fun i hp ho=>h i ho hp
theorem apOk_other {o p:Option Nat} {n m k:Nat} {T:List Nat} (h:tipOk p k T)(ho:tipOk o n T)(hd:apart o p):tipOk p k (apT o T m)∧apart (apI o T) p:=by
 cases p with
 |none=>exact ⟨h,fun i _=>by simp⟩
 |some j=>
  have hj:j<T.length:=(List.getElem?_eq_some_iff.1 h.1).1
  cases o with
  |none=>
   refine ⟨⟨?_,h.2⟩,fun i hi hp=> ?_⟩
   ·simp only [apT];rw [List.getElem?_append_left hj];exact h.1
   ·simp only [apI,Option.some.injEq] at hi hp;omega
  |some i=>
   have hij:i≠j:=fun e=>hd i rfl (by rw [e])
   refine ⟨⟨?_,h.2⟩,fun x hx hp=> ?_⟩
   ·simp only [apT];rw [List.getElem?_set_ne hij];exact h.1
   ·simp only [apI,Option.some.injEq] at hx hp;omega
theorem apT_len (o:Option Nat)(T:List Nat)(m:Nat):T.length≤(apT o T m).length:=by cases o<;>simp [apT]
theorem ren1_tip (hi z:Nat)(T:List Nat)(acc:List (Nat×Nat))(o:Option Nat)(xs:List AV)(h:tipOk o xs.length T)(hf: ∀i,o=some i→hi≤i→∀p∈acc,p.1≠i):
  ren1 hi T acc (tipX z o xs)=(tipX z (reI hi acc o) xs,reA hi acc o xs.length):=by
 cases o with
 |none=>rfl
 |some i=>
  simp only [tipX,ren1,reI,reA]
  by_cases q:i<hi
  ·simp [q]
  ·rw [if_neg q,if_neg q,if_neg q,if_pos]
   refine ⟨h.1,?_⟩
   rw [List.all_eq_true]
   intro p hp
   simpa using hf i rfl (by omega) p hp
theorem ren1_tipm {β:Type} (hi z:Nat)(T:List Nat)(acc:List (Nat×Nat))(f:β→AV)(o:Option Nat)(xs:List β)(h:tipOk o xs.length T)(hf: ∀i,o=some i→hi≤i→∀p∈acc,p.1≠i):
  ren1 hi T acc (tipX z o (xs.map f))=(tipX z (reI hi acc o) (xs.map f),reA hi acc o xs.length):=by
 rw [ren1_tip hi z T acc o (xs.map f) (by simpa using h) hf,List.length_map]
theorem reOk (hi:Nat)(T:List Nat)(acc acc':List (Nat×Nat))(o:Option Nat)(n:Nat)(h:tipOk o n T)(hl:hi≤T.length)(hp:reA hi acc o n<+:acc'):tipOk (reI hi acc o) n (T.take hi++acc'.map fun x=>x.2):=by
 cases o with
 |none=>exact h
 |some i=>
  simp only [reI]
  have htl:(T.take hi).length=hi:=by rw [List.length_take];omega
  by_cases q:i<hi
  ·rw [if_pos q]
   refine ⟨?_,h.2⟩
   rw [List.getElem?_append_left (by omega),List.getElem?_take_of_lt q]
   exact h.1
  ·rw [if_neg q]
   refine ⟨?_,h.2⟩
   rw [List.getElem?_append_right (by omega),htl,Nat.add_sub_cancel_left]
   simp only [reA,if_neg q] at hp
   obtain ⟨r,hr⟩:=hp
   rw [←hr]
   simp
theorem reA_pre (hi:Nat)(acc:List (Nat×Nat))(o:Option Nat)(n:Nat):acc<+:reA hi acc o n:=by
 cases o with
 |none=>exact List.prefix_refl _
 |some i=>
  simp only [reA]
  split
  ·exact List.prefix_refl _
  ·exact List.prefix_append _ _
theorem reA_mem {hi:Nat} {acc:List (Nat×Nat)} {o:Option Nat} {n:Nat} {p:Nat×Nat} (h:p∈reA hi acc o n):p∈acc∨o=some p.1:=by
 cases o with
 |none=>exact .inl h
 |some i=>
  simp only [reA] at h
  split at h
  ·exact .inl h
  ·rw [List.mem_append,List.mem_singleton] at h
   rcases h with h|rfl
   ·exact .inl h
   ·exact .inr rfl
theorem re_apart {hi:Nat} {acc acc':List (Nat×Nat)} {o p:Option Nat} {n:Nat} (hd:apart o p)(hp:reA hi acc o n<+:acc'):apart (reI hi acc o) (reI hi acc' p):=by
 intro i h1 h2
 cases o with
 |none=>simp [reI] at h1
 |some a=>
  cases p with
  |none=>simp [reI] at h2
  |some b=>
   simp only [reI] at h1 h2
   have hab:a≠b:=fun e=>hd a rfl (by rw [e])
   by_cases qa:a<hi
   ·rw [if_pos qa] at h1
    by_cases qb:b<hi
    ·rw [if_pos qb] at h2
     rw [Option.some.injEq] at h1 h2;omega
    ·rw [if_neg qb] at h2
     rw [Option.some.injEq] at h1 h2;omega
   ·rw [if_neg qa] at h1
    simp only [reA,if_neg qa] at hp
    have hl:=hp.length_le
    rw [List.length_append,List.length_singleton] at hl
    by_cases qb:b<hi
    ·rw [if_pos qb] at h2
     rw [Option.some.injEq] at h1 h2;omega
    ·rw [if_neg qb] at h2
     rw [Option.some.injEq] at h1 h2;omega
attribute [local go_sem] okRef_tip storable_tip shaped_tip cells_tip isAgg_tip
abbrev B8 (n:Int):AV:=.v (.int .u8 n)
def Byte (n:Int):Prop:=0≤n∧n≤255
theorem okRefsB (n:Nat)(xs:List Int):okRefs n (xs.map B8)=true:=okRefs_map B8 n (fun _=>rfl) xs
theorem renCellsB (n:Nat)(tips:List Nat)(acc:List (Nat×Nat))(xs:List Int):renCells n tips acc (xs.map B8)=(xs.map B8,acc):=renCells_map B8 n tips (fun _ _=>rfl) xs acc
theorem pubsB (xs:List Int):pubs (xs.map B8)=xs.map B8:=pubs_map B8 (fun _=>rfl) xs
theorem storableB (xs:List Int):(xs.map B8).all storable=true:=by
 rw [List.all_eq_true];intro x hx;rw [List.mem_map] at hx;obtain ⟨n,_,rfl⟩:=hx;rfl
theorem getB (zs:List Int)(a:Nat)(h:a<zs.length):(zs.map B8)[a]? =some (B8 (zs.getD a 0)):=by
 rw [getm B8 zs 0 a,if_pos h]
theorem byte_getD {l:List Int} (h: ∀n∈l,Byte n)(i:Nat):Byte (l.getD i 0):=by
 rw [List.getD_eq_getElem?_getD]
 by_cases hi:i<l.length
 ·rw [List.getElem?_eq_getElem hi];exact h _ (List.getElem_mem hi)
 ·rw [List.getElem?_eq_none (by omega)];exact ⟨by simp,by simp⟩
theorem mod_range (a b:Int)(hb:0<b):0≤a % b∧a % b<b:=⟨Int.emod_nonneg a (by omega),Int.emod_lt_of_pos a hb⟩
def xcell (zs:List Int) (r c:Nat):Int:=max 0 (zs.getD (3*r+c) 0 % 16-6)
def rowTo (zs:List Int) (r m:Nat):List Int:=(List.range m).map (xcell zs r)
def prTo (zs:List Int) (n r m:Nat):List (Int×Int):=((List.range m).filter fun c=>decide (0<xcell zs r c)).map fun c=>((r:Int),((n+c:Nat):Int))
theorem rowTo_succ (zs:List Int)(r m:Nat):rowTo zs r (m+1)=rowTo zs r m++ [xcell zs r m]:=by simp [rowTo,List.range_succ]
theorem prTo_succ (zs:List Int)(n r m:Nat):prTo zs n r (m+1)=if 0<xcell zs r m then prTo zs n r m++ [((r:Int),((n+m:Nat):Int))] else prTo zs n r m:=by
 unfold prTo
 rw [List.range_succ,List.filter_append]
 by_cases h:0<xcell zs r m
 ·simp [h]
 ·simp [h]
theorem prTo_len (zs:List Int)(n r m:Nat):(prTo zs n r m).length≤m:=by
 unfold prTo
 rw [List.length_map]
 exact Nat.le_trans (List.length_filter_le _ _) (by simp)
attribute [local go_sem] okRef_tip storable_tip shaped_tip cells_tip isAgg_tip
theorem reI_old {hi:Nat} {o:Option Nat} (h: ∀i,o=some i→i<hi)(acc:List (Nat×Nat)):reI hi acc o=o:=by
 cases o with
 |none=>rfl
 |some i=>simp [reI,h i rfl]
theorem reA_old {hi:Nat} {o:Option Nat} (h: ∀i,o=some i→i<hi)(acc:List (Nat×Nat))(n:Nat):reA hi acc o n=acc:=by
 cases o with
 |none=>rfl
 |some i=>simp [reA,h i rfl]
theorem two_next {hi:Nat} {T:List Nat} {o6 o9 oP:Option Nat} {n6 n9 nP:Nat} (h6: ∀i,o6=some i→i<hi)(hl:hi≤T.length)(k2:tipOk o6 n6 T)(k3:tipOk o9 n9 T)(k4:tipOk oP nP T)(k5:apart o6 o9)(k6:apart o6 oP)(k7:apart o9 oP):
  (∀i,oP=some i→hi≤i→∀p∈reA hi [] o9 n9,p.1≠i)∧hi≤(T.take hi++(reA hi (reA hi [] o9 n9) oP nP).map fun x=>x.2).length∧tipOk o6 n6 (T.take hi++(reA hi (reA hi [] o9 n9) oP nP).map fun x=>x.2)∧tipOk (reI hi [] o9) n9 (T.take hi++(reA hi (reA hi [] o9 n9) oP nP).map fun x=>x.2)∧tipOk (reI hi (reA hi [] o9 n9) oP) nP (T.take hi++(reA hi (reA hi [] o9 n9) oP nP).map fun x=>x.2)∧
  apart o6 (reI hi [] o9)∧apart o6 (reI hi (reA hi [] o9 n9) oP)∧apart (reI hi [] o9) (reI hi (reA hi [] o9 n9) oP):=by
 have e6:=reI_old h6 []
 have e6a:=reA_old h6 [] n6
 refine ⟨fun i hi2 _ p hp e=> ?_,?_,?_,?_,?_,?_,?_,?_⟩
 ·rcases reA_mem hp with h|h
  ·simp at h
  ·exact k7 p.1 h (by rw [hi2,e])
 ·rw [List.length_append,List.length_take];omega
 ·have:=reOk hi T [] (reA hi (reA hi [] o9 n9) oP nP) o6 n6 k2 hl (by rw [e6a];exact List.nil_prefix)
  rwa [e6] at this
 ·exact reOk hi T [] _ o9 n9 k3 hl (reA_pre _ _ _ _)
 ·exact reOk hi T _ _ oP nP k4 hl (List.prefix_refl _)
 ·have:=re_apart (acc:=[]) (acc':=[]) (n:=n6) k5 (by rw [e6a];exact List.prefix_refl _)
  rwa [e6] at this
 ·have:=re_apart (acc:=[]) (acc':=reA hi [] o9 n9) (n:=n6) k6 (by rw [e6a];exact List.nil_prefix)
  rwa [e6] at this
 ·exact re_apart k7 (List.prefix_refl _)
set_option maxHeartbeats 1000000 in
theorem loop4_0 (n:Nat)(hn:1≤n∧n≤3)(zs:List Int)(hz:zs.length=9)(hb: ∀x∈zs,Byte x)(r:Nat)(hr:r<n)(ts:List (List Int))(o6:Option Nat)(hi:Nat)(h6: ∀i,o6=some i→i<hi)(ps:List (Int×Int))(hps:ps.length≤1000)(i:Nat)(o9:Option Nat)(oP:Option Nat)(T:List Nat)(hok:i≤n∧hi≤T.length∧tipOk o6 ts.length T∧tipOk o9 (rowTo zs r i).length T∧tipOk oP (ps++prTo zs n r i).length T∧apart o6 o9∧apart o6 oP∧apart o9 oP)(env:Env)(st:St)
  (hg:gcAV true 2 hi (canon env [3,5,6,7,8,9,34,35,38,39]) st=([(3,.ptr 0 0),(5,I n),(6,tipX 1 o6 (ts.map listAV)),(7,.ptr 1 0),(8,I r),(9,tipX 1 o9 ((rowTo zs r i).map I)),(34,I n),(35,I r),(38,I n),(39,I i)],⟨[zs.map B8,[I (2*n:Nat),tipX 2 oP ((ps++prTo zs n r i).map prAV)]],T⟩)):
  ∃x_1 en s,lim (headed pure (run L) true [3,5,6,7,8,9,34,35,38,39] lp4_0 2 hi) env st=some (x_1,en,s)∧(x_1=.exit 2∧en.get 3=.ptr 0 0∧en.get 5=I n∧en.get 6=tipX 1 o6 (ts.map listAV)∧en.get 7=.ptr 1 0∧en.get 8=I r∧en.get 34=I n∧en.get 35=I r∧(∃o9' oP' T',en.get 9=tipX 1 o9' ((rowTo zs r n).map I)∧s=⟨[zs.map B8,[I (2*n:Nat),tipX 2 oP' ((ps++prTo zs n r n).map prAV)]],T'⟩∧hi≤T'.length∧tipOk o6 ts.length T'∧tipOk o9' (rowTo zs r n).length T'∧tipOk oP' (ps++prTo zs n r n).length T'∧apart o6 o9'∧apart o6 oP'∧apart o9' oP')):=by
 refine loop_wp (α:=Nat×Option Nat×Option Nat×List Nat) (fun ⟨i,o9,oP,T⟩=>n-i) (fun ⟨i,o9,oP,T⟩=>i≤n∧hi≤T.length∧tipOk o6 ts.length T∧tipOk o9 (rowTo zs r i).length T∧tipOk oP (ps++prTo zs n r i).length T∧apart o6 o9∧apart o6 oP∧apart o9 oP) (fun ⟨i,o9,oP,T⟩=>([(3,.ptr 0 0),(5,I n),(6,tipX 1 o6 (ts.map listAV)),(7,.ptr 1 0),(8,I r),(9,tipX 1 o9 ((rowTo zs r i).map I)),(34,I n),(35,I r),(38,I n),(39,I i)],⟨[zs.map B8,[I (2*n:Nat),tipX 2 oP ((ps++prTo zs n r i).map prAV)]],T⟩)) (fun ⟨i,o9,oP,T⟩ x_1 en s=>x_1=.exit 2∧en.get 3=.ptr 0 0∧en.get 5=I n∧en.get 6=tipX 1 o6 (ts.map listAV)∧en.get 7=.ptr 1 0∧en.get 8=I r∧en.get 34=I n∧en.get 35=I r∧(∃o9' oP' T',en.get 9=tipX 1 o9' ((rowTo zs r n).map I)∧s=⟨[zs.map B8,[I (2*n:Nat),tipX 2 oP' ((ps++prTo zs n r n).map prAV)]],T'⟩∧hi≤T'.length∧tipOk o6 ts.length T'∧tipOk o9' (rowTo zs r n).length T'∧tipOk oP' (ps++prTo zs n r n).length T'∧apart o6 o9'∧apart o6 oP'∧apart o9' oP')) (fun ⟨i,o9,oP,T⟩ hok=> ?_) ⟨i,o9,oP,T⟩ hok env st hg
 simp only at hok
 obtain ⟨h1,k1,k2,k3,k4,k5,k6,k7⟩:=hok
 dsimp only at h1 k1 k2 k3 k4 k5 k6 k7⊢
 by_cases h:i<n
 ·have hs:=succ64 i (by omega)
  have hlt:((i:Int)<(n:Int))=True:=eq_true (by omega)
  have w1:IntKind.i64.wrap (3*(r:Int))=((3*r:Nat):Int):=by rw [wrap64]<;>omega
  have w2:IntKind.i64.wrap (((3*r:Nat):Int)+(i:Int))=((3*r+i:Nat):Int):=by rw [wrap64]<;>omega
  have l9:(((3*r+i:Nat):Int)<9)=True:=eq_true (by omega)
  have w3:IntKind.i64.wrap ((n:Int)+(i:Int))=((n+i:Nat):Int):=by rw [wrap64]<;>omega
  have hg:=getB zs (3*r+i) (by omega)
  have hby:=byte_getD hb (3*r+i)
  unfold Byte at hby
  have hmr:=mod_range (zs.getD (3*r+i) 0) 16 (by omega)
  have ht:=Int.tmod_eq_emod_of_nonneg (b:=16) hby.1
  have w4:=wrap64 (zs.getD (3*r+i) 0) (by omega) (by omega)
  have w5:=wrap64 (zs.getD (3*r+i) 0 % 16-6) (by omega) (by omega)
  have hxc:xcell zs r i=max 0 (zs.getD (3*r+i) 0 % 16-6):=rfl
  have hrow:=rowTo_succ zs r i
  have hpr:=prTo_succ zs n r i
  have hrl:(rowTo zs r i).length=i:=by simp [rowTo]
  have hrl2:(rowTo zs r (i+1)).length=i+1:=by simp [rowTo]
  have hpl:=prTo_len zs n r i
  have happ:=fun S=>append_tipm 1 I o9 (rowTo zs r i) (xcell zs r i) S T k3 (by omega)
  rw [←hrow] at happ
  have e9:=apOk o9 _ T (i+1) k3 (by omega)
  obtain ⟨e6,e6a⟩:=apOk_other (m:=i+1) k2 k3 (apart_symm k5)
  obtain ⟨eP,ePa⟩:=apOk_other (m:=i+1) k4 k3 k7
  rw [hxc] at happ hpr
  rw [hrl] at happ
  by_cases q:0<max 0 (zs.getD (3*r+i) 0 % 16-6)
  ·rw [if_pos q] at hpr
   have hpp:ps++prTo zs n r (i+1)=(ps++prTo zs n r i)++ [((r:Int),((n+i:Nat):Int))]:=by rw [hpr,List.append_assoc]
   have hpl2:(ps++prTo zs n r i).length≤2000:=by rw [List.length_append];omega
   have happ2:=fun S=>append_tipm 2 prAV oP (ps++prTo zs n r i) ((r:Int),((n+i:Nat):Int)) S (apT o9 T (i+1)) eP (by omega)
   rw [←hpp] at happ2
   have hp9:tipOk (apI o9 T) (rowTo zs r (i+1)).length (apT oP (apT o9 T (i+1)) ((ps++prTo zs n r i).length+1)):=by rw [hrl2];exact (apOk_other e9 eP (apart_symm ePa)).1
   have hpP:=apOk oP _ (apT o9 T (i+1)) ((ps++prTo zs n r i).length+1) eP (by omega)
   have hp6:=apOk_other (m:=(ps++prTo zs n r i).length+1) e6 eP (apart_symm k6)
   have hlen1:=apT_len o9 T (i+1)
   have hlen2:=apT_len oP (apT o9 T (i+1)) ((ps++prTo zs n r i).length+1)
   have hpp2:(ps++prTo zs n r (i+1)).length=(ps++prTo zs n r i).length+1:=by rw [hpp,List.length_append];rfl
   rw [←hpp2] at hp9 hpP hp6 hlen2 happ2
   have hd9P:apart (apI o9 T) (apI oP (apT o9 T (i+1))):=apart_symm (apOk_other (m:=1) e9 eP (apart_symm ePa)).2
   obtain ⟨z0,z1,z2,z3,z4,z5,z6,z7⟩:=two_next h6 (by omega) hp6.1 hp9 hpP (apart_symm e6a) (apart_symm hp6.2) hd9P
   have hr6: ∀(T:List Nat) acc,tipOk o6 ts.length T→ren1 hi T acc (tipX 1 o6 (ts.map listAV))=(tipX 1 o6 (ts.map listAV),acc):=fun T acc hk=>by
    rw [ren1_tipm hi 1 T acc listAV o6 ts hk (fun i h1 h2=>absurd (h6 i h1) (by omega)),reI_old h6,reA_old h6]
   have hr6:=hr6 _ [] hp6.1
   have hr9:=ren1_tipm hi 1 _ [] I _ _ hp9 (fun i _ _ p hp=>by simp at hp)
   have hrP:=ren1_tipm hi 2 _ _ prAV _ _ hpP z0
   generalize apT oP (apT o9 T (i+1)) (ps++prTo zs n r (i+1)).length=T2 at*
   generalize apI oP (apT o9 T (i+1))=oP2 at*
   generalize apI o9 T=o92 at*
   generalize apT o9 T (i+1)=T1 at*
   simp only [go_sem,reduceIte,Nat.reduceEqDiff,Nat.reduceAdd,Nat.reduceSub,Nat.reduceLeDiff,Nat.reduceLT,reduceCtorEq,Int.reduceLT,Int.reduceLE,Int.reduceEq,Int.reduceBEq,Int.reduceSub,Int.reduceAdd,Int.reduceMul,Int.reduceNeg,Int.reduceToNat,Nat.reduceMul,Nat.reduceBEq,index_rsl_if,setm,make_ints,condK_dec,wantK_dec,not_dec,and_dec,or_dec,seqK_ite,seqK_none,blockK_ite,blockK_none,opsK_ite,opsK_none,stepK_ite,stepK_none,bodyK_ite,bodyK_none,resK_ite,resK_none,leaveK_ite,leaveK_none,only_ite,only_none,bind_ite,gives_some,gives_none,gives_ite,then_normal,then_ret,then_exit,then_none,then_ite,Option.bind_none,Bool.not_eq_true',decide_eq_false_iff_not,Bool.and_eq_true,Bool.or_eq_true,Option.some.injEq,Int.not_lt,Int.not_le,lp4_0,hlt,hs,w1,w2,w3,hg,ht,w4,w5,happ,happ2,q,l9,Int.natCast_nonneg]
   refine ⟨(i+1,_,_,_),by simp only [go_sem,reduceIte,Nat.reduceEqDiff,Nat.reduceAdd,Nat.reduceSub,Nat.reduceLeDiff,Nat.reduceLT,reduceCtorEq,Int.reduceLT,Int.reduceLE,Int.reduceEq,Int.reduceBEq,Int.reduceSub,Int.reduceAdd,Int.reduceMul,Int.reduceNeg,Int.reduceToNat,Nat.reduceMul,Nat.reduceBEq,ren1_locm,loc_tips,locT_eq,okRefsB,renCellsB,hr6,hr9,hrP]<;>rfl,?_,?_,fun x en s hq=> ?_⟩
   ·dsimp only;exact ⟨by omega,z1,z2,z3,z4,z5,z6,z7⟩
   ·dsimp only;omega
   ·exact hq
  ·rw [if_neg q] at hpr
   rw [←hpr] at k4 eP
   have hp9:tipOk (apI o9 T) (rowTo zs r (i+1)).length (apT o9 T (i+1)):=by rw [hrl2];exact e9
   have hlen1:=apT_len o9 T (i+1)
   obtain ⟨z0,z1,z2,z3,z4,z5,z6,z7⟩:=two_next h6 (by omega) e6 hp9 eP (apart_symm e6a) k6 ePa
   have hr6: ∀(T:List Nat) acc,tipOk o6 ts.length T→ren1 hi T acc (tipX 1 o6 (ts.map listAV))=(tipX 1 o6 (ts.map listAV),acc):=fun T acc hk=>by
    rw [ren1_tipm hi 1 T acc listAV o6 ts hk (fun i h1 h2=>absurd (h6 i h1) (by omega)),reI_old h6,reA_old h6]
   have hr6:=hr6 _ [] e6
   have hr9:=ren1_tipm hi 1 _ [] I _ _ hp9 (fun i _ _ p hp=>by simp at hp)
   have hrP:=ren1_tipm hi 2 _ _ prAV _ _ eP z0
   generalize apI o9 T=o92 at*
   generalize apT o9 T (i+1)=T1 at*
   rw [←hpr]
   simp only [go_sem,reduceIte,Nat.reduceEqDiff,Nat.reduceAdd,Nat.reduceSub,Nat.reduceLeDiff,Nat.reduceLT,reduceCtorEq,Int.reduceLT,Int.reduceLE,Int.reduceEq,Int.reduceBEq,Int.reduceSub,Int.reduceAdd,Int.reduceMul,Int.reduceNeg,Int.reduceToNat,Nat.reduceMul,Nat.reduceBEq,index_rsl_if,setm,make_ints,condK_dec,wantK_dec,not_dec,and_dec,or_dec,seqK_ite,seqK_none,blockK_ite,blockK_none,opsK_ite,opsK_none,stepK_ite,stepK_none,bodyK_ite,bodyK_none,resK_ite,resK_none,leaveK_ite,leaveK_none,only_ite,only_none,bind_ite,gives_some,gives_none,gives_ite,then_normal,then_ret,then_exit,then_none,then_ite,Option.bind_none,Bool.not_eq_true',decide_eq_false_iff_not,Bool.and_eq_true,Bool.or_eq_true,Option.some.injEq,Int.not_lt,Int.not_le,lp4_0,hlt,hs,w1,w2,w3,hg,ht,w4,w5,happ,q,l9,Int.natCast_nonneg]
   refine ⟨(i+1,_,_,_),by simp only [go_sem,reduceIte,Nat.reduceEqDiff,Nat.reduceAdd,Nat.reduceSub,Nat.reduceLeDiff,Nat.reduceLT,reduceCtorEq,Int.reduceLT,Int.reduceLE,Int.reduceEq,Int.reduceBEq,Int.reduceSub,Int.reduceAdd,Int.reduceMul,Int.reduceNeg,Int.reduceToNat,Nat.reduceMul,Nat.reduceBEq,ren1_locm,loc_tips,locT_eq,okRefsB,renCellsB,hr6,hr9,hrP]<;>rfl,?_,?_,fun x en s hq=> ?_⟩
   ·dsimp only;exact ⟨by omega,z1,z2,z3,z4,z5,z6,z7⟩
   ·dsimp only;omega
   ·exact hq
 ·have hlt:((i:Int)<(n:Int))=False:=eq_false (by omega)
  obtain rfl:i=n:=by omega
  simp only [go_sem,reduceIte,Nat.reduceEqDiff,Nat.reduceAdd,Nat.reduceSub,Nat.reduceLeDiff,Nat.reduceLT,reduceCtorEq,Int.reduceLT,Int.reduceLE,Int.reduceEq,Int.reduceBEq,Int.reduceSub,Int.reduceAdd,Int.reduceMul,Int.reduceNeg,Int.reduceToNat,Nat.reduceMul,Nat.reduceBEq,index_rsl_if,setm,make_ints,condK_dec,wantK_dec,not_dec,and_dec,or_dec,seqK_ite,seqK_none,blockK_ite,blockK_none,opsK_ite,opsK_none,stepK_ite,stepK_none,bodyK_ite,bodyK_none,resK_ite,resK_none,leaveK_ite,leaveK_none,only_ite,only_none,bind_ite,gives_some,gives_none,gives_ite,then_normal,then_ret,then_exit,then_none,then_ite,Option.bind_none,Bool.not_eq_true',decide_eq_false_iff_not,Bool.and_eq_true,Bool.or_eq_true,Option.some.injEq,Int.not_lt,Int.not_le,lp4_0,hlt]
  exact ⟨o9,oP,T,rfl,rfl,k1,k2,k3,k4,k5,k6,k7⟩
attribute [local go_sem] okRef_tip storable_tip shaped_tip cells_tip isAgg_tip
def tabTo (zs:List Int) (n r:Nat):List (List Int):=(List.range r).map fun r=>rowTo zs r n
def prsTo (zs:List Int) (n r:Nat):List (Int×Int):=(List.range r).flatMap fun r=>prTo zs n r n
theorem tabTo_succ (zs:List Int)(n r:Nat):tabTo zs n (r+1)=tabTo zs n r++ [rowTo zs r n]:=by simp [tabTo,List.range_succ]
theorem prsTo_succ (zs:List Int)(n r:Nat):prsTo zs n (r+1)=prsTo zs n r++prTo zs n r n:=by simp [prsTo,List.range_succ]
theorem prsTo_len (zs:List Int)(n:Nat): ∀r,(prsTo zs n r).length≤r*n
 |0=>by simp [prsTo]
 |r+1=>by
  rw [prsTo_succ,List.length_append,Nat.succ_mul]
  have:=prsTo_len zs n r
  have:=prTo_len zs n r n
  omega
theorem ren_old {hi:Nat} {o:Option Nat} (h: ∀i,o=some i→i<hi) {β:Type} (z:Nat)(f:β→AV)(xs:List β)(T:List Nat)(acc:List (Nat×Nat))(hk:tipOk o xs.length T):ren1 hi T acc (tipX z o (xs.map f))=(tipX z o (xs.map f),acc):=by
 rw [ren1_tipm hi z T acc f o xs hk (fun i h1 h2=>absurd (h i h1) (by omega)),reI_old h,reA_old h]
theorem tip_lt {o:Option Nat} {n:Nat} {T:List Nat} (h:tipOk o n T): ∀i,o=some i→i<T.length:=by
 rintro i rfl
 exact (List.getElem?_eq_some_iff.1 h.1).1
set_option maxHeartbeats 1000000 in
theorem loop4_1 (n:Nat)(hn:1≤n∧n≤3)(zs:List Int)(hz:zs.length=9)(hb: ∀x∈zs,Byte x)(r:Nat)(o6:Option Nat)(oP:Option Nat)(T:List Nat)(hok:r≤n∧tipOk o6 (tabTo zs n r).length T∧tipOk oP (prsTo zs n r).length T∧apart o6 oP)(env:Env)(st:St)
  (hg:gcAV true 2 0 (canon env [3,5,6,7,34,35]) st=([(3,.ptr 0 0),(5,I n),(6,tipX 1 o6 ((tabTo zs n r).map listAV)),(7,.ptr 1 0),(34,I n),(35,I r)],⟨[zs.map B8,[I (2*n:Nat),tipX 2 oP ((prsTo zs n r).map prAV)]],T⟩)):
  ∃x_1 en s,lim (headed pure (run L) true [3,5,6,7,34,35] lp4_1 2 0) env st=some (x_1,en,s)∧(x_1=.exit 0∧en.get 5=I n∧en.get 7=.ptr 1 0∧(∃o6' oP' T',en.get 6=tipX 1 o6' ((tabTo zs n n).map listAV)∧s=⟨[zs.map B8,[I (2*n:Nat),tipX 2 oP' ((prsTo zs n n).map prAV)]],T'⟩∧tipOk o6' (tabTo zs n n).length T'∧tipOk oP' (prsTo zs n n).length T')):=by
 refine loop_wp (α:=Nat×Option Nat×Option Nat×List Nat) (fun ⟨r,o6,oP,T⟩=>n-r) (fun ⟨r,o6,oP,T⟩=>r≤n∧tipOk o6 (tabTo zs n r).length T∧tipOk oP (prsTo zs n r).length T∧apart o6 oP) (fun ⟨r,o6,oP,T⟩=>([(3,.ptr 0 0),(5,I n),(6,tipX 1 o6 ((tabTo zs n r).map listAV)),(7,.ptr 1 0),(34,I n),(35,I r)],⟨[zs.map B8,[I (2*n:Nat),tipX 2 oP ((prsTo zs n r).map prAV)]],T⟩)) (fun ⟨r,o6,oP,T⟩ x_1 en s=>x_1=.exit 0∧en.get 5=I n∧en.get 7=.ptr 1 0∧(∃o6' oP' T',en.get 6=tipX 1 o6' ((tabTo zs n n).map listAV)∧s=⟨[zs.map B8,[I (2*n:Nat),tipX 2 oP' ((prsTo zs n n).map prAV)]],T'⟩∧tipOk o6' (tabTo zs n n).length T'∧tipOk oP' (prsTo zs n n).length T')) (fun ⟨r,o6,oP,T⟩ hok=> ?_) ⟨r,o6,oP,T⟩ hok env st hg
 simp only at hok
 obtain ⟨h1,k2,k4,k6⟩:=hok
 dsimp only at h1 k2 k4 k6⊢
 by_cases h:r<n
 ·have hs:=succ64 r (by omega)
  have hlt:((r:Int)<(n:Int))=True:=eq_true (by omega)
  have hpl:=prsTo_len zs n r
  have hpl2:r*n≤9:=by
   have:r*n≤3*3:=Nat.mul_le_mul (by omega) (by omega)
   omega
  have hr6:=ren_old (tip_lt k2) 1 listAV (tabTo zs n r) T [] k2
  have hrP:=ren_old (tip_lt k4) 2 prAV (prsTo zs n r) T [] k4
  have hp0:prTo zs n r 0=[]:=by simp [prTo]
  have htl:T.take T.length=T:=List.take_length
  simp only [go_sem,reduceIte,Nat.reduceEqDiff,Nat.reduceAdd,Nat.reduceSub,Nat.reduceLeDiff,Nat.reduceLT,reduceCtorEq,Int.reduceLT,Int.reduceLE,Int.reduceEq,Int.reduceBEq,Int.reduceSub,Int.reduceAdd,Int.reduceMul,Int.reduceNeg,Int.reduceToNat,Nat.reduceMul,Nat.reduceBEq,index_rsl_if,setm,make_ints,condK_dec,wantK_dec,not_dec,and_dec,or_dec,seqK_ite,seqK_none,blockK_ite,blockK_none,opsK_ite,opsK_none,stepK_ite,stepK_none,bodyK_ite,bodyK_none,resK_ite,resK_none,leaveK_ite,leaveK_none,only_ite,only_none,bind_ite,gives_some,gives_none,gives_ite,then_normal,then_ret,then_exit,then_none,then_ite,Option.bind_none,Bool.not_eq_true',decide_eq_false_iff_not,Bool.and_eq_true,Bool.or_eq_true,Option.some.injEq,Int.not_lt,Int.not_le,lp4_1,hlt]
  generalize hg:lim (headed pure (run L) true _ lp4_0 _ _) _ _=o
  obtain ⟨x,en,s,rfl,h2⟩: ∃x en s,o=some (x,en,s)∧_:=by rw [←hg];exact loop4_0 n hn zs hz hb r h (tabTo zs n r) o6 T.length (tip_lt k2) (prsTo zs n r) (by omega) 0 none oP T ⟨by omega,by omega,k2,rfl,by simpa [prTo] using k4,fun i _=>by simp,k6,fun i hi=>by simp at hi⟩ _ _ (by simp only [go_sem,reduceIte,Nat.reduceEqDiff,Nat.reduceAdd,Nat.reduceSub,Nat.reduceLeDiff,Nat.reduceLT,reduceCtorEq,Int.reduceLT,Int.reduceLE,Int.reduceEq,Int.reduceBEq,Int.reduceSub,Int.reduceAdd,Int.reduceMul,Int.reduceNeg,Int.reduceToNat,Nat.reduceMul,Nat.reduceBEq,okRefsB,renCellsB,hr6,hrP,Int.natCast_zero,hp0,List.append_nil,htl]<;>rfl)
  clear hg
  obtain ⟨rfl,g3,g5,g6,g7,g8,g34,g35,o9,oP',T',g9,rfl,q1,q2,q3,q4,q5,q6,q7⟩:=h2
  rw [←prsTo_succ] at q4
  have hrow:(rowTo zs r n).length=n:=by simp [rowTo]
  have htn:(tabTo zs n r).length=r:=by simp [tabTo]
  have hpb:pub (tipX 1 o9 ((rowTo zs r n).map I))=listAV (rowTo zs r n):=by
   rw [pub_tip 1 o9 _ (T:=T') (by simpa using q3)]
   have hne:(rowTo zs r n).map I≠[]:=by
    intro e
    have:=congrArg List.length e
    simp [hrow] at this;omega
   rw [sl_ne hne];exact (sl_ne hne).symm
  have happ:=fun S=>append_tipm 1 listAV o6 (tabTo zs n r) (rowTo zs r n) S T' q2 (by omega)
  rw [←tabTo_succ] at happ
  have htn2:(tabTo zs n (r+1)).length=(tabTo zs n r).length+1:=by simp [tabTo]
  rw [←htn2] at happ
  have a6:=apOk o6 _ T' (tabTo zs n (r+1)).length q2 (by omega)
  have aP:=apOk_other (m:=(tabTo zs n (r+1)).length) q4 q2 q6
  generalize apI o6 T'=o62 at*
  generalize apT o6 T' (tabTo zs n (r+1)).length=T2 at*
  obtain ⟨z0,z1,z2,z3,z4,z5,z6,z7⟩:=two_next (hi:=0) (o6:=none) (n6:=0) (fun i hi=>by simp at hi) (Nat.zero_le _) rfl a6 aP.1 (fun i hi=>by simp at hi) (fun i hi=>by simp at hi) aP.2
  have hr9:=ren1_tipm 0 1 _ [] listAV _ _ a6 (fun i _ _ p hp=>by simp at hp)
  have hrP2:=ren1_tipm 0 2 _ _ prAV _ _ aP.1 z0
  rw [←prsTo_succ]
  simp only [go_sem,reduceIte,Nat.reduceEqDiff,Nat.reduceAdd,Nat.reduceSub,Nat.reduceLeDiff,Nat.reduceLT,reduceCtorEq,Int.reduceLT,Int.reduceLE,Int.reduceEq,Int.reduceBEq,Int.reduceSub,Int.reduceAdd,Int.reduceMul,Int.reduceNeg,Int.reduceToNat,Nat.reduceMul,Nat.reduceBEq,index_rsl_if,setm,make_ints,condK_dec,wantK_dec,not_dec,and_dec,or_dec,seqK_ite,seqK_none,blockK_ite,blockK_none,opsK_ite,opsK_none,stepK_ite,stepK_none,bodyK_ite,bodyK_none,resK_ite,resK_none,leaveK_ite,leaveK_none,only_ite,only_none,bind_ite,gives_some,gives_none,gives_ite,then_normal,then_ret,then_exit,then_none,then_ite,Option.bind_none,Bool.not_eq_true',decide_eq_false_iff_not,Bool.and_eq_true,Bool.or_eq_true,Option.some.injEq,Int.not_lt,Int.not_le,lp4_1,g3,g5,g6,g7,g8,g9,g34,g35,hpb,happ,hs]
  refine ⟨(r+1,_,_,_),by simp only [go_sem,reduceIte,Nat.reduceEqDiff,Nat.reduceAdd,Nat.reduceSub,Nat.reduceLeDiff,Nat.reduceLT,reduceCtorEq,Int.reduceLT,Int.reduceLE,Int.reduceEq,Int.reduceBEq,Int.reduceSub,Int.reduceAdd,Int.reduceMul,Int.reduceNeg,Int.reduceToNat,Nat.reduceMul,Nat.reduceBEq,ren1_locm,loc_tips,locT_eq,okRefsB,renCellsB,hr9,hrP2,g3,g5,g6,g7,g34,g35]<;>rfl,?_,?_,fun x en s hq=> ?_⟩
  ·dsimp only;exact ⟨by omega,z3,z4,z7⟩
  ·dsimp only;omega
  ·exact hq
 ·have hlt:((r:Int)<(n:Int))=False:=eq_false (by omega)
  obtain rfl:r=n:=by omega
  simp only [go_sem,reduceIte,Nat.reduceEqDiff,Nat.reduceAdd,Nat.reduceSub,Nat.reduceLeDiff,Nat.reduceLT,reduceCtorEq,Int.reduceLT,Int.reduceLE,Int.reduceEq,Int.reduceBEq,Int.reduceSub,Int.reduceAdd,Int.reduceMul,Int.reduceNeg,Int.reduceToNat,Nat.reduceMul,Nat.reduceBEq,index_rsl_if,setm,make_ints,condK_dec,wantK_dec,not_dec,and_dec,or_dec,seqK_ite,seqK_none,blockK_ite,blockK_none,opsK_ite,opsK_none,stepK_ite,stepK_none,bodyK_ite,bodyK_none,resK_ite,resK_none,leaveK_ite,leaveK_none,only_ite,only_none,bind_ite,gives_some,gives_none,gives_ite,then_normal,then_ret,then_exit,then_none,then_ite,Option.bind_none,Bool.not_eq_true',decide_eq_false_iff_not,Bool.and_eq_true,Bool.or_eq_true,Option.some.injEq,Int.not_lt,Int.not_le,lp4_1,hlt]
  exact ⟨o6,oP,T,rfl,rfl,k2,k4⟩
attribute [local go_sem] okRef_tip storable_tip shaped_tip cells_tip isAgg_tip
theorem bits_of (g:Nat→Bool): ∀k:Nat,∃m,m<2^k∧∀i,i<k→m.testBit i=g i
 |0=>⟨0,by simp,fun i h=>by omega⟩
 |k+1=>by
  obtain ⟨m,h1,h2⟩:=bits_of g k
  cases hg:g k with
  |false=>
   refine ⟨m,by rw [Nat.pow_succ];omega,fun i hi=> ?_⟩
   by_cases e:i=k
   ·subst e
    rw [hg]
    exact Nat.testBit_lt_two_pow h1
   ·exact h2 i (by omega)
  |true=>
   refine ⟨2^k+m,by rw [Nat.pow_succ];omega,fun i hi=> ?_⟩
   by_cases e:i=k
   ·subst e
    rw [hg,Nat.testBit_two_pow_add_eq,Nat.testBit_lt_two_pow h1];rfl
   ·rw [Nat.testBit_two_pow_add_gt (by omega)]
    exact h2 i (by omega)
theorem pat_of (zs:List Int): ∃p,p<512∧∀r c,r<3→c<3→cellB p r c=decide (0<xcell zs r c):=by
 obtain ⟨m,h1,h2⟩:=bits_of (fun i=>decide (0<xcell zs (i / 3) (i % 3))) 9
 refine ⟨m,h1,fun r c hr hc=> ?_⟩
 unfold cellB
 rw [h2 (3*r+c) (by omega)]
 rw [show (3*r+c) / 3=r by omega,show (3*r+c) % 3=c by omega]
theorem prs_ps {zs:List Int} {p n:Nat} (hn:n≤3)(hp: ∀r c,r<3→c<3→cellB p r c=decide (0<xcell zs r c)):prsTo zs n n=psP n p n:=by
 unfold prsTo psP
 have: ∀r,r<n→prTo zs n r n=psRow n p r n:=by
  intro r hr
  unfold prTo psRow
  congr 1
  apply List.filter_congr
  intro c hc
  rw [hp r c (by omega) (by have:=List.mem_range.1 hc;omega)]
 rw [List.flatMap_def,List.flatMap_def]
 congr 1
 apply List.map_congr_left
 intro r hr
 exact this r (List.mem_range.1 hr)
theorem xcell_range {zs:List Int} (hb: ∀x∈zs,Byte x)(r c:Nat):0≤xcell zs r c∧xcell zs r c≤9:=by
 have h:=mod_range (zs.getD (3*r+c) 0) 16 (by omega)
 unfold xcell
 omega
theorem tab_pat {zs:List Int} (hb: ∀x∈zs,Byte x) {p n:Nat} (hn:1≤n∧n≤3)(hp: ∀r c,r<3→c<3→cellB p r c=decide (0<xcell zs r c)):Pat n p (tabTo zs n n):=by
 refine ⟨hn.2,⟨hn.1,by omega,by simp [tabTo],?_,?_⟩,?_⟩
 ·intro r hr
  obtain ⟨i,_,rfl⟩:=List.mem_map.1 hr
  simp [rowTo]
 ·intro r hr x hx
  obtain ⟨i,_,rfl⟩:=List.mem_map.1 hr
  obtain ⟨c,_,rfl⟩:=List.mem_map.1 hx
  exact xcell_range hb i c
 ·intro r c hr hc
  have e:((tabTo zs n n).getD r []).getD c 0=xcell zs r c:=by
   unfold tabTo rowTo
   simp [List.getD_eq_getElem?_getD,hr,hc]
  rw [e,hp r c (by omega) (by omega),decide_eq_true_iff]
theorem loop4_2 (zs:List Int)(n:Nat)(nv kv hv:Int)(ws rs cs v:List Int)(hv2: ∀x∈v,0≤x∧x≤2)(hvl:v.length≤7)(oP:Option Nat)(ps:List (Int×Int))(T:List Nat)(hP:tipOk oP ps.length T)(i:Nat)(c:Int)(hok:i≤v.length∧0≤c∧c≤2*i)(env:Env)(st:St)
  (hg:gcAV true 2 T.length (canon env [5,7,12,16,18,19,20,21,134,135,136]) st=([(5,I nv),(7,.ptr 1 0),(12,sl 1 true (ws.map I)),(16,I kv),(18,sl 1 true (rs.map I)),(19,sl 1 true (cs.map I)),(20,I hv),(21,I c),(134,sl 1 true (v.map I)),(135,I v.length),(136,I i)],⟨[zs.map B8,[I (2*n:Nat),tipX 2 oP (ps.map prAV)]],T⟩)):
  ∃x_1 en s,lim (headed pure (run L) true [5,7,12,16,18,19,20,21,134,135,136] lp4_2 2 T.length) env st=some (x_1,en,s)∧(x_1=.exit 4∧en.get 5=I nv∧en.get 7=.ptr 1 0∧en.get 12=sl 1 true (ws.map I)∧en.get 16=I kv∧en.get 18=sl 1 true (rs.map I)∧en.get 19=sl 1 true (cs.map I)∧en.get 20=I hv∧en.get 21=I (c+sumL (v.drop i))∧s=⟨[zs.map B8,[I (2*n:Nat),tipX 2 oP (ps.map prAV)]],T⟩):=by
 refine loop_wp (α:=Nat×Int) (fun ⟨i,c⟩=>v.length-i) (fun ⟨i,c⟩=>i≤v.length∧0≤c∧c≤2*i) (fun ⟨i,c⟩=>([(5,I nv),(7,.ptr 1 0),(12,sl 1 true (ws.map I)),(16,I kv),(18,sl 1 true (rs.map I)),(19,sl 1 true (cs.map I)),(20,I hv),(21,I c),(134,sl 1 true (v.map I)),(135,I v.length),(136,I i)],⟨[zs.map B8,[I (2*n:Nat),tipX 2 oP (ps.map prAV)]],T⟩)) (fun ⟨i,c⟩ x_1 en s=>x_1=.exit 4∧en.get 5=I nv∧en.get 7=.ptr 1 0∧en.get 12=sl 1 true (ws.map I)∧en.get 16=I kv∧en.get 18=sl 1 true (rs.map I)∧en.get 19=sl 1 true (cs.map I)∧en.get 20=I hv∧en.get 21=I (c+sumL (v.drop i))∧s=⟨[zs.map B8,[I (2*n:Nat),tipX 2 oP (ps.map prAV)]],T⟩) (fun ⟨i,c⟩ hok=> ?_) ⟨i,c⟩ hok env st hg
 simp only at hok
 obtain ⟨h1,k1,k2⟩:=hok
 dsimp only at h1 k1 k2⊢
 have hrP:=ren_old (tip_lt hP) 2 prAV ps T [] hP
 have htl:T.take T.length=T:=List.take_length
 by_cases h:i<v.length
 ·have hs:=succ64 i (by omega)
  have hlt:((i:Int)<(v.length:Int))=True:=eq_true (by omega)
  have hx:=index_ints true v i h
  have hd:v.drop i=v[i]::v.drop (i+1):=List.drop_eq_getElem_cons h
  have hr:=hv2 v[i] (List.getElem_mem h)
  rw [hd]
  simp only [sumL]
  generalize v[i]=x at*
  have p1:(x<0)=False:=eq_false (by omega)
  have p2:(2<x)=False:=eq_false (by omega)
  have w1:=wrap64 (c+x) (by omega) (by omega)
  rw [←Int.add_assoc]
  simp only [go_sem,reduceIte,Nat.reduceEqDiff,Nat.reduceAdd,Nat.reduceSub,Nat.reduceLeDiff,Nat.reduceLT,reduceCtorEq,Int.reduceLT,Int.reduceLE,Int.reduceEq,Int.reduceBEq,Int.reduceSub,Int.reduceAdd,Int.reduceMul,Int.reduceNeg,Int.reduceToNat,Nat.reduceMul,Nat.reduceBEq,index_rsl_if,setm,make_ints,condK_dec,wantK_dec,not_dec,and_dec,or_dec,seqK_ite,seqK_none,blockK_ite,blockK_none,opsK_ite,opsK_none,stepK_ite,stepK_none,bodyK_ite,bodyK_none,resK_ite,resK_none,leaveK_ite,leaveK_none,only_ite,only_none,bind_ite,gives_some,gives_none,gives_ite,then_normal,then_ret,then_exit,then_none,then_ite,Option.bind_none,Bool.not_eq_true',decide_eq_false_iff_not,Bool.and_eq_true,Bool.or_eq_true,Option.some.injEq,Int.not_lt,Int.not_le,lp4_2,hx,hlt,hs,p1,p2,w1]
  refine ⟨(i+1,c+x),by simp only [go_sem,reduceIte,Nat.reduceEqDiff,Nat.reduceAdd,Nat.reduceSub,Nat.reduceLeDiff,Nat.reduceLT,reduceCtorEq,Int.reduceLT,Int.reduceLE,Int.reduceEq,Int.reduceBEq,Int.reduceSub,Int.reduceAdd,Int.reduceMul,Int.reduceNeg,Int.reduceToNat,Nat.reduceMul,Nat.reduceBEq,ren1_locm,loc_tips,locT_eq,okRefsB,renCellsB,hrP,htl,List.append_nil,List.map_nil]<;>rfl,?_,?_,fun x en s hq=> ?_⟩
  ·dsimp only;exact ⟨by omega,by omega,by omega⟩
  ·dsimp only;omega
  ·exact hq
 ·have hlt:((i:Int)<(v.length:Int))=False:=eq_false (by omega)
  have hd:v.drop i=[]:=List.drop_eq_nil_of_le (by omega)
  rw [hd]
  simp only [go_sem,reduceIte,Nat.reduceEqDiff,Nat.reduceAdd,Nat.reduceSub,Nat.reduceLeDiff,Nat.reduceLT,reduceCtorEq,Int.reduceLT,Int.reduceLE,Int.reduceEq,Int.reduceBEq,Int.reduceSub,Int.reduceAdd,Int.reduceMul,Int.reduceNeg,Int.reduceToNat,Nat.reduceMul,Nat.reduceBEq,index_rsl_if,setm,make_ints,condK_dec,wantK_dec,not_dec,and_dec,or_dec,seqK_ite,seqK_none,blockK_ite,blockK_none,opsK_ite,opsK_none,stepK_ite,stepK_none,bodyK_ite,bodyK_none,resK_ite,resK_none,leaveK_ite,leaveK_none,only_ite,only_none,bind_ite,gives_some,gives_none,gives_ite,then_normal,then_ret,then_exit,then_none,then_ite,Option.bind_none,Bool.not_eq_true',decide_eq_false_iff_not,Bool.and_eq_true,Bool.or_eq_true,Option.some.injEq,Int.not_lt,Int.not_le,lp4_2,hlt]
  simp [sumL]
def rowsL (rs:List Int) (i n:Nat):List Int:=((List.range' i (n-i)).filter fun (r:Nat)=> !rs.contains (r:Int)).map fun (r:Nat)=>(r:Int)
def colsL (cs:List Int) (k i n:Nat):List Int:=((List.range' i (n-i)).filter fun (c:Nat)=> !cs.contains (c:Int)).map fun (c:Nat)=>((k+c:Nat):Int)
theorem rowsL_step (rs:List Int)(i n:Nat)(h:i<n):rowsL rs i n=if (i:Int)∈rs then rowsL rs (i+1) n else (i:Int)::rowsL rs (i+1) n:=by
 unfold rowsL
 rw [show n-i=(n-(i+1))+1 by omega,List.range'_succ,List.filter_cons]
 by_cases q:(i:Int)∈rs
 ·simp [q]
 ·simp [q]
theorem colsL_step (cs:List Int)(k i n:Nat)(h:i<n):colsL cs k i n=if (i:Int)∈cs then colsL cs k (i+1) n else ((k+i:Nat):Int)::colsL cs k (i+1) n:=by
 unfold colsL
 rw [show n-i=(n-(i+1))+1 by omega,List.range'_succ,List.filter_cons]
 by_cases q:(i:Int)∈cs
 ·simp [q]
 ·simp [q]
theorem rest_eq (k:Nat)(R C:List Int):restP k R C=rowsL R 0 k++colsL C k 0 k:=by
 unfold restP rowsL colsL
 simp only [Nat.sub_zero,←List.range_eq_range']
theorem loop4_3 (zs:List Int)(n:Nat)(hn:n≤3)(hv:Int)(ws rs cs:List Int)(hrs:rs.length≤7)(oP:Option Nat)(ps:List (Int×Int))(hi:Nat)(hPo: ∀i,oP=some i→i<hi)(i:Nat)(oR:Option Nat)(rest:List Int)(T:List Nat)(hok:i≤n∧rest.length≤i∧hi≤T.length∧tipOk oP ps.length T∧tipOk oR rest.length T∧apart oP oR)(env:Env)(st:St)
  (hg:gcAV true 2 hi (canon env [5,7,12,18,19,20,24,158,159]) st=([(5,I n),(7,.ptr 1 0),(12,sl 1 true (ws.map I)),(18,sl 1 true (rs.map I)),(19,sl 1 true (cs.map I)),(20,I hv),(24,tipX 1 oR (rest.map I)),(158,I n),(159,I i)],⟨[zs.map B8,[I (2*n:Nat),tipX 2 oP (ps.map prAV)]],T⟩)):
  ∃x_1 en s,lim (headed pure (run L) true [5,7,12,18,19,20,24,158,159] lp4_3 2 hi) env st=some (x_1,en,s)∧(x_1=.exit 6∧en.get 5=I n∧en.get 7=.ptr 1 0∧en.get 12=sl 1 true (ws.map I)∧en.get 19=sl 1 true (cs.map I)∧en.get 20=I hv∧(∃oR' T',en.get 24=tipX 1 oR' ((rest++rowsL rs i n).map I)∧s=⟨[zs.map B8,[I (2*n:Nat),tipX 2 oP (ps.map prAV)]],T'⟩∧tipOk oP ps.length T'∧tipOk oR' (rest++rowsL rs i n).length T'∧apart oP oR')):=by
 refine loop_wp (α:=Nat×Option Nat×List Int×List Nat) (fun ⟨i,oR,rest,T⟩=>n-i) (fun ⟨i,oR,rest,T⟩=>i≤n∧rest.length≤i∧hi≤T.length∧tipOk oP ps.length T∧tipOk oR rest.length T∧apart oP oR) (fun ⟨i,oR,rest,T⟩=>([(5,I n),(7,.ptr 1 0),(12,sl 1 true (ws.map I)),(18,sl 1 true (rs.map I)),(19,sl 1 true (cs.map I)),(20,I hv),(24,tipX 1 oR (rest.map I)),(158,I n),(159,I i)],⟨[zs.map B8,[I (2*n:Nat),tipX 2 oP (ps.map prAV)]],T⟩)) (fun ⟨i,oR,rest,T⟩ x_1 en s=>x_1=.exit 6∧en.get 5=I n∧en.get 7=.ptr 1 0∧en.get 12=sl 1 true (ws.map I)∧en.get 19=sl 1 true (cs.map I)∧en.get 20=I hv∧(∃oR' T',en.get 24=tipX 1 oR' ((rest++rowsL rs i n).map I)∧s=⟨[zs.map B8,[I (2*n:Nat),tipX 2 oP (ps.map prAV)]],T'⟩∧tipOk oP ps.length T'∧tipOk oR' (rest++rowsL rs i n).length T'∧apart oP oR')) (fun ⟨i,oR,rest,T⟩ hok=> ?_) ⟨i,oR,rest,T⟩ hok env st hg
 simp only at hok
 obtain ⟨h1,h2,k1,k2,k3,k4⟩:=hok
 dsimp only at h1 h2 k1 k2 k3 k4⊢
 by_cases h:i<n
 ·have hs:=succ64 i (by omega)
  have hlt:((i:Int)<(n:Int))=True:=eq_true (by omega)
  have h21:=fun st=>c21 true rs (by omega) i st
  have hst:=rowsL_step rs i n h
  rw [hst]
  by_cases q:(i:Int)∈rs
  ·rw [if_pos q] at hst⊢
   obtain ⟨z0,z1,z2,z3,z4,z5,z6,z7⟩:=two_next (oP:=none) (nP:=0) hPo k1 k2 k3 rfl k4 (fun i _=>by simp) (fun i _=>by simp)
   have hrP:=ren_old hPo 2 prAV ps T (reA hi [] oR rest.length) k2
   have hr9:=ren1_tipm hi 1 T [] I oR rest k3 (fun i _ _ p hp=>by simp at hp)
   simp only [go_sem,reduceIte,Nat.reduceEqDiff,Nat.reduceAdd,Nat.reduceSub,Nat.reduceLeDiff,Nat.reduceLT,reduceCtorEq,Int.reduceLT,Int.reduceLE,Int.reduceEq,Int.reduceBEq,Int.reduceSub,Int.reduceAdd,Int.reduceMul,Int.reduceNeg,Int.reduceToNat,Nat.reduceMul,Nat.reduceBEq,index_rsl_if,setm,make_ints,condK_dec,wantK_dec,not_dec,and_dec,or_dec,seqK_ite,seqK_none,blockK_ite,blockK_none,opsK_ite,opsK_none,stepK_ite,stepK_none,bodyK_ite,bodyK_none,resK_ite,resK_none,leaveK_ite,leaveK_none,only_ite,only_none,bind_ite,gives_some,gives_none,gives_ite,then_normal,then_ret,then_exit,then_none,then_ite,Option.bind_none,Bool.not_eq_true',decide_eq_false_iff_not,Bool.and_eq_true,Bool.or_eq_true,Option.some.injEq,Int.not_lt,Int.not_le,lp4_3,hlt,hs,h21,q]
   refine ⟨(i+1,_,rest,_),by simp only [go_sem,reduceIte,Nat.reduceEqDiff,Nat.reduceAdd,Nat.reduceSub,Nat.reduceLeDiff,Nat.reduceLT,reduceCtorEq,Int.reduceLT,Int.reduceLE,Int.reduceEq,Int.reduceBEq,Int.reduceSub,Int.reduceAdd,Int.reduceMul,Int.reduceNeg,Int.reduceToNat,Nat.reduceMul,Nat.reduceBEq,ren1_locm,loc_tips,locT_eq,okRefsB,renCellsB,hr9,hrP]<;>rfl,?_,?_,fun x en s hq=> ?_⟩
   ·dsimp only;exact ⟨by omega,by omega,z1,z2,z3,z5⟩
   ·dsimp only;omega
   ·exact hq
  ·rw [if_neg q] at hst⊢
   have happ:=fun S=>append_tipm 1 I oR rest (i:Int) S T k3 (by omega)
   have e9:tipOk (apI oR T) (rest++ [(i:Int)]).length (apT oR T (rest.length+1)):=by rw [List.length_append,List.length_singleton];exact apOk oR _ T _ k3 (by omega)
   have eP:=apOk_other (m:=rest.length+1) k2 k3 (apart_symm k4)
   have hl:=apT_len oR T (rest.length+1)
   generalize apI oR T=oR2 at*
   generalize apT oR T (rest.length+1)=T2 at*
   obtain ⟨z0,z1,z2,z3,z4,z5,z6,z7⟩:=two_next (oP:=none) (nP:=0) hPo (by omega) eP.1 e9 rfl (apart_symm eP.2) (fun i _=>by simp) (fun i _=>by simp)
   have hrP:=ren_old hPo 2 prAV ps T2 (reA hi [] oR2 (rest++ [(i:Int)]).length) eP.1
   have hr9:=ren1_tipm hi 1 T2 [] I oR2 (rest++ [(i:Int)]) e9 (fun i _ _ p hp=>by simp at hp)
   have hrest:rest++(i:Int)::rowsL rs (i+1) n=(rest++ [(i:Int)])++rowsL rs (i+1) n:=by rw [List.append_assoc];rfl
   rw [hrest]
   have hl2:(rest++ [(i:Int)]).length≤i+1:=by rw [List.length_append];simp;omega
   generalize rest++ [(i:Int)]=rest2 at*
   simp only [go_sem,reduceIte,Nat.reduceEqDiff,Nat.reduceAdd,Nat.reduceSub,Nat.reduceLeDiff,Nat.reduceLT,reduceCtorEq,Int.reduceLT,Int.reduceLE,Int.reduceEq,Int.reduceBEq,Int.reduceSub,Int.reduceAdd,Int.reduceMul,Int.reduceNeg,Int.reduceToNat,Nat.reduceMul,Nat.reduceBEq,index_rsl_if,setm,make_ints,condK_dec,wantK_dec,not_dec,and_dec,or_dec,seqK_ite,seqK_none,blockK_ite,blockK_none,opsK_ite,opsK_none,stepK_ite,stepK_none,bodyK_ite,bodyK_none,resK_ite,resK_none,leaveK_ite,leaveK_none,only_ite,only_none,bind_ite,gives_some,gives_none,gives_ite,then_normal,then_ret,then_exit,then_none,then_ite,Option.bind_none,Bool.not_eq_true',decide_eq_false_iff_not,Bool.and_eq_true,Bool.or_eq_true,Option.some.injEq,Int.not_lt,Int.not_le,lp4_3,hlt,hs,h21,q,happ]
   refine ⟨(i+1,_,rest2,_),by simp only [go_sem,reduceIte,Nat.reduceEqDiff,Nat.reduceAdd,Nat.reduceSub,Nat.reduceLeDiff,Nat.reduceLT,reduceCtorEq,Int.reduceLT,Int.reduceLE,Int.reduceEq,Int.reduceBEq,Int.reduceSub,Int.reduceAdd,Int.reduceMul,Int.reduceNeg,Int.reduceToNat,Nat.reduceMul,Nat.reduceBEq,ren1_locm,loc_tips,locT_eq,okRefsB,renCellsB,hr9,hrP]<;>rfl,?_,?_,fun x en s hq=> ?_⟩
   ·dsimp only;exact ⟨by omega,hl2,z1,z2,z3,z5⟩
   ·dsimp only;omega
   ·exact hq
 ·have hlt:((i:Int)<(n:Int))=False:=eq_false (by omega)
  have hd:rowsL rs i n=[]:=by unfold rowsL;rw [show n-i=0 by omega];rfl
  rw [hd,List.append_nil]
  simp only [go_sem,reduceIte,Nat.reduceEqDiff,Nat.reduceAdd,Nat.reduceSub,Nat.reduceLeDiff,Nat.reduceLT,reduceCtorEq,Int.reduceLT,Int.reduceLE,Int.reduceEq,Int.reduceBEq,Int.reduceSub,Int.reduceAdd,Int.reduceMul,Int.reduceNeg,Int.reduceToNat,Nat.reduceMul,Nat.reduceBEq,index_rsl_if,setm,make_ints,condK_dec,wantK_dec,not_dec,and_dec,or_dec,seqK_ite,seqK_none,blockK_ite,blockK_none,opsK_ite,opsK_none,stepK_ite,stepK_none,bodyK_ite,bodyK_none,resK_ite,resK_none,leaveK_ite,leaveK_none,only_ite,only_none,bind_ite,gives_some,gives_none,gives_ite,then_normal,then_ret,then_exit,then_none,then_ite,Option.bind_none,Bool.not_eq_true',decide_eq_false_iff_not,Bool.and_eq_true,Bool.or_eq_true,Option.some.injEq,Int.not_lt,Int.not_le,lp4_3,hlt]
  exact ⟨oR,T,rfl,rfl,k2,k3,k4⟩
theorem loop4_4 (zs:List Int)(n:Nat)(hn:n≤3)(hv:Int)(ws cs:List Int)(hcs:cs.length≤7)(oP:Option Nat)(ps:List (Int×Int))(hi:Nat)(hPo: ∀i,oP=some i→i<hi)(i:Nat)(oR:Option Nat)(rest:List Int)(T:List Nat)(hok:i≤n∧rest.length≤3+i∧hi≤T.length∧tipOk oP ps.length T∧tipOk oR rest.length T∧apart oP oR)(env:Env)(st:St)
  (hg:gcAV true 2 hi (canon env [5,7,12,19,20,24,171,172]) st=([(5,I n),(7,.ptr 1 0),(12,sl 1 true (ws.map I)),(19,sl 1 true (cs.map I)),(20,I hv),(24,tipX 1 oR (rest.map I)),(171,I n),(172,I i)],⟨[zs.map B8,[I (2*n:Nat),tipX 2 oP (ps.map prAV)]],T⟩)):
  ∃x_1 en s,lim (headed pure (run L) true [5,7,12,19,20,24,171,172] lp4_4 2 hi) env st=some (x_1,en,s)∧(x_1=.exit 8∧en.get 5=I n∧en.get 7=.ptr 1 0∧en.get 12=sl 1 true (ws.map I)∧en.get 20=I hv∧(∃oR' T',en.get 24=tipX 1 oR' ((rest++colsL cs n i n).map I)∧s=⟨[zs.map B8,[I (2*n:Nat),tipX 2 oP (ps.map prAV)]],T'⟩∧tipOk oP ps.length T'∧tipOk oR' (rest++colsL cs n i n).length T')):=by
 refine loop_wp (α:=Nat×Option Nat×List Int×List Nat) (fun ⟨i,oR,rest,T⟩=>n-i) (fun ⟨i,oR,rest,T⟩=>i≤n∧rest.length≤3+i∧hi≤T.length∧tipOk oP ps.length T∧tipOk oR rest.length T∧apart oP oR) (fun ⟨i,oR,rest,T⟩=>([(5,I n),(7,.ptr 1 0),(12,sl 1 true (ws.map I)),(19,sl 1 true (cs.map I)),(20,I hv),(24,tipX 1 oR (rest.map I)),(171,I n),(172,I i)],⟨[zs.map B8,[I (2*n:Nat),tipX 2 oP (ps.map prAV)]],T⟩)) (fun ⟨i,oR,rest,T⟩ x_1 en s=>x_1=.exit 8∧en.get 5=I n∧en.get 7=.ptr 1 0∧en.get 12=sl 1 true (ws.map I)∧en.get 20=I hv∧(∃oR' T',en.get 24=tipX 1 oR' ((rest++colsL cs n i n).map I)∧s=⟨[zs.map B8,[I (2*n:Nat),tipX 2 oP (ps.map prAV)]],T'⟩∧tipOk oP ps.length T'∧tipOk oR' (rest++colsL cs n i n).length T')) (fun ⟨i,oR,rest,T⟩ hok=> ?_) ⟨i,oR,rest,T⟩ hok env st hg
 simp only at hok
 obtain ⟨h1,h2,k1,k2,k3,k4⟩:=hok
 dsimp only at h1 h2 k1 k2 k3 k4⊢
 by_cases h:i<n
 ·have hs:=succ64 i (by omega)
  have hlt:((i:Int)<(n:Int))=True:=eq_true (by omega)
  have h21:=fun st=>c21 true cs (by omega) i st
  have hst:=colsL_step cs n i n h
  rw [hst]
  by_cases q:(i:Int)∈cs
  ·rw [if_pos q] at hst⊢
   obtain ⟨z0,z1,z2,z3,z4,z5,z6,z7⟩:=two_next (oP:=none) (nP:=0) hPo k1 k2 k3 rfl k4 (fun i _=>by simp) (fun i _=>by simp)
   have hrP:=ren_old hPo 2 prAV ps T (reA hi [] oR rest.length) k2
   have hr9:=ren1_tipm hi 1 T [] I oR rest k3 (fun i _ _ p hp=>by simp at hp)
   simp only [go_sem,reduceIte,Nat.reduceEqDiff,Nat.reduceAdd,Nat.reduceSub,Nat.reduceLeDiff,Nat.reduceLT,reduceCtorEq,Int.reduceLT,Int.reduceLE,Int.reduceEq,Int.reduceBEq,Int.reduceSub,Int.reduceAdd,Int.reduceMul,Int.reduceNeg,Int.reduceToNat,Nat.reduceMul,Nat.reduceBEq,index_rsl_if,setm,make_ints,condK_dec,wantK_dec,not_dec,and_dec,or_dec,seqK_ite,seqK_none,blockK_ite,blockK_none,opsK_ite,opsK_none,stepK_ite,stepK_none,bodyK_ite,bodyK_none,resK_ite,resK_none,leaveK_ite,leaveK_none,only_ite,only_none,bind_ite,gives_some,gives_none,gives_ite,then_normal,then_ret,then_exit,then_none,then_ite,Option.bind_none,Bool.not_eq_true',decide_eq_false_iff_not,Bool.and_eq_true,Bool.or_eq_true,Option.some.injEq,Int.not_lt,Int.not_le,lp4_4,hlt,hs,h21,q]
   refine ⟨(i+1,_,rest,_),by simp only [go_sem,reduceIte,Nat.reduceEqDiff,Nat.reduceAdd,Nat.reduceSub,Nat.reduceLeDiff,Nat.reduceLT,reduceCtorEq,Int.reduceLT,Int.reduceLE,Int.reduceEq,Int.reduceBEq,Int.reduceSub,Int.reduceAdd,Int.reduceMul,Int.reduceNeg,Int.reduceToNat,Nat.reduceMul,Nat.reduceBEq,ren1_locm,loc_tips,locT_eq,okRefsB,renCellsB,hr9,hrP]<;>rfl,?_,?_,fun x en s hq=> ?_⟩
   ·dsimp only;exact ⟨by omega,by omega,z1,z2,z3,z5⟩
   ·dsimp only;omega
   ·exact hq
  ·rw [if_neg q] at hst⊢
   have w1:IntKind.i64.wrap ((n:Int)+(i:Int))=((n+i:Nat):Int):=by rw [wrap64]<;>omega
   have happ:=fun S=>append_tipm 1 I oR rest ((n+i:Nat):Int) S T k3 (by omega)
   have e9:tipOk (apI oR T) (rest++ [((n+i:Nat):Int)]).length (apT oR T (rest.length+1)):=by rw [List.length_append,List.length_singleton];exact apOk oR _ T _ k3 (by omega)
   have eP:=apOk_other (m:=rest.length+1) k2 k3 (apart_symm k4)
   have hl:=apT_len oR T (rest.length+1)
   generalize apI oR T=oR2 at*
   generalize apT oR T (rest.length+1)=T2 at*
   obtain ⟨z0,z1,z2,z3,z4,z5,z6,z7⟩:=two_next (oP:=none) (nP:=0) hPo (by omega) eP.1 e9 rfl (apart_symm eP.2) (fun i _=>by simp) (fun i _=>by simp)
   have hrP:=ren_old hPo 2 prAV ps T2 (reA hi [] oR2 (rest++ [((n+i:Nat):Int)]).length) eP.1
   have hr9:=ren1_tipm hi 1 T2 [] I oR2 (rest++ [((n+i:Nat):Int)]) e9 (fun i _ _ p hp=>by simp at hp)
   have hrest:rest++((n+i:Nat):Int)::colsL cs n (i+1) n=(rest++ [((n+i:Nat):Int)])++colsL cs n (i+1) n:=by rw [List.append_assoc];rfl
   rw [hrest]
   have hl2:(rest++ [((n+i:Nat):Int)]).length≤3+(i+1):=by rw [List.length_append];simp;omega
   generalize rest++ [((n+i:Nat):Int)]=rest2 at*
   simp only [go_sem,reduceIte,Nat.reduceEqDiff,Nat.reduceAdd,Nat.reduceSub,Nat.reduceLeDiff,Nat.reduceLT,reduceCtorEq,Int.reduceLT,Int.reduceLE,Int.reduceEq,Int.reduceBEq,Int.reduceSub,Int.reduceAdd,Int.reduceMul,Int.reduceNeg,Int.reduceToNat,Nat.reduceMul,Nat.reduceBEq,index_rsl_if,setm,make_ints,condK_dec,wantK_dec,not_dec,and_dec,or_dec,seqK_ite,seqK_none,blockK_ite,blockK_none,opsK_ite,opsK_none,stepK_ite,stepK_none,bodyK_ite,bodyK_none,resK_ite,resK_none,leaveK_ite,leaveK_none,only_ite,only_none,bind_ite,gives_some,gives_none,gives_ite,then_normal,then_ret,then_exit,then_none,then_ite,Option.bind_none,Bool.not_eq_true',decide_eq_false_iff_not,Bool.and_eq_true,Bool.or_eq_true,Option.some.injEq,Int.not_lt,Int.not_le,lp4_4,hlt,hs,h21,q,happ,w1]
   refine ⟨(i+1,_,rest2,_),by simp only [go_sem,reduceIte,Nat.reduceEqDiff,Nat.reduceAdd,Nat.reduceSub,Nat.reduceLeDiff,Nat.reduceLT,reduceCtorEq,Int.reduceLT,Int.reduceLE,Int.reduceEq,Int.reduceBEq,Int.reduceSub,Int.reduceAdd,Int.reduceMul,Int.reduceNeg,Int.reduceToNat,Nat.reduceMul,Nat.reduceBEq,ren1_locm,loc_tips,locT_eq,okRefsB,renCellsB,hr9,hrP]<;>rfl,?_,?_,fun x en s hq=> ?_⟩
   ·dsimp only;exact ⟨by omega,hl2,z1,z2,z3,z5⟩
   ·dsimp only;omega
   ·exact hq
 ·have hlt:((i:Int)<(n:Int))=False:=eq_false (by omega)
  have hd:colsL cs n i n=[]:=by unfold colsL;rw [show n-i=0 by omega];rfl
  rw [hd,List.append_nil]
  simp only [go_sem,reduceIte,Nat.reduceEqDiff,Nat.reduceAdd,Nat.reduceSub,Nat.reduceLeDiff,Nat.reduceLT,reduceCtorEq,Int.reduceLT,Int.reduceLE,Int.reduceEq,Int.reduceBEq,Int.reduceSub,Int.reduceAdd,Int.reduceMul,Int.reduceNeg,Int.reduceToNat,Nat.reduceMul,Nat.reduceBEq,index_rsl_if,setm,make_ints,condK_dec,wantK_dec,not_dec,and_dec,or_dec,seqK_ite,seqK_none,blockK_ite,blockK_none,opsK_ite,opsK_none,stepK_ite,stepK_none,bodyK_ite,bodyK_none,resK_ite,resK_none,leaveK_ite,leaveK_none,only_ite,only_none,bind_ite,gives_some,gives_none,gives_ite,then_normal,then_ret,then_exit,then_none,then_ite,Option.bind_none,Bool.not_eq_true',decide_eq_false_iff_not,Bool.and_eq_true,Bool.or_eq_true,Option.some.injEq,Int.not_lt,Int.not_le,lp4_4,hlt]
  exact ⟨oR,T,rfl,rfl,k2,k3⟩
attribute [local go_sem] okRef_tip storable_tip shaped_tip cells_tip isAgg_tip
set_option maxHeartbeats 2000000 in
theorem c4 (a:Int)(ha:Byte a)(zs:List Int)(hz:zs.length=9)(hb: ∀x∈zs,Byte x)(st:St):run L 4 [B8 a,.agg (zs.map B8)] st=some (B true,st):=by
 rw [run_pure (fn:=ir4) rfl rfl]
 unfold Byte at ha
 have hm:=mod_range a 3 (by omega)
 have ht:=Int.tmod_eq_emod_of_nonneg (b:=3) ha.1
 obtain ⟨n,hn⟩:=Int.eq_ofNat_of_zero_le (show 0≤1+a % 3 by omega)
 have hn3:1≤n∧n≤3:=by omega
 have w0:=wrap64 a (by omega) (by omega)
 have w1:IntKind.i64.wrap (1+a % 3)=(n:Int):=by rw [wrap64]<;>omega
 have w2:IntKind.i64.wrap (2*(n:Int))=((2*n:Nat):Int):=by rw [wrap64]<;>omega
 obtain ⟨p,hp,hpat⟩:=pat_of zs
 have hps:=prs_ps hn3.2 hpat
 have hP:=tab_pat hb hn3 hpat
 obtain ⟨f1,f2,f3,f4,f5,f6,f7,f8⟩:=cover_law (k:=n) (p:=p) (by omega) hp
 have htk:(zs.map B8).take 9=zs.map B8:=List.take_of_length_le (by rw [List.length_map];omega)
 have ht0:tabTo zs n 0=[]:=rfl
 have hp0:prsTo zs n 0=[]:=rfl
 simp only [ir4,go_sem,reduceIte,Nat.reduceEqDiff,Nat.reduceAdd,Nat.reduceSub,Nat.reduceLeDiff,Nat.reduceLT,reduceCtorEq,Int.reduceLT,Int.reduceLE,Int.reduceEq,Int.reduceBEq,Int.reduceSub,Int.reduceAdd,Int.reduceMul,Int.reduceNeg,Int.reduceToNat,Nat.reduceMul,Nat.reduceBEq,ht,w0,w1,w2,htk,List.length_map,hz,okRefsB,storableB,pubsB]
 generalize hg:lim (headed pure (run L) true _ lp4_1 _ _) _ _=o
 obtain ⟨x,en,s,rfl,h2⟩: ∃x en s,o=some (x,en,s)∧_:=by rw [←hg];exact loop4_1 n hn3 zs hz hb 0 none none [] ⟨by omega,rfl,rfl,fun i h=>by simp at h⟩ _ _ (by simp only [go_sem,reduceIte,Nat.reduceEqDiff,Nat.reduceAdd,Nat.reduceSub,Nat.reduceLeDiff,Nat.reduceLT,reduceCtorEq,Int.reduceLT,Int.reduceLE,Int.reduceEq,Int.reduceBEq,Int.reduceSub,Int.reduceAdd,Int.reduceMul,Int.reduceNeg,Int.reduceToNat,Nat.reduceMul,Nat.reduceBEq,okRefsB,renCellsB,ht0,hp0,List.map_nil,←tip_start,Int.natCast_zero]<;>rfl)
 clear hg
 obtain ⟨rfl,g5,g7,o6,oP,T,g6,rfl,k6,kP⟩:=h2
 rw [hps] at*
 have hbp:pub (tipX 2 oP ((psP n p n).map prAV))=sl 2 true ((psP n p n).map prAV):=pub_tip 2 oP _ (T:=T) (by simpa using kP)
 have htl:(tabTo zs n n).length=n:=hP.tab.len
 have htb:pub (tipX 1 o6 ((tabTo zs n n).map listAV))=tbAV (tabTo zs n n):=by
  rw [pub_tip 1 o6 _ (T:=T) (by simpa using k6)]
  have hne:(tabTo zs n n).map listAV≠[]:=by
   intro e
   have:=congrArg List.length e
   simp [htl] at this;omega
  rw [sl_ne hne];exact (sl_ne hne).symm
 have hpt:pub (tbAV (tabTo zs n n))=tbAV (tabTo zs n n):=pub_sl _ _ _
 have hbk:pubs [.agg [I (2*n:Nat),tipX 2 oP ((psP n p n).map prAV)]]=pubs [bkAV true (2*n:Nat) (psP n p n)]:=by
  simp only [pubs,pub,hbp,pub_sl]
 have hfV:firstV (2*n:Nat) (psP n p n)=((shAll (2*n) (psP n p n)).1,0):=by unfold firstV;rw [if_pos f1,Int.toNat_natCast]
 have hhV:hv (2*n:Nat) (psP n p n)=(halvesV (2*n) (psP n p n),0):=by unfold hv;rw [if_pos f1,Int.toNat_natCast]
 have h17: ∀st,run L 17 [.agg [I (2*n:Nat),tipX 2 oP ((psP n p n).map prAV)]] st=some (.tup [sl 1 true ((shAll (2*n) (psP n p n)).1.map I),I 0],st):=fun st=>by
  have:=(run_args (fn:=ir17) rfl rfl st hbk).trans (c17 true (2*n:Nat) (psP n p n) st)
  rw [hfV] at this;exact this
 have h18: ∀st,run L 18 [.agg [I (2*n:Nat),tipX 2 oP ((psP n p n).map prAV)]] st=some (.tup [sl 1 true ((halvesV (2*n) (psP n p n)).map I),I 0],st):=fun st=>by
  have:=(run_args (fn:=ir18) rfl rfl st hbk).trans (c18 true (2*n:Nat) (psP n p n) st)
  rw [hhV] at this;exact this
 have h19: ∀st,run L 19 [tipX 1 o6 ((tabTo zs n n).map listAV)] st=some (.tup [I (plansP n p n []),I 0],st):=fun st=>
  (run_args (fn:=ir19) rfl rfl st (by simp only [pubs,htb,hpt])).trans (c19 n p _ hP st)
 obtain ⟨_,hb1,hb2⟩:=c20 n p _ hP ⟨[],[]⟩
 have h20: ∀st,run L 20 [tipX 1 o6 ((tabTo zs n n).map listAV)] st=some (.tup [sl 1 true ((barP n p).1.map I),sl 1 true ((barC n p).map I),I (if (barP n p).1=[] then 13 else 0)],st):=fun st=>
  (run_args (fn:=ir20) rfl rfl st (by simp only [pubs,htb,hpt])).trans (c20 n p _ hP st).1
 have hbC:(barC n p).length≤7:=by unfold barC;split<;>simp [hb2]
 have hrP:=ren_old (tip_lt kP) 2 prAV (psP n p n) T [] kP
 have hTT:T.take T.length=T:=List.take_length
 generalize hW:(shAll (2*n) (psP n p n)).1=W at*
 generalize hV:halvesV (2*n) (psP n p n)=v at*
 have d0:((n:Int)<(W.length:Int))=False:=eq_false (by omega)
 have d1:((v.length:Int)=((2*n:Nat):Int))=True:=eq_true (by omega)
 have wW:IntKind.i64.wrap (2*(W.length:Int))=2*(W.length:Int):=by rw [wrap64]<;>omega
 have d2:((0:Int)+sumL v=2*(W.length:Int))=True:=eq_true (by omega)
 by_cases hk:plansP n p n []=0
 ·have hbn:(barP n p).1≠[]:=fun e=>(f4.2 e) hk
  obtain ⟨f8a,f8b,f8c⟩:=f8 hk
  rw [if_neg hbn] at h20
  have d3:((W.length:Int)=(n:Int))=False:=eq_false (fun e=>(f3.1 (by omega)) hk)
  have d4:(0<((plansP n p n []:Nat):Int))=False:=eq_false (by omega)
  simp only [go_sem,reduceIte,Nat.reduceEqDiff,Nat.reduceAdd,Nat.reduceSub,Nat.reduceLeDiff,Nat.reduceLT,reduceCtorEq,Int.reduceLT,Int.reduceLE,Int.reduceEq,Int.reduceBEq,Int.reduceSub,Int.reduceAdd,Int.reduceMul,Int.reduceNeg,Int.reduceToNat,Nat.reduceMul,Nat.reduceBEq,g5,g6,g7,h17,h18,h19,h20,w2,d0,d1,d3,d4,List.length_map]
  have hCe:barC n p=(barP n p).2:=if_neg hbn
  rw [hCe] at hbC
  generalize hg:lim (headed pure (run L) true _ lp4_2 _ _) _ _=o
  obtain ⟨x,en,s,rfl,h2⟩: ∃x en s,o=some (x,en,s)∧_:=by rw [←hg];exact loop4_2 zs n n (plansP n p n []) 0 W (barP n p).1 (barC n p) v f6 (by omega) oP (psP n p n) T kP 0 0 ⟨by omega,by omega,by omega⟩ _ _ (by simp only [go_sem,reduceIte,Nat.reduceEqDiff,Nat.reduceAdd,Nat.reduceSub,Nat.reduceLeDiff,Nat.reduceLT,reduceCtorEq,Int.reduceLT,Int.reduceLE,Int.reduceEq,Int.reduceBEq,Int.reduceSub,Int.reduceAdd,Int.reduceMul,Int.reduceNeg,Int.reduceToNat,Nat.reduceMul,Nat.reduceBEq,g5,g6,g7,okRefsB,renCellsB,hrP,hTT,List.append_nil,List.map_nil,Int.natCast_zero]<;>rfl)
  clear hg
  rw [List.drop_zero] at h2
  obtain ⟨rfl,y5,y7,y12,y16,y18,y19,y20,y21,rfl⟩:=h2
  simp only [go_sem,reduceIte,Nat.reduceEqDiff,Nat.reduceAdd,Nat.reduceSub,Nat.reduceLeDiff,Nat.reduceLT,reduceCtorEq,Int.reduceLT,Int.reduceLE,Int.reduceEq,Int.reduceBEq,Int.reduceSub,Int.reduceAdd,Int.reduceMul,Int.reduceNeg,Int.reduceToNat,Nat.reduceMul,Nat.reduceBEq,y5,y7,y12,y16,y18,y19,y20,y21,List.length_map,wW,d2,d4]
  generalize hg:lim (headed pure (run L) true _ lp4_3 _ _) _ _=o
  obtain ⟨x,en,s,rfl,h2⟩: ∃x en s,o=some (x,en,s)∧_:=by rw [←hg];exact loop4_3 zs n hn3.2 0 W (barP n p).1 (barC n p) hb1 oP (psP n p n) T.length (tip_lt kP) 0 none [] T ⟨by omega,by simp,by omega,kP,rfl,fun i _=>by simp⟩ _ _ (by simp only [go_sem,reduceIte,Nat.reduceEqDiff,Nat.reduceAdd,Nat.reduceSub,Nat.reduceLeDiff,Nat.reduceLT,reduceCtorEq,Int.reduceLT,Int.reduceLE,Int.reduceEq,Int.reduceBEq,Int.reduceSub,Int.reduceAdd,Int.reduceMul,Int.reduceNeg,Int.reduceToNat,Nat.reduceMul,Nat.reduceBEq,okRefsB,renCellsB,hrP,hTT,List.append_nil,List.map_nil,y5,y7,y12,y16,y18,y19,y20,←tip_start,Int.natCast_zero]<;>rfl)
  clear hg
  obtain ⟨rfl,t5,t7,t12,t19,t20,oR,T2,t24,rfl,kP2,kR2,ka2⟩:=h2
  rw [List.nil_append] at t24 kR2
  have hrl:(rowsL (barP n p).1 0 n).length≤3:=by
   unfold rowsL
   rw [List.length_map]
   exact Nat.le_trans (List.length_filter_le _ _) (by simp;omega)
  have hrP2:=ren_old (tip_lt kP2) 2 prAV (psP n p n) T2 [] kP2
  have hrR2:=ren_old (tip_lt kR2) 1 I (rowsL (barP n p).1 0 n) T2 [] kR2
  have hTT2:T2.take T2.length=T2:=List.take_length
  simp only [go_sem,reduceIte,Nat.reduceEqDiff,Nat.reduceAdd,Nat.reduceSub,Nat.reduceLeDiff,Nat.reduceLT,reduceCtorEq,Int.reduceLT,Int.reduceLE,Int.reduceEq,Int.reduceBEq,Int.reduceSub,Int.reduceAdd,Int.reduceMul,Int.reduceNeg,Int.reduceToNat,Nat.reduceMul,Nat.reduceBEq,t5,t7,t12,t19,t20,t24]
  generalize hg:lim (headed pure (run L) true _ lp4_4 _ _) _ _=o
  obtain ⟨x,en,s,rfl,h2⟩: ∃x en s,o=some (x,en,s)∧_:=by rw [←hg];exact loop4_4 zs n hn3.2 0 W (barC n p) (by rw [hCe];exact hb2) oP (psP n p n) T2.length (tip_lt kP2) 0 oR (rowsL (barP n p).1 0 n) T2 ⟨by omega,by omega,by omega,kP2,kR2,ka2⟩ _ _ (by simp only [go_sem,reduceIte,Nat.reduceEqDiff,Nat.reduceAdd,Nat.reduceSub,Nat.reduceLeDiff,Nat.reduceLT,reduceCtorEq,Int.reduceLT,Int.reduceLE,Int.reduceEq,Int.reduceBEq,Int.reduceSub,Int.reduceAdd,Int.reduceMul,Int.reduceNeg,Int.reduceToNat,Nat.reduceMul,Nat.reduceBEq,okRefsB,renCellsB,hrP2,hrR2,hTT2,List.append_nil,List.map_nil,t5,t7,t12,t19,t20,t24,Int.natCast_zero]<;>rfl)
  clear hg
  obtain ⟨rfl,x5,x7,x12,x20,oR3,T3,x24,rfl,kP3,kR3⟩:=h2
  rw [hCe,←rest_eq] at x24 kR3
  have hbp3:pub (tipX 2 oP ((psP n p n).map prAV))=sl 2 true ((psP n p n).map prAV):=hbp
  have hbr3:pub (tipX 1 oR3 ((restP n (barP n p).1 (barP n p).2).map I))=sl 1 true ((restP n (barP n p).1 (barP n p).2).map I):=pub_tip 1 oR3 _ (T:=T3) (by simpa using kR3)
  generalize restP n (barP n p).1 (barP n p).2=rest at*
  have h22: ∀st,run L 22 [.agg [I (2*n:Nat),tipX 2 oP ((psP n p n).map prAV)],tipX 1 oR3 (rest.map I)] st=some (I 0,st):=fun st=>by
   have:=(run_args (fn:=ir22) rfl rfl st (args:=[.agg [I (2*n:Nat),tipX 2 oP ((psP n p n).map prAV)],tipX 1 oR3 (rest.map I)]) (args':=[bkAV true (2*n:Nat) (psP n p n),sl 1 true (rest.map I)]) (by simp only [pubs,pub,hbp,hbr3,pub_sl])).trans (c22 true true (2*n:Nat) (psP n p n) rest (by omega) st)
   rw [f8a] at this;exact this
  have e1:((rest.length:Int)<(n:Int))=True:=eq_true (by omega)
  have e2:((W.length:Int)≤(rest.length:Int))=True:=eq_true (by omega)
  have hlr:lenAV (tipX 1 oR3 (rest.map I))=some (I rest.length):=by
   cases oR3 with
   |none=>
    have:rest=[]:=List.eq_nil_of_length_eq_zero kR3
    subst this;rfl
   |some i=>simp [tipX,lenAV];rfl
  simp only [go_sem,reduceIte,Nat.reduceEqDiff,Nat.reduceAdd,Nat.reduceSub,Nat.reduceLeDiff,Nat.reduceLT,reduceCtorEq,Int.reduceLT,Int.reduceLE,Int.reduceEq,Int.reduceBEq,Int.reduceSub,Int.reduceAdd,Int.reduceMul,Int.reduceNeg,Int.reduceToNat,Nat.reduceMul,Nat.reduceBEq,x5,x7,x12,x20,x24,h22,hlr,e1,e2,c16,List.length_map]
 ·have hbn:(barP n p).1=[]:=f4.1 hk
  rw [if_pos hbn] at h20
  have d3:((W.length:Int)=(n:Int))=True:=eq_true (by have:=f3.2 hk;omega)
  have d4:(0<((plansP n p n []:Nat):Int))=True:=eq_true (by omega)
  simp only [go_sem,reduceIte,Nat.reduceEqDiff,Nat.reduceAdd,Nat.reduceSub,Nat.reduceLeDiff,Nat.reduceLT,reduceCtorEq,Int.reduceLT,Int.reduceLE,Int.reduceEq,Int.reduceBEq,Int.reduceSub,Int.reduceAdd,Int.reduceMul,Int.reduceNeg,Int.reduceToNat,Nat.reduceMul,Nat.reduceBEq,g5,g6,g7,h17,h18,h19,h20,w2,d0,d1,d3,d4,List.length_map]
  generalize hg:lim (headed pure (run L) true _ lp4_2 _ _) _ _=o
  obtain ⟨x,en,s,rfl,h2⟩: ∃x en s,o=some (x,en,s)∧_:=by rw [←hg];exact loop4_2 zs n n (plansP n p n []) 13 W (barP n p).1 (barC n p) v f6 (by omega) oP (psP n p n) T kP 0 0 ⟨by omega,by omega,by omega⟩ _ _ (by simp only [go_sem,reduceIte,Nat.reduceEqDiff,Nat.reduceAdd,Nat.reduceSub,Nat.reduceLeDiff,Nat.reduceLT,reduceCtorEq,Int.reduceLT,Int.reduceLE,Int.reduceEq,Int.reduceBEq,Int.reduceSub,Int.reduceAdd,Int.reduceMul,Int.reduceNeg,Int.reduceToNat,Nat.reduceMul,Nat.reduceBEq,g5,g6,g7,okRefsB,renCellsB,hrP,hTT,List.append_nil,List.map_nil,Int.natCast_zero]<;>rfl)
  clear hg
  rw [List.drop_zero] at h2
  obtain ⟨rfl,y5,y7,y12,y16,y18,y19,y20,y21,rfl⟩:=h2
  simp only [go_sem,reduceIte,Nat.reduceEqDiff,Nat.reduceAdd,Nat.reduceSub,Nat.reduceLeDiff,Nat.reduceLT,reduceCtorEq,Int.reduceLT,Int.reduceLE,Int.reduceEq,Int.reduceBEq,Int.reduceSub,Int.reduceAdd,Int.reduceMul,Int.reduceNeg,Int.reduceToNat,Nat.reduceMul,Nat.reduceBEq,y5,y7,y12,y16,y18,y19,y20,y21,List.length_map,wW,d2,d4,c16]
end Go.Proofs.YtdnjagnechibhaaGreatDoor.Vm
namespace Go.Proofs.YtdnjagnechibhaaGreatDoor.Vm
open Go Go.Ev Go.ChangeShapes Go.WideShapes Go.ChangeAt Go.RowKit
set_option maxRecDepth 100000
attribute [local go_sem] cells_any storable_any ren1_any shaped_ptr cells_ptr storable_ptr ren1_ptr shaped_eptr cells_eptr storable_eptr ren1_eptr shaped_rsl cells_rsl storable_rsl ren1_rsl shaped_int cells_int storable_int ren1_int shaped_bool cells_bool storable_bool ren1_bool shaped_nils cells_nils storable_nils ren1_nils shaped_lst cells_lst storable_lst shaped_fn cells_fn storable_fn ren1_fn shaped_ifc cells_ifc storable_ifc ren1_ifc shaped_agg cells_agg storable_agg ren1_agg shaped_tup cells_tup storable_tup ren1_tup shaped_nif cells_nif storable_nif ren1_nif ren1_lany ren1_lfull ren1_lown len_lst len_rsl len_nil load_ptr load_eptr isRsl_lst isRsl_nil isRsl_rsl elems_nil elems_lst elems_sl isRsl_sl body_eq bodyK_normal bodyK_ret resK_some leaveK_some only_some code_skip code_exit code_ret code_ops code_seq code_cond code_block seqK_normal seqK_ret seqK_exit condK_true condK_false blockK_normal blockK_ret blockK_exit opsK_some ops_nil ops_cons wantK_true wantK_false stepK_some pubs pub pub_sl params okRef_loc storable_loc shaped_loc cells_loc isRsl_loc elems_loc len_loc untips untip untip_sl wantedAV setElems withO isAgg_v isAgg_agg isAgg_lst isAgg_ptr isAgg_fn isAgg_ifc isAgg_rsl isAgg_sl isAgg_loc List.replicate_succ List.replicate_zero opAV valAV aval avals ofVal Env.get setD canon gcAV renAll renEnv renStore renCells ren1_sl cutSt okEnv okStore okRefs okRef okRef_sl bin_int bin_bool bin_lst bin_rsl bin_nil bin_agg cellsEq cellEq isShift intOp boolOp min_int max_int beq_int bne resAV tupAV leave_eq fin_sl fin_loc fins fin_v fin_lst fin_agg fin_tup fin_fn storeAV readCells putCells cells_sl shaped_sl storable_sl fieldAddrAV len_sl goI List.getElem?_cons_zero List.getElem?_cons_succ List.getElem?_nil Option.bind_some Option.map_some List.length_cons List.length_nil List.all_cons List.all_nil Bool.and_true Bool.true_and Bool.and_false Bool.false_and and_true true_and and_false false_and Bool.false_eq_true List.set_cons_zero List.set_cons_succ List.append_nil List.nil_append List.cons_append List.take_zero List.take_succ_cons List.take_nil List.drop_zero List.drop_succ_cons List.map_cons List.map_nil decide_true decide_false beq_self_eq_true Bool.not_true Bool.not_false or_true true_or or_false false_or Nat.zero_add Nat.add_zero Nat.le_refl Nat.lt_irrefl decide_eq_true_eq eq_self_iff_true not_true_eq_false not_false_eq_true List.getD_cons_zero code_loop Nat.zero_le Nat.not_lt_zero Bool.true_beq Bool.false_beq beq_true beq_false ge_iff_le gt_iff_lt keepR keepT ownTop Lpure pus Option.map_none assert_ifc assert_nil idxA_ptr idxA_eptr idxV_agg Int.cast_ofNat_Int Nat.mul_one Nat.zero_mul Int.toNat_natCast Int.toNat_zero setParts withO2 hasKey eqnil_sl nenil_sl eqnil_loc nenil_loc map_nil_iff okRefs_ints renCells_ints
theorem cells5:Tryz.prog.cellsOf 5=1:=by kernel_rfl
theorem cells41:Tryz.prog.cellsOf 41=9:=by kernel_rfl
theorem one_byte {d:Nat} {bs:List AV} (h:Sh Tryz.prog (d+1) 5 bs): ∃n:Int,bs=[B8 n]∧Byte n:=by
 simp only [Sh,Tryz.underlying5] at h
 obtain ⟨n,h1,h2⟩:=h
 have hb:=bounds_u8 h2
 exact ⟨n,h1,by unfold Byte;omega⟩
theorem all_bytes: ∀(k:Nat) (bs:List AV),bs.length=k→(∀i,i<k→∃n:Int,(bs.drop i).take 1=[B8 n]∧Byte n)→∃zs:List Int,bs=zs.map B8∧zs.length=k∧∀n∈zs,Byte n
 |0,bs,hl,_=>⟨[],by simpa using hl,rfl,by simp⟩
 |k+1,b::bs,hl,h=>by
  obtain ⟨n,h1,h2⟩:=h 0 (by omega)
  simp only [List.drop_zero,List.take_succ_cons,List.take_zero,List.cons.injEq,and_true] at h1
  obtain ⟨zs,g1,g2,g3⟩:=all_bytes k bs (by simpa using hl) (fun i hi=>by
   obtain ⟨x,q1,q2⟩:=h (i+1) (by omega)
   exact ⟨x,by simpa using q1,q2⟩)
  refine ⟨n::zs,by rw [List.map_cons,←h1,←g1],by simp [g2],fun x hx=> ?_⟩
  rw [List.mem_cons] at hx
  rcases hx with rfl|hx
  ·exact h2
  ·exact g3 x hx
theorem sh_nine {a:AV} (h:ShV Tryz.prog 8 41 a): ∃zs:List Int,a=.agg (zs.map B8)∧zs.length=9∧∀n∈zs,Byte n:=by
 unfold ShV at h
 rw [if_pos (by unfold aggB;rw [Tryz.underlying41])] at h
 obtain ⟨cs,rfl,hs⟩:=h
 unfold Sh at hs
 simp only [Tryz.underlying41,cells41,cells5] at hs
 obtain ⟨zs,h1,h2,h3⟩:=all_bytes 9 cs (by omega) (fun i hi=>by
  have:=hs.2 i hi
  rw [Nat.mul_one] at this
  exact one_byte this)
 exact ⟨zs,by rw [h1],h2,h3⟩
theorem sh_byte {a:AV} (h:ShV Tryz.prog 8 5 a): ∃n:Int,a=B8 n∧Byte n:=by
 unfold ShV at h
 rw [if_neg (by unfold aggB;rw [Tryz.underlying5];simp)] at h
 obtain ⟨n,h1,h2⟩:=one_byte h
 simp only [List.cons.injEq,and_true] at h1
 exact ⟨n,h1,h2⟩
end Go.Proofs.YtdnjagnechibhaaGreatDoor.Vm
