/- What is proved: what each function of this program computes, as equations on the evaluator. No condition. -/
import Derived.Test.YtdnjagnechibhaaGreatDoorLib
import Derived.Test.YtdnjagnechibhaaGreatDoorSy
import Derived.KernelRfl
set_option linter.all false
namespace Go.Proofs.YtdnjagnechibhaaGreatDoor.Vm
open Go Go.Ev
set_option maxRecDepth 100000
attribute [local go_sem] cells_any storable_any ren1_any shaped_ptr cells_ptr storable_ptr ren1_ptr shaped_eptr cells_eptr storable_eptr ren1_eptr shaped_rsl cells_rsl storable_rsl ren1_rsl shaped_int cells_int storable_int ren1_int shaped_bool cells_bool storable_bool ren1_bool shaped_nils cells_nils storable_nils ren1_nils shaped_lst cells_lst storable_lst shaped_fn cells_fn storable_fn ren1_fn shaped_ifc cells_ifc storable_ifc ren1_ifc shaped_agg cells_agg storable_agg ren1_agg shaped_tup cells_tup storable_tup ren1_tup shaped_nif cells_nif storable_nif ren1_nif ren1_lany ren1_lfull ren1_lown len_lst len_rsl len_nil load_ptr load_eptr isRsl_lst isRsl_nil isRsl_rsl elems_nil elems_lst elems_sl isRsl_sl body_eq bodyK_normal bodyK_ret resK_some leaveK_some only_some code_skip code_exit code_ret code_ops code_seq code_cond code_block seqK_normal seqK_ret seqK_exit condK_true condK_false blockK_normal blockK_ret blockK_exit opsK_some ops_nil ops_cons wantK_true wantK_false stepK_some pubs pub pub_sl params okRef_loc storable_loc shaped_loc cells_loc isRsl_loc elems_loc len_loc untips untip untip_sl wantedAV setElems withO isAgg_v isAgg_agg isAgg_lst isAgg_ptr isAgg_fn isAgg_ifc isAgg_rsl isAgg_sl isAgg_loc List.replicate_succ List.replicate_zero opAV valAV aval avals ofVal Env.get setD canon gcAV renAll renEnv renStore renCells ren1_sl cutSt okEnv okStore okRefs okRef okRef_sl bin_int bin_bool bin_lst bin_rsl bin_nil bin_agg cellsEq cellEq isShift intOp boolOp min_int max_int beq_int bne resAV tupAV leave_eq fin_sl fin_loc fins fin_v fin_lst fin_agg fin_tup fin_fn storeAV readCells putCells cells_sl shaped_sl storable_sl fieldAddrAV len_sl goI List.getElem?_cons_zero List.getElem?_cons_succ List.getElem?_nil Option.bind_some Option.map_some List.length_cons List.length_nil List.all_cons List.all_nil Bool.and_true Bool.true_and Bool.and_false Bool.false_and and_true true_and and_false false_and Bool.false_eq_true List.set_cons_zero List.set_cons_succ List.append_nil List.nil_append List.cons_append List.take_zero List.take_succ_cons List.take_nil List.drop_zero List.drop_succ_cons List.map_cons List.map_nil decide_true decide_false beq_self_eq_true Bool.not_true Bool.not_false or_true true_or or_false false_or Nat.zero_add Nat.add_zero Nat.le_refl Nat.lt_irrefl decide_eq_true_eq eq_self_iff_true not_true_eq_false not_false_eq_true List.getD_cons_zero code_loop Nat.zero_le Nat.not_lt_zero Bool.true_beq Bool.false_beq beq_true beq_false ge_iff_le gt_iff_lt keepR keepT ownTop Lpure pus Option.map_none assert_ifc assert_nil idxA_ptr idxA_eptr idxV_agg Int.cast_ofNat_Int Nat.mul_one Nat.zero_mul Int.toNat_natCast Int.toNat_zero setParts withO2 hasKey eqnil_sl nenil_sl eqnil_loc nenil_loc map_nil_iff okRefs_ints renCells_ints
abbrev prAV (a:Int×Int):AV:=.agg [I a.1,I a.2]
abbrev bkAV (nl:Bool) (n:Int) (ps:List (Int×Int)):AV:=.agg [I n,sl 2 nl (ps.map prAV)]
abbrev bkCells (nl:Bool) (n:Int) (ps:List (Int×Int)):List AV:=[I n,sl 2 nl (ps.map prAV)]
theorem succ64 (i:Nat)(h:i<1000000):IntKind.i64.wrap ((i:Int)+1)=((i+1:Nat):Int):=by
 rw [wrap64]<;>omega
theorem index_prs (nl:Bool)(ps:List (Int×Int))(i:Nat)(h:i<ps.length):indexSAV 2 (sl 2 nl (ps.map prAV)) (.v (.int .i64 i))=some (.eptr (.agg [.v (.int .i64 ps[i].1),.v (.int .i64 ps[i].2)]) 0):=by
 rw [index_sl _ _ _ _ _ (by omega) (by simpa using h)]
 simp
theorem index_ints (nl:Bool)(l:List Int)(i:Nat)(h:i<l.length):indexSAV 1 (sl 1 nl (l.map I)) (.v (.int .i64 i))=some (.eptr (I l[i]) 0):=by
 rw [index_sl _ _ _ _ _ (by omega) (by simpa using h)]
 simp
theorem slice_prs (nl:Bool)(ps:List (Int×Int))(i:Nat)(h:i<ps.length):sliceAV 2 (sl 2 nl (ps.map prAV)) none (some (.v (.int .i64 i))) none=some (sl 2 false ((ps.take i).map prAV)):=by
 have e:sl 2 nl (ps.map prAV)=.lst .any 2 (ps.map prAV):=by
  unfold sl;rw [if_neg];rintro ⟨_,h2⟩
  simp at h2;subst h2;simp at h
 rw [e]
 simp [sliceAV,natOr,natOf,tagSlice,sl,List.map_take]
 omega
theorem loop162 (nl:Bool)(ps:List (Int×Int))(hlen:ps.length<1000000)(p q:Int)(i:Nat)(hok:i≤ps.length)(env:Env)(st:St)
  (hg:gcAV true 1 0 (canon env [0,3,7,8]) st=([(0,sl 2 nl (ps.map prAV)),(3,.ptr 0 0),(7,I ps.length),(8,I i)],⟨[[I p,I q]],[]⟩)):
  ∃x_1 en s,lim (headed pure (run L) true [0,3,7,8] lp162_0 1 0) env st=some (x_1,en,s)∧(if (p,q)∈ps.drop i then x_1=.ret∧∃k:Int,0≤k∧en.get 4=I k else x_1=.exit 0):=by
 refine loop_wp (α:=Nat) (fun i=>ps.length-i) (fun i=>i≤ps.length) (fun i=>([(0,sl 2 nl (ps.map prAV)),(3,.ptr 0 0),(7,I ps.length),(8,I i)],⟨[[I p,I q]],[]⟩)) (fun i x_1 en s=>if (p,q)∈ps.drop i then x_1=.ret∧∃k:Int,0≤k∧en.get 4=I k else x_1=.exit 0) (fun i hok=> ?_) i hok env st hg
 by_cases h:i<ps.length
 ·have hx:=index_prs nl ps i h
  have hs:=succ64 i (by omega)
  have hd:ps.drop i=ps[i]::ps.drop (i+1):=List.drop_eq_getElem_cons h
  rw [hd]
  generalize ps[i]=a at*
  obtain ⟨u,v⟩:=a
  have hlt:((i:Int)<(ps.length:Int))=True:=eq_true (by omega)
  simp only at hx
  by_cases e1:p=u
  ·by_cases e2:q=v
   ·subst e1;subst e2
    simp only [go_sem,reduceIte,Nat.reduceEqDiff,Nat.reduceAdd,Nat.reduceSub,Nat.reduceLeDiff,Nat.reduceLT,reduceCtorEq,Int.reduceLT,Int.reduceLE,Int.reduceEq,Int.reduceBEq,Int.reduceSub,Int.reduceAdd,Int.reduceMul,Int.reduceNeg,Int.reduceToNat,Nat.reduceMul,Nat.reduceBEq,index_rsl_if,setm,make_ints,condK_dec,wantK_dec,not_dec,and_dec,or_dec,seqK_ite,seqK_none,blockK_ite,blockK_none,opsK_ite,opsK_none,stepK_ite,stepK_none,bodyK_ite,bodyK_none,resK_ite,resK_none,leaveK_ite,leaveK_none,only_ite,only_none,bind_ite,gives_some,gives_none,gives_ite,then_normal,then_ret,then_exit,then_none,then_ite,Option.bind_none,Bool.not_eq_true',decide_eq_false_iff_not,Bool.and_eq_true,Bool.or_eq_true,Option.some.injEq,Int.not_lt,Int.not_le,lp162_0,hx,hlt]
    rw [if_pos (by simp)]
    exact ⟨(i:Int),by omega,rfl⟩
   ·simp only [go_sem,reduceIte,Nat.reduceEqDiff,Nat.reduceAdd,Nat.reduceSub,Nat.reduceLeDiff,Nat.reduceLT,reduceCtorEq,Int.reduceLT,Int.reduceLE,Int.reduceEq,Int.reduceBEq,Int.reduceSub,Int.reduceAdd,Int.reduceMul,Int.reduceNeg,Int.reduceToNat,Nat.reduceMul,Nat.reduceBEq,index_rsl_if,setm,make_ints,condK_dec,wantK_dec,not_dec,and_dec,or_dec,seqK_ite,seqK_none,blockK_ite,blockK_none,opsK_ite,opsK_none,stepK_ite,stepK_none,bodyK_ite,bodyK_none,resK_ite,resK_none,leaveK_ite,leaveK_none,only_ite,only_none,bind_ite,gives_some,gives_none,gives_ite,then_normal,then_ret,then_exit,then_none,then_ite,Option.bind_none,Bool.not_eq_true',decide_eq_false_iff_not,Bool.and_eq_true,Bool.or_eq_true,Option.some.injEq,Int.not_lt,Int.not_le,lp162_0,hx,hlt,e1,e2,hs]
    refine ⟨i+1,by simp only [go_sem,reduceIte,Nat.reduceEqDiff,Nat.reduceAdd,Nat.reduceSub,Nat.reduceLeDiff,Nat.reduceLT,reduceCtorEq,Int.reduceLT,Int.reduceLE,Int.reduceEq,Int.reduceBEq,Int.reduceSub,Int.reduceAdd,Int.reduceMul,Int.reduceNeg,Int.reduceToNat,Nat.reduceMul,Nat.reduceBEq,ren1_locm,loc_tips,locT_eq]<;>rfl,?_,?_,fun x en s hq=> ?_⟩
    ·omega
    ·omega
    ·simp only [List.mem_cons,Prod.mk.injEq,e2,and_false,false_or];exact hq
  ·simp only [go_sem,reduceIte,Nat.reduceEqDiff,Nat.reduceAdd,Nat.reduceSub,Nat.reduceLeDiff,Nat.reduceLT,reduceCtorEq,Int.reduceLT,Int.reduceLE,Int.reduceEq,Int.reduceBEq,Int.reduceSub,Int.reduceAdd,Int.reduceMul,Int.reduceNeg,Int.reduceToNat,Nat.reduceMul,Nat.reduceBEq,index_rsl_if,setm,make_ints,condK_dec,wantK_dec,not_dec,and_dec,or_dec,seqK_ite,seqK_none,blockK_ite,blockK_none,opsK_ite,opsK_none,stepK_ite,stepK_none,bodyK_ite,bodyK_none,resK_ite,resK_none,leaveK_ite,leaveK_none,only_ite,only_none,bind_ite,gives_some,gives_none,gives_ite,then_normal,then_ret,then_exit,then_none,then_ite,Option.bind_none,Bool.not_eq_true',decide_eq_false_iff_not,Bool.and_eq_true,Bool.or_eq_true,Option.some.injEq,Int.not_lt,Int.not_le,lp162_0,hx,hlt,e1,hs]
   refine ⟨i+1,by simp only [go_sem,reduceIte,Nat.reduceEqDiff,Nat.reduceAdd,Nat.reduceSub,Nat.reduceLeDiff,Nat.reduceLT,reduceCtorEq,Int.reduceLT,Int.reduceLE,Int.reduceEq,Int.reduceBEq,Int.reduceSub,Int.reduceAdd,Int.reduceMul,Int.reduceNeg,Int.reduceToNat,Nat.reduceMul,Nat.reduceBEq,ren1_locm,loc_tips,locT_eq]<;>rfl,?_,?_,fun x en s hq=> ?_⟩
   ·omega
   ·omega
   ·simp only [List.mem_cons,Prod.mk.injEq,e1,false_and,false_or];exact hq
 ·have hd:ps.drop i=[]:=List.drop_eq_nil_of_le (by omega)
  have hlt:((i:Int)<(ps.length:Int))=False:=eq_false (by omega)
  simp only [go_sem,reduceIte,Nat.reduceEqDiff,Nat.reduceAdd,Nat.reduceSub,Nat.reduceLeDiff,Nat.reduceLT,reduceCtorEq,Int.reduceLT,Int.reduceLE,Int.reduceEq,Int.reduceBEq,Int.reduceSub,Int.reduceAdd,Int.reduceMul,Int.reduceNeg,Int.reduceToNat,Nat.reduceMul,Nat.reduceBEq,index_rsl_if,setm,make_ints,condK_dec,wantK_dec,not_dec,and_dec,or_dec,seqK_ite,seqK_none,blockK_ite,blockK_none,opsK_ite,opsK_none,stepK_ite,stepK_none,bodyK_ite,bodyK_none,resK_ite,resK_none,leaveK_ite,leaveK_none,only_ite,only_none,bind_ite,gives_some,gives_none,gives_ite,then_normal,then_ret,then_exit,then_none,then_ite,Option.bind_none,Bool.not_eq_true',decide_eq_false_iff_not,Bool.and_eq_true,Bool.or_eq_true,Option.some.injEq,Int.not_lt,Int.not_le,lp162_0,hlt]
  rw [hd];simp
theorem c121 (nl:Bool)(ps:List (Int×Int))(hlen:ps.length<1000000)(p q:Int)(st:St):
  run L 121 [sl 2 nl (ps.map prAV),.agg [I p,I q]] st=some (B (decide ((p,q)∈ps)),st):=by
 have h106: ∀st,∃k:Int,run L 162 [sl 2 nl (ps.map prAV),.agg [I p,I q]] st=some (I k,st)∧(0≤k↔(p,q)∈ps):=by
  intro st
  rw [run_pure (fn:=ir162) rfl rfl]
  simp only [ir162,go_sem,reduceIte,Nat.reduceEqDiff,Nat.reduceAdd,Nat.reduceSub,Nat.reduceLeDiff,Nat.reduceLT,reduceCtorEq,Int.reduceLT,Int.reduceLE,Int.reduceEq,Int.reduceBEq,Int.reduceSub,Int.reduceAdd,Int.reduceMul,Int.reduceNeg,Int.reduceToNat,Nat.reduceMul,Nat.reduceBEq,List.length_map]
  generalize hg:lim (headed pure (run L) true _ lp162_0 _ _) _ _=o
  obtain ⟨x,en,s,rfl,h2⟩: ∃x en s,o=some (x,en,s)∧_:=by rw [←hg];exact loop162 nl ps hlen p q 0 (by omega) _ _ (by simp only [go_sem,reduceIte,Nat.reduceEqDiff,Nat.reduceAdd,Nat.reduceSub,Nat.reduceLeDiff,Nat.reduceLT,reduceCtorEq,Int.reduceLT,Int.reduceLE,Int.reduceEq,Int.reduceBEq,Int.reduceSub,Int.reduceAdd,Int.reduceMul,Int.reduceNeg,Int.reduceToNat,Nat.reduceMul,Nat.reduceBEq]<;>rfl)
  clear hg
  rw [List.drop_zero] at h2
  by_cases h:(p,q)∈ps
  ·rw [if_pos h] at h2
   obtain ⟨rfl,k,hk,h3⟩:=h2
   exact ⟨k,by simp only [go_sem,reduceIte,Nat.reduceEqDiff,Nat.reduceAdd,Nat.reduceSub,Nat.reduceLeDiff,Nat.reduceLT,reduceCtorEq,Int.reduceLT,Int.reduceLE,Int.reduceEq,Int.reduceBEq,Int.reduceSub,Int.reduceAdd,Int.reduceMul,Int.reduceNeg,Int.reduceToNat,Nat.reduceMul,Nat.reduceBEq,h3],by simp [h,hk]⟩
  ·rw [if_neg h] at h2
   subst h2
   exact ⟨-1,by simp only [go_sem,reduceIte,Nat.reduceEqDiff,Nat.reduceAdd,Nat.reduceSub,Nat.reduceLeDiff,Nat.reduceLT,reduceCtorEq,Int.reduceLT,Int.reduceLE,Int.reduceEq,Int.reduceBEq,Int.reduceSub,Int.reduceAdd,Int.reduceMul,Int.reduceNeg,Int.reduceToNat,Nat.reduceMul,Nat.reduceBEq],by simp [h]⟩
 rw [run_pure (fn:=ir121) rfl rfl]
 obtain ⟨k,h1,h2⟩:=h106 ⟨[[I p,I q]],[]⟩
 simp only [ir121,go_sem,reduceIte,Nat.reduceEqDiff,Nat.reduceAdd,Nat.reduceSub,Nat.reduceLeDiff,Nat.reduceLT,reduceCtorEq,Int.reduceLT,Int.reduceLE,Int.reduceEq,Int.reduceBEq,Int.reduceSub,Int.reduceAdd,Int.reduceMul,Int.reduceNeg,Int.reduceToNat,Nat.reduceMul,Nat.reduceBEq,h1,h2]
def prErr (n:Int) (seen:List (Int×Int)) (p:Int×Int):Int:=if p.1<0∨p.2<0∨n≤p.1∨n≤p.2 then 2 else if p.2≤p.1 then 7 else if p∈seen then 6 else 0
def prsErr (n:Int):List (Int×Int)→List (Int×Int)→Int
 |_,[]=>0
 |seen,p::r=>if prErr n seen p=0 then prsErr n (seen++ [p]) r else prErr n seen p
def chk (n:Int) (ps:List (Int×Int)):Int:=if n<1∨7<n then 1 else if 10<ps.length then 3 else prsErr n [] ps
theorem loop61 (nl:Bool)(n:Int)(hn:1≤n∧n≤7)(ps:List (Int×Int))(hlen:ps.length≤10)(i:Nat)(hok:i≤ps.length)(env:Env)(st:St)
  (hg:gcAV true 1 0 (canon env [1,20,21,22]) st=([(1,.ptr 0 0),(20,sl 2 nl (ps.map prAV)),(21,I ps.length),(22,I i)],⟨[bkCells nl n ps],[]⟩)):
  ∃x_1 en s,lim (headed pure (run L) true [1,20,21,22] lp61_0 1 0) env st=some (x_1,en,s)∧(if prsErr n (ps.take i) (ps.drop i)=0 then x_1=.exit 1 else x_1=.ret∧en.get 2=I (prsErr n (ps.take i) (ps.drop i))):=by
 refine loop_wp (α:=Nat) (fun i=>ps.length-i) (fun i=>i≤ps.length) (fun i=>([(1,.ptr 0 0),(20,sl 2 nl (ps.map prAV)),(21,I ps.length),(22,I i)],⟨[bkCells nl n ps],[]⟩)) (fun i x_1 en s=>if prsErr n (ps.take i) (ps.drop i)=0 then x_1=.exit 1 else x_1=.ret∧en.get 2=I (prsErr n (ps.take i) (ps.drop i))) (fun i hok=> ?_) i hok env st hg
 by_cases h:i<ps.length
 ·have hx:=index_prs nl ps i h
  have hs:=succ64 i (by omega)
  have hd:ps.drop i=ps[i]::ps.drop (i+1):=List.drop_eq_getElem_cons h
  have ht:ps.take (i+1)=ps.take i++ [ps[i]]:=by rw [List.take_succ_eq_append_getElem h]
  have hsl:=slice_prs nl ps i h
  have h76:=fun p q st=>c121 false (ps.take i) (by rw [List.length_take];omega) p q st
  rw [hd]
  generalize ps[i]=c at*
  obtain ⟨u,v⟩:=c
  have hlt:((i:Int)<(ps.length:Int))=True:=eq_true (by omega)
  simp only at hx
  have hmn:(if v<u then v else u)=min u v:=by rw [Int.min_def];split<;>split<;>omega
  have hmx:(if u<v then v else u)=max u v:=by rw [Int.max_def];split<;>split<;>omega
  by_cases p1:min u v<0
  ·have he:prErr n (ps.take i) (u,v)=2:=by unfold prErr;simp only;rw [if_pos (by omega)]
   simp only [go_sem,reduceIte,Nat.reduceEqDiff,Nat.reduceAdd,Nat.reduceSub,Nat.reduceLeDiff,Nat.reduceLT,reduceCtorEq,Int.reduceLT,Int.reduceLE,Int.reduceEq,Int.reduceBEq,Int.reduceSub,Int.reduceAdd,Int.reduceMul,Int.reduceNeg,Int.reduceToNat,Nat.reduceMul,Nat.reduceBEq,index_rsl_if,setm,make_ints,condK_dec,wantK_dec,not_dec,and_dec,or_dec,seqK_ite,seqK_none,blockK_ite,blockK_none,opsK_ite,opsK_none,stepK_ite,stepK_none,bodyK_ite,bodyK_none,resK_ite,resK_none,leaveK_ite,leaveK_none,only_ite,only_none,bind_ite,gives_some,gives_none,gives_ite,then_normal,then_ret,then_exit,then_none,then_ite,Option.bind_none,Bool.not_eq_true',decide_eq_false_iff_not,Bool.and_eq_true,Bool.or_eq_true,Option.some.injEq,Int.not_lt,Int.not_le,lp61_0,hx,hlt,p1,hmn,hmx,List.length_map]
   simp [prsErr,he]
  by_cases p1b:n≤max u v
  ·have he:prErr n (ps.take i) (u,v)=2:=by unfold prErr;simp only;rw [if_pos (by omega)]
   simp only [go_sem,reduceIte,Nat.reduceEqDiff,Nat.reduceAdd,Nat.reduceSub,Nat.reduceLeDiff,Nat.reduceLT,reduceCtorEq,Int.reduceLT,Int.reduceLE,Int.reduceEq,Int.reduceBEq,Int.reduceSub,Int.reduceAdd,Int.reduceMul,Int.reduceNeg,Int.reduceToNat,Nat.reduceMul,Nat.reduceBEq,index_rsl_if,setm,make_ints,condK_dec,wantK_dec,not_dec,and_dec,or_dec,seqK_ite,seqK_none,blockK_ite,blockK_none,opsK_ite,opsK_none,stepK_ite,stepK_none,bodyK_ite,bodyK_none,resK_ite,resK_none,leaveK_ite,leaveK_none,only_ite,only_none,bind_ite,gives_some,gives_none,gives_ite,then_normal,then_ret,then_exit,then_none,then_ite,Option.bind_none,Bool.not_eq_true',decide_eq_false_iff_not,Bool.and_eq_true,Bool.or_eq_true,Option.some.injEq,Int.not_lt,Int.not_le,lp61_0,hx,hlt,p1,p1b,hmn,hmx,List.length_map]
   simp [prsErr,he]
  by_cases p2:v≤u
  ·have he:prErr n (ps.take i) (u,v)=7:=by unfold prErr;simp only;rw [if_neg (by omega),if_pos p2]
   simp only [go_sem,reduceIte,Nat.reduceEqDiff,Nat.reduceAdd,Nat.reduceSub,Nat.reduceLeDiff,Nat.reduceLT,reduceCtorEq,Int.reduceLT,Int.reduceLE,Int.reduceEq,Int.reduceBEq,Int.reduceSub,Int.reduceAdd,Int.reduceMul,Int.reduceNeg,Int.reduceToNat,Nat.reduceMul,Nat.reduceBEq,index_rsl_if,setm,make_ints,condK_dec,wantK_dec,not_dec,and_dec,or_dec,seqK_ite,seqK_none,blockK_ite,blockK_none,opsK_ite,opsK_none,stepK_ite,stepK_none,bodyK_ite,bodyK_none,resK_ite,resK_none,leaveK_ite,leaveK_none,only_ite,only_none,bind_ite,gives_some,gives_none,gives_ite,then_normal,then_ret,then_exit,then_none,then_ite,Option.bind_none,Bool.not_eq_true',decide_eq_false_iff_not,Bool.and_eq_true,Bool.or_eq_true,Option.some.injEq,Int.not_lt,Int.not_le,lp61_0,hx,hlt,p1,p1b,hmn,hmx,p2,List.length_map]
   simp [prsErr,he]
  ·by_cases p3:(u,v)∈ps.take i
   ·have he:prErr n (ps.take i) (u,v)=6:=by unfold prErr;simp only;rw [if_neg (by omega),if_neg p2,if_pos p3]
    simp only [go_sem,reduceIte,Nat.reduceEqDiff,Nat.reduceAdd,Nat.reduceSub,Nat.reduceLeDiff,Nat.reduceLT,reduceCtorEq,Int.reduceLT,Int.reduceLE,Int.reduceEq,Int.reduceBEq,Int.reduceSub,Int.reduceAdd,Int.reduceMul,Int.reduceNeg,Int.reduceToNat,Nat.reduceMul,Nat.reduceBEq,index_rsl_if,setm,make_ints,condK_dec,wantK_dec,not_dec,and_dec,or_dec,seqK_ite,seqK_none,blockK_ite,blockK_none,opsK_ite,opsK_none,stepK_ite,stepK_none,bodyK_ite,bodyK_none,resK_ite,resK_none,leaveK_ite,leaveK_none,only_ite,only_none,bind_ite,gives_some,gives_none,gives_ite,then_normal,then_ret,then_exit,then_none,then_ite,Option.bind_none,Bool.not_eq_true',decide_eq_false_iff_not,Bool.and_eq_true,Bool.or_eq_true,Option.some.injEq,Int.not_lt,Int.not_le,lp61_0,hx,hlt,p1,p1b,hmn,hmx,p2,hsl,h76,p3,List.length_map]
    simp [prsErr,he]
   ·have he:prErr n (ps.take i) (u,v)=0:=by unfold prErr;simp only;rw [if_neg (by omega),if_neg p2,if_neg p3]
    simp only [go_sem,reduceIte,Nat.reduceEqDiff,Nat.reduceAdd,Nat.reduceSub,Nat.reduceLeDiff,Nat.reduceLT,reduceCtorEq,Int.reduceLT,Int.reduceLE,Int.reduceEq,Int.reduceBEq,Int.reduceSub,Int.reduceAdd,Int.reduceMul,Int.reduceNeg,Int.reduceToNat,Nat.reduceMul,Nat.reduceBEq,index_rsl_if,setm,make_ints,condK_dec,wantK_dec,not_dec,and_dec,or_dec,seqK_ite,seqK_none,blockK_ite,blockK_none,opsK_ite,opsK_none,stepK_ite,stepK_none,bodyK_ite,bodyK_none,resK_ite,resK_none,leaveK_ite,leaveK_none,only_ite,only_none,bind_ite,gives_some,gives_none,gives_ite,then_normal,then_ret,then_exit,then_none,then_ite,Option.bind_none,Bool.not_eq_true',decide_eq_false_iff_not,Bool.and_eq_true,Bool.or_eq_true,Option.some.injEq,Int.not_lt,Int.not_le,lp61_0,hx,hlt,p1,p1b,hmn,hmx,p2,hsl,h76,p3,hs,List.length_map]
    refine ⟨i+1,by simp only [go_sem,reduceIte,Nat.reduceEqDiff,Nat.reduceAdd,Nat.reduceSub,Nat.reduceLeDiff,Nat.reduceLT,reduceCtorEq,Int.reduceLT,Int.reduceLE,Int.reduceEq,Int.reduceBEq,Int.reduceSub,Int.reduceAdd,Int.reduceMul,Int.reduceNeg,Int.reduceToNat,Nat.reduceMul,Nat.reduceBEq,ren1_locm,loc_tips,locT_eq]<;>rfl,?_,?_,fun x en s hq=> ?_⟩
    ·omega
    ·omega
    ·have e2:prsErr n (ps.take i) ((u,v)::ps.drop (i+1))=prsErr n (ps.take (i+1)) (ps.drop (i+1)):=by simp only [prsErr,he,if_true,ht]
     rw [e2];exact hq
 ·have hd:ps.drop i=[]:=List.drop_eq_nil_of_le (by omega)
  have hlt:((i:Int)<(ps.length:Int))=False:=eq_false (by omega)
  simp only [go_sem,reduceIte,Nat.reduceEqDiff,Nat.reduceAdd,Nat.reduceSub,Nat.reduceLeDiff,Nat.reduceLT,reduceCtorEq,Int.reduceLT,Int.reduceLE,Int.reduceEq,Int.reduceBEq,Int.reduceSub,Int.reduceAdd,Int.reduceMul,Int.reduceNeg,Int.reduceToNat,Nat.reduceMul,Nat.reduceBEq,index_rsl_if,setm,make_ints,condK_dec,wantK_dec,not_dec,and_dec,or_dec,seqK_ite,seqK_none,blockK_ite,blockK_none,opsK_ite,opsK_none,stepK_ite,stepK_none,bodyK_ite,bodyK_none,resK_ite,resK_none,leaveK_ite,leaveK_none,only_ite,only_none,bind_ite,gives_some,gives_none,gives_ite,then_normal,then_ret,then_exit,then_none,then_ite,Option.bind_none,Bool.not_eq_true',decide_eq_false_iff_not,Bool.and_eq_true,Bool.or_eq_true,Option.some.injEq,Int.not_lt,Int.not_le,lp61_0,hlt,List.length_map]
  rw [hd];simp [prsErr]
theorem c61 (nl:Bool)(n:Int)(ps:List (Int×Int))(st:St):
  run L 61 [bkAV nl n ps] st=some (I (chk n ps),st):=by
 rw [run_pure (fn:=ir61) rfl rfl]
 unfold chk
 by_cases p0:n<1∨7<n
 ·rw [if_pos p0]
  by_cases a:n<1
  ·simp only [ir61,go_sem,reduceIte,Nat.reduceEqDiff,Nat.reduceAdd,Nat.reduceSub,Nat.reduceLeDiff,Nat.reduceLT,reduceCtorEq,Int.reduceLT,Int.reduceLE,Int.reduceEq,Int.reduceBEq,Int.reduceSub,Int.reduceAdd,Int.reduceMul,Int.reduceNeg,Int.reduceToNat,Nat.reduceMul,Nat.reduceBEq,a]
  ·simp only [ir61,go_sem,reduceIte,Nat.reduceEqDiff,Nat.reduceAdd,Nat.reduceSub,Nat.reduceLeDiff,Nat.reduceLT,reduceCtorEq,Int.reduceLT,Int.reduceLE,Int.reduceEq,Int.reduceBEq,Int.reduceSub,Int.reduceAdd,Int.reduceMul,Int.reduceNeg,Int.reduceToNat,Nat.reduceMul,Nat.reduceBEq,a,show (7<n)=True from eq_true (by omega)]
 ·rw [if_neg p0]
  by_cases p1:10<ps.length
  ·have q1:((10:Int)<(ps.length:Int))=True:=eq_true (by omega)
   rw [if_pos p1]
   simp only [ir61,go_sem,reduceIte,Nat.reduceEqDiff,Nat.reduceAdd,Nat.reduceSub,Nat.reduceLeDiff,Nat.reduceLT,reduceCtorEq,Int.reduceLT,Int.reduceLE,Int.reduceEq,Int.reduceBEq,Int.reduceSub,Int.reduceAdd,Int.reduceMul,Int.reduceNeg,Int.reduceToNat,Nat.reduceMul,Nat.reduceBEq,show (n<1)=False from eq_false (by omega),show (7<n)=False from eq_false (by omega),q1,List.length_map]
  ·have q1:((10:Int)<(ps.length:Int))=False:=eq_false (by omega)
   rw [if_neg p1]
   simp only [ir61,go_sem,reduceIte,Nat.reduceEqDiff,Nat.reduceAdd,Nat.reduceSub,Nat.reduceLeDiff,Nat.reduceLT,reduceCtorEq,Int.reduceLT,Int.reduceLE,Int.reduceEq,Int.reduceBEq,Int.reduceSub,Int.reduceAdd,Int.reduceMul,Int.reduceNeg,Int.reduceToNat,Nat.reduceMul,Nat.reduceBEq,show (n<1)=False from eq_false (by omega),show (7<n)=False from eq_false (by omega),q1,List.length_map]
   generalize hg:lim (headed pure (run L) true _ lp61_0 _ _) _ _=o
   obtain ⟨x,en,s,rfl,h2⟩: ∃x en s,o=some (x,en,s)∧_:=by rw [←hg];exact loop61 nl n (by omega) ps (by omega) 0 (by omega) _ _ (by simp only [go_sem,reduceIte,Nat.reduceEqDiff,Nat.reduceAdd,Nat.reduceSub,Nat.reduceLeDiff,Nat.reduceLT,reduceCtorEq,Int.reduceLT,Int.reduceLE,Int.reduceEq,Int.reduceBEq,Int.reduceSub,Int.reduceAdd,Int.reduceMul,Int.reduceNeg,Int.reduceToNat,Nat.reduceMul,Nat.reduceBEq]<;>rfl)
   clear hg
   simp only [List.drop_zero,List.take_zero] at h2
   by_cases h:prsErr n [] ps=0
   ·rw [if_pos h] at h2
    subst h2
    simp only [go_sem,reduceIte,Nat.reduceEqDiff,Nat.reduceAdd,Nat.reduceSub,Nat.reduceLeDiff,Nat.reduceLT,reduceCtorEq,Int.reduceLT,Int.reduceLE,Int.reduceEq,Int.reduceBEq,Int.reduceSub,Int.reduceAdd,Int.reduceMul,Int.reduceNeg,Int.reduceToNat,Nat.reduceMul,Nat.reduceBEq,h]
   ·rw [if_neg h] at h2
    obtain ⟨rfl,h3⟩:=h2
    simp only [go_sem,reduceIte,Nat.reduceEqDiff,Nat.reduceAdd,Nat.reduceSub,Nat.reduceLeDiff,Nat.reduceLT,reduceCtorEq,Int.reduceLT,Int.reduceLE,Int.reduceEq,Int.reduceBEq,Int.reduceSub,Int.reduceAdd,Int.reduceMul,Int.reduceNeg,Int.reduceToNat,Nat.reduceMul,Nat.reduceBEq,h3]
abbrev U (n:Nat):AV:=.v (.int .u64 n)
theorem wrapU (n:Nat)(h:n<2^64):IntKind.u64.wrap (n:Int)=n:=by
 simp [IntKind.wrap,IntKind.bits,IntKind.signed];omega
theorem shrU (m p:Nat)(h:p<64):Int.fdiv (m:Int) (2^min p 64)=((m >>>p:Nat):Int):=by
 have e:min p 64=p:=by omega
 have e2:((2:Int)^p)=((2^p:Nat):Int):=by simp
 rw [e,e2,Int.fdiv_eq_ediv_of_nonneg _ (Int.natCast_nonneg _),Nat.shiftRight_eq_div_pow]
 simp
theorem and_one (n:Nat):binAV .and none (.v (.int .u64 (n:Int))) (.v (.int .u64 1))=some (.v (.int .u64 ((n % 2:Nat):Int))):=by
 have h:(BitVec.ofInt 64 (n:Int)&&&BitVec.ofInt 64 1).toNat=n % 2:=by
  rw [BitVec.toNat_and]
  have:(BitVec.ofInt 64 1).toNat=1:=by decide
  rw [this,Nat.and_one_is_mod,BitVec.ofInt_natCast,BitVec.toNat_ofNat]
  omega
 show some (AV.v (.int .u64 (IntKind.u64.wrap ((BitVec.ofInt 64 (n:Int)&&&BitVec.ofInt 64 1).toNat:Int))))=_
 rw [h,wrapU _ (by omega)]
theorem shr_u (m p:Nat):binAV .shr none (.v (.int .u64 (m:Int))) (.v (.int .i64 (p:Int)))=some (.v (.int .u64 ((m >>>min p 64:Nat):Int))):=by
 have e:=shrU m (min p 64)
 show (if (p:Int)<0 then none else some (AV.v (.int .u64 (Int.fdiv (m:Int) (2^min (Int.toNat (p:Int)) 64)))))=_
 rw [if_neg (by omega),Int.toNat_natCast]
 have e2:((2:Int)^(min p 64))=((2^(min p 64):Nat):Int):=by simp
 rw [e2,Int.fdiv_eq_ediv_of_nonneg _ (Int.natCast_nonneg _),Nat.shiftRight_eq_div_pow]
 simp
theorem min64 (p:Nat)(h:p<64):min p 64=p:=by omega
attribute [local go_sem high] and_one shr_u
theorem bit_zero (m p:Nat):((((m >>>p) % 2:Nat):Int)=0)=(m.testBit p=false):=by
 rw [Nat.testBit_eq_decide_div_mod_eq,Nat.shiftRight_eq_div_pow]
 generalize m / 2^p=k
 have:k % 2<2:=Nat.mod_lt _ (by omega)
 rw [decide_eq_false_iff_not]
 exact propext (by omega)
theorem c130 (m u v:Nat)(hm:m<128)(hu:u<7)(hv:v<7)(l:Nat)(st:St)(hl:st.store[l]? =some [U m]):
  run L 130 [.agg [I u,I v],.ptr l 0] st=some (B (decide (m.testBit u=false∧m.testBit v=false)),⟨st.store++ [[I u,I v]],st.tips⟩):=by
 rw [run_shared (fn:=ir130) rfl rfl]
 have hl2:(st.store++ [[I u,I v]])[l]? =some [U m]:=by rw [List.getElem?_append_left (by have:=List.getElem?_eq_some_iff.1 hl;exact this.1)];exact hl
 have hs1:=min64 u (by omega)
 have hs2:=min64 v (by omega)
 have z1:=bit_zero m u
 have z2:=bit_zero m v
 have hn:(st.store++ [[I u,I v]])[st.store.length]? =some [I u,I v]:=by simp
 have q1:((u:Int)<0)=False:=eq_false (by omega)
 have q2:((v:Int)<0)=False:=eq_false (by omega)
 by_cases p:m.testBit u=false
 ·simp only [ir130,go_sem,reduceIte,Nat.reduceEqDiff,Nat.reduceAdd,Nat.reduceSub,Nat.reduceLeDiff,Nat.reduceLT,reduceCtorEq,Int.reduceLT,Int.reduceLE,Int.reduceEq,Int.reduceBEq,Int.reduceSub,Int.reduceAdd,Int.reduceMul,Int.reduceNeg,Int.reduceToNat,Nat.reduceMul,Nat.reduceBEq,loadAV,hl2,hn,hs1,hs2,z1,z2,p]
 ·simp only [ir130,go_sem,reduceIte,Nat.reduceEqDiff,Nat.reduceAdd,Nat.reduceSub,Nat.reduceLeDiff,Nat.reduceLT,reduceCtorEq,Int.reduceLT,Int.reduceLE,Int.reduceEq,Int.reduceBEq,Int.reduceSub,Int.reduceAdd,Int.reduceMul,Int.reduceNeg,Int.reduceToNat,Nat.reduceMul,Nat.reduceBEq,loadAV,hl2,hn,hs1,hs2,z1,z2,p]
attribute [local go_sem high] and_one shr_u
def okP (p:Int×Int):Prop:=0≤p.1∧p.1<7∧0≤p.2∧p.2<7
def openP (m:Nat) (p:Int×Int):Bool:= !(m.testBit p.1.toNat)&& !(m.testBit p.2.toNat)
theorem loop166 (nl:Bool)(ps:List (Int×Int))(hlen:ps.length<1000000)(hok7: ∀p∈ps,okP p)(m:Nat)(hm:m<128)(l:Nat)(S0:List (List AV))(T:List Nat)(hl:S0[l]? =some [U m])(lo hi:Nat)(i:Nat)(junk:List (List AV))(hok:i≤ps.length)(env:Env)(st:St)
  (hg:gcAV false lo hi (canon env [0,1,7,8]) st=([(0,sl 2 nl (ps.map prAV)),(1,.fn (.func 130) [] [.ptr l 0]),(7,I ps.length),(8,I i)],⟨S0++junk,T⟩)):
  ∃x_1 en s,lim (headed pure (run L) false [0,1,7,8] lp166_0 lo hi) env st=some (x_1,en,s)∧((∃j,s=⟨S0++j,T⟩)∧(if (ps.drop i).any (openP m)=true then x_1=.ret∧∃k:Int,0≤k∧en.get 4=I k else x_1=.exit 0)):=by
 refine loop_wp (α:=Nat×List (List AV)) (fun ⟨i,junk⟩=>ps.length-i) (fun ⟨i,junk⟩=>i≤ps.length) (fun ⟨i,junk⟩=>([(0,sl 2 nl (ps.map prAV)),(1,.fn (.func 130) [] [.ptr l 0]),(7,I ps.length),(8,I i)],⟨S0++junk,T⟩)) (fun ⟨i,junk⟩ x_1 en s=>(∃j,s=⟨S0++j,T⟩)∧(if (ps.drop i).any (openP m)=true then x_1=.ret∧∃k:Int,0≤k∧en.get 4=I k else x_1=.exit 0)) (fun ⟨i,junk⟩ hok=> ?_) ⟨i,junk⟩ hok env st hg
 simp only at hok
 have hl2:(S0++junk)[l]? =some [U m]:=by rw [List.getElem?_append_left (List.getElem?_eq_some_iff.1 hl).1];exact hl
 by_cases h:i<ps.length
 ·have hx:=index_prs nl ps i h
  have hs:=succ64 i (by omega)
  have hd:ps.drop i=ps[i]::ps.drop (i+1):=List.drop_eq_getElem_cons h
  have hin:ps[i]∈ps:=List.getElem_mem h
  have h7:=hok7 _ hin
  dsimp only
  rw [hd]
  generalize ps[i]=c at*
  obtain ⟨u,v⟩:=c
  obtain ⟨a1,a2,a3,a4⟩:=h7
  simp only at a1 a2 a3 a4
  obtain ⟨u,rfl⟩:=Int.eq_ofNat_of_zero_le a1
  obtain ⟨v,rfl⟩:=Int.eq_ofNat_of_zero_le a3
  have hlt:((i:Int)<(ps.length:Int))=True:=eq_true (by omega)
  have h107:=c130 m u v hm (by omega) (by omega) l ⟨S0++junk,T⟩ hl2
  simp only at hx h107
  by_cases p:m.testBit u=false∧m.testBit v=false
  ·simp only [go_sem,reduceIte,Nat.reduceEqDiff,Nat.reduceAdd,Nat.reduceSub,Nat.reduceLeDiff,Nat.reduceLT,reduceCtorEq,Int.reduceLT,Int.reduceLE,Int.reduceEq,Int.reduceBEq,Int.reduceSub,Int.reduceAdd,Int.reduceMul,Int.reduceNeg,Int.reduceToNat,Nat.reduceMul,Nat.reduceBEq,index_rsl_if,setm,make_ints,condK_dec,wantK_dec,not_dec,and_dec,or_dec,seqK_ite,seqK_none,blockK_ite,blockK_none,opsK_ite,opsK_none,stepK_ite,stepK_none,bodyK_ite,bodyK_none,resK_ite,resK_none,leaveK_ite,leaveK_none,only_ite,only_none,bind_ite,gives_some,gives_none,gives_ite,then_normal,then_ret,then_exit,then_none,then_ite,Option.bind_none,Bool.not_eq_true',decide_eq_false_iff_not,Bool.and_eq_true,Bool.or_eq_true,Option.some.injEq,Int.not_lt,Int.not_le,lp166_0,hx,hlt,h107,p,show pure 130=false from rfl,List.append_assoc]
   refine ⟨⟨_,rfl⟩,?_⟩
   rw [if_pos (by simp [openP,p])]
   exact ⟨(i:Int),by omega,rfl⟩
  ·simp only [go_sem,reduceIte,Nat.reduceEqDiff,Nat.reduceAdd,Nat.reduceSub,Nat.reduceLeDiff,Nat.reduceLT,reduceCtorEq,Int.reduceLT,Int.reduceLE,Int.reduceEq,Int.reduceBEq,Int.reduceSub,Int.reduceAdd,Int.reduceMul,Int.reduceNeg,Int.reduceToNat,Nat.reduceMul,Nat.reduceBEq,index_rsl_if,setm,make_ints,condK_dec,wantK_dec,not_dec,and_dec,or_dec,seqK_ite,seqK_none,blockK_ite,blockK_none,opsK_ite,opsK_none,stepK_ite,stepK_none,bodyK_ite,bodyK_none,resK_ite,resK_none,leaveK_ite,leaveK_none,only_ite,only_none,bind_ite,gives_some,gives_none,gives_ite,then_normal,then_ret,then_exit,then_none,then_ite,Option.bind_none,Bool.not_eq_true',decide_eq_false_iff_not,Bool.and_eq_true,Bool.or_eq_true,Option.some.injEq,Int.not_lt,Int.not_le,lp166_0,hx,hlt,h107,p,hs,show pure 130=false from rfl,List.append_assoc]
   refine ⟨(i+1,junk++ [[I u,I v]]),by simp only [go_sem,reduceIte,Nat.reduceEqDiff,Nat.reduceAdd,Nat.reduceSub,Nat.reduceLeDiff,Nat.reduceLT,reduceCtorEq,Int.reduceLT,Int.reduceLE,Int.reduceEq,Int.reduceBEq,Int.reduceSub,Int.reduceAdd,Int.reduceMul,Int.reduceNeg,Int.reduceToNat,Nat.reduceMul,Nat.reduceBEq,ren1_locm,loc_tips,locT_eq]<;>rfl,?_,?_,fun x en s hq=> ?_⟩
   ·omega
   ·simp only;omega
   ·have hf:openP m (u,v)=false:=by
     unfold openP;simp only [Int.toNat_natCast]
     cases h1:m.testBit u<;>cases h2:m.testBit v<;>simp_all
    rw [List.any_cons,hf,Bool.false_or];exact hq
 ·have hd:ps.drop i=[]:=List.drop_eq_nil_of_le (by omega)
  have hlt:((i:Int)<(ps.length:Int))=False:=eq_false (by omega)
  simp only [go_sem,reduceIte,Nat.reduceEqDiff,Nat.reduceAdd,Nat.reduceSub,Nat.reduceLeDiff,Nat.reduceLT,reduceCtorEq,Int.reduceLT,Int.reduceLE,Int.reduceEq,Int.reduceBEq,Int.reduceSub,Int.reduceAdd,Int.reduceMul,Int.reduceNeg,Int.reduceToNat,Nat.reduceMul,Nat.reduceBEq,index_rsl_if,setm,make_ints,condK_dec,wantK_dec,not_dec,and_dec,or_dec,seqK_ite,seqK_none,blockK_ite,blockK_none,opsK_ite,opsK_none,stepK_ite,stepK_none,bodyK_ite,bodyK_none,resK_ite,resK_none,leaveK_ite,leaveK_none,only_ite,only_none,bind_ite,gives_some,gives_none,gives_ite,then_normal,then_ret,then_exit,then_none,then_ite,Option.bind_none,Bool.not_eq_true',decide_eq_false_iff_not,Bool.and_eq_true,Bool.or_eq_true,Option.some.injEq,Int.not_lt,Int.not_le,lp166_0,hlt]
  refine ⟨⟨_,rfl⟩,?_⟩
  rw [hd];simp
theorem c166e (nl:Bool)(ps:List (Int×Int))(hlen:ps.length<1000000)(hok7: ∀p∈ps,okP p)(m:Nat)(hm:m<128)(l:Nat)(st:St)(hl:st.store[l]? =some [U m]):
  ∃(k:Int) (j:List (List AV)),run L 166 [sl 2 nl (ps.map prAV),.fn (.func 130) [] [.ptr l 0]] st=some (I k,⟨st.store++j,st.tips⟩)∧(0≤k↔ps.any (openP m)=true):=by
 obtain ⟨S0,T⟩:=st
 rw [run_shared (fn:=ir166) rfl rfl]
 simp only [ir166,go_sem,reduceIte,Nat.reduceEqDiff,Nat.reduceAdd,Nat.reduceSub,Nat.reduceLeDiff,Nat.reduceLT,reduceCtorEq,Int.reduceLT,Int.reduceLE,Int.reduceEq,Int.reduceBEq,Int.reduceSub,Int.reduceAdd,Int.reduceMul,Int.reduceNeg,Int.reduceToNat,Nat.reduceMul,Nat.reduceBEq,List.length_map]
 generalize hg:lim (headed pure (run L) false _ lp166_0 _ _) _ _=o
 obtain ⟨x,en,s,rfl,h2⟩: ∃x en s,o=some (x,en,s)∧_:=by rw [←hg];exact loop166 nl ps hlen hok7 m hm l S0 T hl S0.length T.length 0 [] (by omega) _ _ (by simp only [go_sem,reduceIte,Nat.reduceEqDiff,Nat.reduceAdd,Nat.reduceSub,Nat.reduceLeDiff,Nat.reduceLT,reduceCtorEq,Int.reduceLT,Int.reduceLE,Int.reduceEq,Int.reduceBEq,Int.reduceSub,Int.reduceAdd,Int.reduceMul,Int.reduceNeg,Int.reduceToNat,Nat.reduceMul,Nat.reduceBEq,List.append_nil]<;>rfl)
 clear hg
 rw [List.drop_zero] at h2
 obtain ⟨⟨j,rfl⟩,h2⟩:=h2
 by_cases h:ps.any (openP m)=true
 ·rw [if_pos h] at h2
  obtain ⟨rfl,k,hk,h3⟩:=h2
  exact ⟨k,j,by simp only [go_sem,reduceIte,Nat.reduceEqDiff,Nat.reduceAdd,Nat.reduceSub,Nat.reduceLeDiff,Nat.reduceLT,reduceCtorEq,Int.reduceLT,Int.reduceLE,Int.reduceEq,Int.reduceBEq,Int.reduceSub,Int.reduceAdd,Int.reduceMul,Int.reduceNeg,Int.reduceToNat,Nat.reduceMul,Nat.reduceBEq,h3],by simp [h,hk]⟩
 ·rw [if_neg h] at h2
  subst h2
  exact ⟨-1,j,by simp only [go_sem,reduceIte,Nat.reduceEqDiff,Nat.reduceAdd,Nat.reduceSub,Nat.reduceLeDiff,Nat.reduceLT,reduceCtorEq,Int.reduceLT,Int.reduceLE,Int.reduceEq,Int.reduceBEq,Int.reduceSub,Int.reduceAdd,Int.reduceMul,Int.reduceNeg,Int.reduceToNat,Nat.reduceMul,Nat.reduceBEq],by simp [h]⟩
theorem c129e (nl:Bool)(ps:List (Int×Int))(hlen:ps.length<1000000)(hok7: ∀p∈ps,okP p)(m:Nat)(hm:m<128)(l:Nat)(st:St)(hl:st.store[l]? =some [U m]):
  ∃j:List (List AV),run L 129 [sl 2 nl (ps.map prAV),.fn (.func 130) [] [.ptr l 0]] st=some (B (ps.any (openP m)),⟨st.store++j,st.tips⟩):=by
 obtain ⟨k,j,h1,h2⟩:=c166e nl ps hlen hok7 m hm l st hl
 rw [run_shared (fn:=ir129) rfl rfl]
 refine ⟨j,?_⟩
 have e:decide (0≤k)=ps.any (openP m):=by rw [Bool.eq_iff_iff,decide_eq_true_iff];exact h2
 obtain ⟨S0,T⟩:=st
 simp only [ir129,go_sem,reduceIte,Nat.reduceEqDiff,Nat.reduceAdd,Nat.reduceSub,Nat.reduceLeDiff,Nat.reduceLT,reduceCtorEq,Int.reduceLT,Int.reduceLE,Int.reduceEq,Int.reduceBEq,Int.reduceSub,Int.reduceAdd,Int.reduceMul,Int.reduceNeg,Int.reduceToNat,Nat.reduceMul,Nat.reduceBEq,h1,e]
theorem c70 (nl:Bool)(n:Int)(ps:List (Int×Int))(hlen:ps.length<1000000)(hok7: ∀p∈ps,okP p)(m:Nat)(hm:m<128)(st:St):
  run L 70 [bkAV nl n ps,U m] st=some (B (!ps.any (openP m)),st):=by
 rw [run_pure (fn:=ir70) rfl rfl]
 obtain ⟨j,h1⟩:=c129e nl ps hlen hok7 m hm 1 ⟨[bkCells nl n ps,[U m]],[]⟩ rfl
 simp only [ir70,go_sem,reduceIte,Nat.reduceEqDiff,Nat.reduceAdd,Nat.reduceSub,Nat.reduceLeDiff,Nat.reduceLT,reduceCtorEq,Int.reduceLT,Int.reduceLE,Int.reduceEq,Int.reduceBEq,Int.reduceSub,Int.reduceAdd,Int.reduceMul,Int.reduceNeg,Int.reduceToNat,Nat.reduceMul,Nat.reduceBEq,h1,show pure 129=false from rfl]
theorem c165 (a:Int)(st:St):run L 165 [I a] st=some (B false,st):=by
 rw [run_pure (fn:=ir165) rfl rfl]
 simp only [ir165,go_sem,reduceIte,Nat.reduceEqDiff,Nat.reduceAdd,Nat.reduceSub,Nat.reduceLeDiff,Nat.reduceLT,reduceCtorEq,Int.reduceLT,Int.reduceLE,Int.reduceEq,Int.reduceBEq,Int.reduceSub,Int.reduceAdd,Int.reduceMul,Int.reduceNeg,Int.reduceToNat,Nat.reduceMul,Nat.reduceBEq]
theorem c128 (a b:Int)(st:St):run L 128 [I a,I b] st=some (I (if a<b then -1 else if b<a then 1 else 0),st):=by
 rw [run_pure (fn:=ir128) rfl rfl]
 by_cases h1:a<b
 ·simp only [ir128,go_sem,reduceIte,Nat.reduceEqDiff,Nat.reduceAdd,Nat.reduceSub,Nat.reduceLeDiff,Nat.reduceLT,reduceCtorEq,Int.reduceLT,Int.reduceLE,Int.reduceEq,Int.reduceBEq,Int.reduceSub,Int.reduceAdd,Int.reduceMul,Int.reduceNeg,Int.reduceToNat,Nat.reduceMul,Nat.reduceBEq,c165,h1]
 ·by_cases h2:b<a<;>simp only [ir128,go_sem,reduceIte,Nat.reduceEqDiff,Nat.reduceAdd,Nat.reduceSub,Nat.reduceLeDiff,Nat.reduceLT,reduceCtorEq,Int.reduceLT,Int.reduceLE,Int.reduceEq,Int.reduceBEq,Int.reduceSub,Int.reduceAdd,Int.reduceMul,Int.reduceNeg,Int.reduceToNat,Nat.reduceMul,Nat.reduceBEq,c165,h1,h2]
def lexLt:List Int→List Int→Bool
 | [],[]=>false
 | [],_::_=>true
 |_::_,[]=>false
 |a::r,b::s=>decide (a<b)||(decide (a=b)&&lexLt r s)
theorem loop68 (st0:St)(n1 n2:Bool)(xs ys:List Int)(hlen:xs.length<1000000)(lo hi:Nat)(i:Nat)(hok:i≤xs.length∧i≤ys.length)(env:Env)(st:St)
  (hg:gcAV false lo hi (canon env [0,1,9,10,11]) st=([(0,sl 1 n1 (xs.map I)),(1,sl 1 n2 (ys.map I)),(9,sl 1 n1 (xs.map I)),(10,I xs.length),(11,I i)],st0)):
  ∃x_1 en s,lim (headed pure (run L) false [0,1,9,10,11] lp68_0 lo hi) env st=some (x_1,en,s)∧(s=st0∧((x_1=.exit 0∧en.get 0=sl 1 n1 (xs.map I)∧en.get 1=sl 1 n2 (ys.map I)∧lexLt (xs.drop i) (ys.drop i)=decide (xs.length<ys.length))∨(x_1=.ret∧∃k:Int,en.get 4=I k∧lexLt (xs.drop i) (ys.drop i)=decide (k<0)))):=by
 refine loop_wp (α:=Nat) (fun i=>xs.length-i) (fun i=>i≤xs.length∧i≤ys.length) (fun i=>([(0,sl 1 n1 (xs.map I)),(1,sl 1 n2 (ys.map I)),(9,sl 1 n1 (xs.map I)),(10,I xs.length),(11,I i)],st0)) (fun i x_1 en s=>s=st0∧((x_1=.exit 0∧en.get 0=sl 1 n1 (xs.map I)∧en.get 1=sl 1 n2 (ys.map I)∧lexLt (xs.drop i) (ys.drop i)=decide (xs.length<ys.length))∨(x_1=.ret∧∃k:Int,en.get 4=I k∧lexLt (xs.drop i) (ys.drop i)=decide (k<0)))) (fun i hok=> ?_) i hok env st hg
 obtain ⟨hok1,hok2⟩:=hok
 by_cases h:i<xs.length
 ·have hx:=index_ints n1 xs i h
  have hs:=succ64 i (by omega)
  have hd:xs.drop i=xs[i]::xs.drop (i+1):=List.drop_eq_getElem_cons h
  have hlt:((i:Int)<(xs.length:Int))=True:=eq_true (by omega)
  rw [hd]
  by_cases h2:i<ys.length
  ·have hy:=index_ints n2 ys i h2
   have hd2:ys.drop i=ys[i]::ys.drop (i+1):=List.drop_eq_getElem_cons h2
   have hge:((ys.length:Int)≤(i:Int))=False:=eq_false (by omega)
   rw [hd2]
   generalize xs[i]=a at*
   generalize ys[i]=b at*
   by_cases p1:a<b
   ·simp only [go_sem,reduceIte,Nat.reduceEqDiff,Nat.reduceAdd,Nat.reduceSub,Nat.reduceLeDiff,Nat.reduceLT,reduceCtorEq,Int.reduceLT,Int.reduceLE,Int.reduceEq,Int.reduceBEq,Int.reduceSub,Int.reduceAdd,Int.reduceMul,Int.reduceNeg,Int.reduceToNat,Nat.reduceMul,Nat.reduceBEq,index_rsl_if,setm,make_ints,condK_dec,wantK_dec,not_dec,and_dec,or_dec,seqK_ite,seqK_none,blockK_ite,blockK_none,opsK_ite,opsK_none,stepK_ite,stepK_none,bodyK_ite,bodyK_none,resK_ite,resK_none,leaveK_ite,leaveK_none,only_ite,only_none,bind_ite,gives_some,gives_none,gives_ite,then_normal,then_ret,then_exit,then_none,then_ite,Option.bind_none,Bool.not_eq_true',decide_eq_false_iff_not,Bool.and_eq_true,Bool.or_eq_true,Option.some.injEq,Int.not_lt,Int.not_le,lp68_0,hx,hy,hlt,hge,c128,p1,List.length_map]
    refine ⟨-1,rfl,?_⟩
    simp [lexLt,p1]
   ·by_cases p2:b<a
    ·simp only [go_sem,reduceIte,Nat.reduceEqDiff,Nat.reduceAdd,Nat.reduceSub,Nat.reduceLeDiff,Nat.reduceLT,reduceCtorEq,Int.reduceLT,Int.reduceLE,Int.reduceEq,Int.reduceBEq,Int.reduceSub,Int.reduceAdd,Int.reduceMul,Int.reduceNeg,Int.reduceToNat,Nat.reduceMul,Nat.reduceBEq,index_rsl_if,setm,make_ints,condK_dec,wantK_dec,not_dec,and_dec,or_dec,seqK_ite,seqK_none,blockK_ite,blockK_none,opsK_ite,opsK_none,stepK_ite,stepK_none,bodyK_ite,bodyK_none,resK_ite,resK_none,leaveK_ite,leaveK_none,only_ite,only_none,bind_ite,gives_some,gives_none,gives_ite,then_normal,then_ret,then_exit,then_none,then_ite,Option.bind_none,Bool.not_eq_true',decide_eq_false_iff_not,Bool.and_eq_true,Bool.or_eq_true,Option.some.injEq,Int.not_lt,Int.not_le,lp68_0,hx,hy,hlt,hge,c128,p1,p2,List.length_map]
     refine ⟨1,rfl,?_⟩
     simp [lexLt,p1,show a≠b by omega]
    ·obtain rfl:a=b:=by omega
     simp only [go_sem,reduceIte,Nat.reduceEqDiff,Nat.reduceAdd,Nat.reduceSub,Nat.reduceLeDiff,Nat.reduceLT,reduceCtorEq,Int.reduceLT,Int.reduceLE,Int.reduceEq,Int.reduceBEq,Int.reduceSub,Int.reduceAdd,Int.reduceMul,Int.reduceNeg,Int.reduceToNat,Nat.reduceMul,Nat.reduceBEq,index_rsl_if,setm,make_ints,condK_dec,wantK_dec,not_dec,and_dec,or_dec,seqK_ite,seqK_none,blockK_ite,blockK_none,opsK_ite,opsK_none,stepK_ite,stepK_none,bodyK_ite,bodyK_none,resK_ite,resK_none,leaveK_ite,leaveK_none,only_ite,only_none,bind_ite,gives_some,gives_none,gives_ite,then_normal,then_ret,then_exit,then_none,then_ite,Option.bind_none,Bool.not_eq_true',decide_eq_false_iff_not,Bool.and_eq_true,Bool.or_eq_true,Option.some.injEq,Int.not_lt,Int.not_le,lp68_0,hx,hy,hlt,hge,c128,p1,hs,List.length_map]
     refine ⟨i+1,by simp only [go_sem,reduceIte,Nat.reduceEqDiff,Nat.reduceAdd,Nat.reduceSub,Nat.reduceLeDiff,Nat.reduceLT,reduceCtorEq,Int.reduceLT,Int.reduceLE,Int.reduceEq,Int.reduceBEq,Int.reduceSub,Int.reduceAdd,Int.reduceMul,Int.reduceNeg,Int.reduceToNat,Nat.reduceMul,Nat.reduceBEq,ren1_locm,loc_tips,locT_eq]<;>rfl,?_,?_,fun x en s hq=> ?_⟩
     ·omega
     ·omega
     ·have e:lexLt (a::xs.drop (i+1)) (a::ys.drop (i+1))=lexLt (xs.drop (i+1)) (ys.drop (i+1)):=by simp [lexLt]
      rw [e];exact hq
  ·have hd2:ys.drop i=[]:=List.drop_eq_nil_of_le (by omega)
   have hge:((ys.length:Int)≤(i:Int))=True:=eq_true (by omega)
   rw [hd2]
   generalize xs[i]=a at*
   simp only [go_sem,reduceIte,Nat.reduceEqDiff,Nat.reduceAdd,Nat.reduceSub,Nat.reduceLeDiff,Nat.reduceLT,reduceCtorEq,Int.reduceLT,Int.reduceLE,Int.reduceEq,Int.reduceBEq,Int.reduceSub,Int.reduceAdd,Int.reduceMul,Int.reduceNeg,Int.reduceToNat,Nat.reduceMul,Nat.reduceBEq,index_rsl_if,setm,make_ints,condK_dec,wantK_dec,not_dec,and_dec,or_dec,seqK_ite,seqK_none,blockK_ite,blockK_none,opsK_ite,opsK_none,stepK_ite,stepK_none,bodyK_ite,bodyK_none,resK_ite,resK_none,leaveK_ite,leaveK_none,only_ite,only_none,bind_ite,gives_some,gives_none,gives_ite,then_normal,then_ret,then_exit,then_none,then_ite,Option.bind_none,Bool.not_eq_true',decide_eq_false_iff_not,Bool.and_eq_true,Bool.or_eq_true,Option.some.injEq,Int.not_lt,Int.not_le,lp68_0,hx,hlt,hge,List.length_map]
   refine ⟨1,rfl,?_⟩
   simp [lexLt]
 ·have hd:xs.drop i=[]:=List.drop_eq_nil_of_le (by omega)
  have hlt:((i:Int)<(xs.length:Int))=False:=eq_false (by omega)
  simp only [go_sem,reduceIte,Nat.reduceEqDiff,Nat.reduceAdd,Nat.reduceSub,Nat.reduceLeDiff,Nat.reduceLT,reduceCtorEq,Int.reduceLT,Int.reduceLE,Int.reduceEq,Int.reduceBEq,Int.reduceSub,Int.reduceAdd,Int.reduceMul,Int.reduceNeg,Int.reduceToNat,Nat.reduceMul,Nat.reduceBEq,index_rsl_if,setm,make_ints,condK_dec,wantK_dec,not_dec,and_dec,or_dec,seqK_ite,seqK_none,blockK_ite,blockK_none,opsK_ite,opsK_none,stepK_ite,stepK_none,bodyK_ite,bodyK_none,resK_ite,resK_none,leaveK_ite,leaveK_none,only_ite,only_none,bind_ite,gives_some,gives_none,gives_ite,then_normal,then_ret,then_exit,then_none,then_ite,Option.bind_none,Bool.not_eq_true',decide_eq_false_iff_not,Bool.and_eq_true,Bool.or_eq_true,Option.some.injEq,Int.not_lt,Int.not_le,lp68_0,hlt,List.length_map]
  rw [hd]
  by_cases h2:i<ys.length
  ·rw [List.drop_eq_getElem_cons h2];simp [lexLt];omega
  ·rw [List.drop_eq_nil_of_le (by omega)];simp [lexLt];omega
theorem c68 (n1 n2:Bool)(xs ys:List Int)(hlen:xs.length<1000000)(st:St):
  ∃k:Int,run L 68 [sl 1 n1 (xs.map I),sl 1 n2 (ys.map I)] st=some (I k,st)∧decide (k<0)=lexLt xs ys:=by
 rw [run_shared (fn:=ir68) rfl rfl]
 simp only [ir68,go_sem,reduceIte,Nat.reduceEqDiff,Nat.reduceAdd,Nat.reduceSub,Nat.reduceLeDiff,Nat.reduceLT,reduceCtorEq,Int.reduceLT,Int.reduceLE,Int.reduceEq,Int.reduceBEq,Int.reduceSub,Int.reduceAdd,Int.reduceMul,Int.reduceNeg,Int.reduceToNat,Nat.reduceMul,Nat.reduceBEq,List.length_map]
 generalize hg:lim (headed pure (run L) false _ lp68_0 _ _) _ _=o
 obtain ⟨x,en,s,rfl,h2⟩: ∃x en s,o=some (x,en,s)∧_:=by rw [←hg];exact loop68 st n1 n2 xs ys hlen _ _ 0 ⟨by omega,by omega⟩ _ _ (by simp only [go_sem,reduceIte,Nat.reduceEqDiff,Nat.reduceAdd,Nat.reduceSub,Nat.reduceLeDiff,Nat.reduceLT,reduceCtorEq,Int.reduceLT,Int.reduceLE,Int.reduceEq,Int.reduceBEq,Int.reduceSub,Int.reduceAdd,Int.reduceMul,Int.reduceNeg,Int.reduceToNat,Nat.reduceMul,Nat.reduceBEq]<;>rfl)
 clear hg
 simp only [List.drop_zero] at h2
 obtain ⟨rfl,h2⟩:=h2
 rcases h2 with ⟨rfl,h3,h4,h5⟩ | ⟨rfl,k,h3,h5⟩
 ·by_cases p:xs.length<ys.length
  ·have q:((xs.length:Int)<(ys.length:Int))=True:=eq_true (by omega)
   exact ⟨-1,by simp only [go_sem,reduceIte,Nat.reduceEqDiff,Nat.reduceAdd,Nat.reduceSub,Nat.reduceLeDiff,Nat.reduceLT,reduceCtorEq,Int.reduceLT,Int.reduceLE,Int.reduceEq,Int.reduceBEq,Int.reduceSub,Int.reduceAdd,Int.reduceMul,Int.reduceNeg,Int.reduceToNat,Nat.reduceMul,Nat.reduceBEq,h3,h4,q,List.length_map],by rw [h5];simp [p]⟩
  ·have q:((xs.length:Int)<(ys.length:Int))=False:=eq_false (by omega)
   exact ⟨0,by simp only [go_sem,reduceIte,Nat.reduceEqDiff,Nat.reduceAdd,Nat.reduceSub,Nat.reduceLeDiff,Nat.reduceLT,reduceCtorEq,Int.reduceLT,Int.reduceLE,Int.reduceEq,Int.reduceBEq,Int.reduceSub,Int.reduceAdd,Int.reduceMul,Int.reduceNeg,Int.reduceToNat,Nat.reduceMul,Nat.reduceBEq,h3,h4,q,List.length_map],by rw [h5];simp [p]⟩
 ·exact ⟨k,by simp only [go_sem,reduceIte,Nat.reduceEqDiff,Nat.reduceAdd,Nat.reduceSub,Nat.reduceLeDiff,Nat.reduceLT,reduceCtorEq,Int.reduceLT,Int.reduceLE,Int.reduceEq,Int.reduceBEq,Int.reduceSub,Int.reduceAdd,Int.reduceMul,Int.reduceNeg,Int.reduceToNat,Nat.reduceMul,Nat.reduceBEq,h3],h5.symm⟩
attribute [local go_sem high] and_one shr_u
def memb (m:Nat):List Int:=((List.range 7).filter m.testBit).map fun (i:Nat)=>(i:Int)
theorem run_any' {f:FuncId} {fn:IF} (hf:L.fns f=some fn)(hp:L.pure f=true) {args:List AV} {st0 st1:St} {r:AV} (h:run L f args st0=some (r,st1))(st:St):run L f args st=some (r,st):=by
 rw [run_pure hf hp] at h⊢
 unfold leaveK at h⊢
 split at h
 ·simp only [leave,Option.some.injEq,Prod.mk.injEq] at h⊢
  exact ⟨h.1,trivial⟩
 ·simp at h
theorem all_of {α:Type} {f g:Nat→α} {k:Nat} (h:(List.range k).map f=(List.range k).map g)(m:Nat)(hm:m<k):f m=g m:=by
 have:=congrArg (fun l:List α=>l[m]?) h
 simpa [hm] using this
theorem all122:(List.range 128).map (fun m=>callAV L 60 122 [U m] ⟨[],[]⟩)=(List.range 128).map (fun m=>some (sl 1 true ((memb m).map I),(⟨[],[]⟩:St))):=by kernel_rfl
theorem c122 (m:Nat)(hm:m<128)(st:St):run L 122 [U m] st=some (sl 1 true ((memb m).map I),st):=
 run_any' (fn:=ir122) rfl rfl (callAV_run L 60 _ _ _ _ (all_of all122 m hm)) st
theorem all67:(List.range 128).map (fun m=>callAV L 60 67 [U m] ⟨[],[]⟩)=(List.range 128).map (fun m=>some (I ((memb m).length:Nat),(⟨[],[]⟩:St))):=by kernel_rfl
theorem c67 (m:Nat)(hm:m<128)(st:St):run L 67 [U m] st=some (I (memb m).length,st):=
 run_any' (fn:=ir67) rfl rfl (callAV_run L 60 _ _ _ _ (all_of all67 m hm)) st
def sh1 (p:Nat):Nat:=2^min p 64 % 2^64
theorem sh1_eq (p:Nat)(h:p<64):sh1 p=2^p:=by
 unfold sh1;rw [show min p 64=p by omega]
 exact Nat.mod_eq_of_lt (Nat.pow_lt_pow_right (by omega) h)
theorem shl_one (p:Nat):binAV .shl none (.v (.int .u64 1)) (.v (.int .i64 (p:Int)))=some (.v (.int .u64 ((sh1 p:Nat):Int))):=by
 show (if (p:Int)<0 then none else some (AV.v (.int .u64 (IntKind.u64.wrap (1*(2^(min (Int.toNat (p:Int)) 64)))))))=_
 rw [if_neg (by omega),Int.toNat_natCast]
 have e2:(1:Int)*((2:Int)^(min p 64))=((2^(min p 64):Nat):Int):=by simp
 rw [e2]
 simp only [sh1,IntKind.wrap,IntKind.bits,IntKind.signed]
 simp
attribute [local go_sem high] and_one shr_u shl_one
theorem succU (m:Nat)(h:m<1000000):IntKind.u64.wrap ((m:Int)+1)=((m+1:Nat):Int):=by
 have:=wrapU (m+1) (by omega)
 simpa using this
def expl (ps:List (Int×Int)) (m:Nat):Bool:= !ps.any (openP m)
def shStep (ps:List (Int×Int)) (s:List Int×Nat) (m:Nat):List Int×Nat:=
 if expl ps m=false∨0<s.2∧s.1.length<(memb m).length then s
 else if s.2=0∨(memb m).length<s.1.length then (memb m,1)
 else (if lexLt (memb m) s.1=true then memb m else s.1,s.2+1)
theorem memb_len (m:Nat):(memb m).length≤7:=by
 unfold memb;rw [List.length_map]
 exact Nat.le_trans (List.length_filter_le _ _) (by simp)
set_option maxHeartbeats 1000000 in
theorem loop62 (nl:Bool)(n:Nat)(hn:n≤7)(ps:List (Int×Int))(hlen:ps.length<1000000)(hok7: ∀p∈ps,okP p)(m:Nat)(best:List Int)(many:Nat)(hok:m≤2^n∧many≤m∧best.length≤7)(env:Env)(st:St)
  (hg:gcAV true 1 0 (canon env [1,4,5,10,11]) st=([(1,.ptr 0 0),(4,sl 1 true (best.map I)),(5,I many),(10,.v (.int .u64 ((2^n:Nat):Int))),(11,.v (.int .u64 (m:Int)))],⟨[bkCells nl n ps],[]⟩)):
  ∃x_1 en s,lim (headed pure (run L) true [1,4,5,10,11] lp62_0 1 0) env st=some (x_1,en,s)∧(x_1=.exit 0∧en.get 4=sl 1 true (((List.range' m (2^n-m)).foldl (shStep ps) (best,many)).1.map I)∧en.get 5=I ((List.range' m (2^n-m)).foldl (shStep ps) (best,many)).2):=by
 refine loop_wp (α:=Nat×List Int×Nat) (fun ⟨m,best,many⟩=>2^n-m) (fun ⟨m,best,many⟩=>m≤2^n∧many≤m∧best.length≤7) (fun ⟨m,best,many⟩=>([(1,.ptr 0 0),(4,sl 1 true (best.map I)),(5,I many),(10,.v (.int .u64 ((2^n:Nat):Int))),(11,.v (.int .u64 (m:Int)))],⟨[bkCells nl n ps],[]⟩)) (fun ⟨m,best,many⟩ x_1 en s=>x_1=.exit 0∧en.get 4=sl 1 true (((List.range' m (2^n-m)).foldl (shStep ps) (best,many)).1.map I)∧en.get 5=I ((List.range' m (2^n-m)).foldl (shStep ps) (best,many)).2) (fun ⟨m,best,many⟩ hok=> ?_) ⟨m,best,many⟩ hok env st hg
 simp only at hok
 obtain ⟨h1,h2,h3⟩:=hok
 have h128:2^n≤128:=Nat.le_trans (Nat.pow_le_pow_right (by omega) hn) (by decide)
 dsimp only
 by_cases h:m<2^n
 ·have hlt:((m:Int)<((2^n:Nat):Int))=True:=eq_true (by omega)
  have e0:List.range' m (2^n-m)=m::List.range' (m+1) (2^n-(m+1)):=by
   rw [show 2^n-m=(2^n-(m+1))+1 by omega,List.range'_succ]
  rw [e0,List.foldl_cons]
  have h104:=fun st=>c122 m (by omega) st
  have h79:=fun st=>c70 nl n ps hlen hok7 m (by omega) st
  have hs:=succU m (by omega)
  have hs2:=succ64 many (by omega)
  have hml:=memb_len m
  by_cases pe:ps.any (openP m)=true
  ·have he:shStep ps (best,many) m=(best,many):=by unfold shStep expl;rw [if_pos (.inl (by simp [pe]))]
   rw [he]
   rw [pe] at h79
   simp only [Bool.not_true] at h79
   simp only [go_sem,reduceIte,Nat.reduceEqDiff,Nat.reduceAdd,Nat.reduceSub,Nat.reduceLeDiff,Nat.reduceLT,reduceCtorEq,Int.reduceLT,Int.reduceLE,Int.reduceEq,Int.reduceBEq,Int.reduceSub,Int.reduceAdd,Int.reduceMul,Int.reduceNeg,Int.reduceToNat,Nat.reduceMul,Nat.reduceBEq,index_rsl_if,setm,make_ints,condK_dec,wantK_dec,not_dec,and_dec,or_dec,seqK_ite,seqK_none,blockK_ite,blockK_none,opsK_ite,opsK_none,stepK_ite,stepK_none,bodyK_ite,bodyK_none,resK_ite,resK_none,leaveK_ite,leaveK_none,only_ite,only_none,bind_ite,gives_some,gives_none,gives_ite,then_normal,then_ret,then_exit,then_none,then_ite,Option.bind_none,Bool.not_eq_true',decide_eq_false_iff_not,Bool.and_eq_true,Bool.or_eq_true,Option.some.injEq,Int.not_lt,Int.not_le,lp62_0,hlt,h104,h79,hs,List.length_map]
   refine ⟨(m+1,best,many),by simp only [go_sem,reduceIte,Nat.reduceEqDiff,Nat.reduceAdd,Nat.reduceSub,Nat.reduceLeDiff,Nat.reduceLT,reduceCtorEq,Int.reduceLT,Int.reduceLE,Int.reduceEq,Int.reduceBEq,Int.reduceSub,Int.reduceAdd,Int.reduceMul,Int.reduceNeg,Int.reduceToNat,Nat.reduceMul,Nat.reduceBEq,ren1_locm,loc_tips,locT_eq]<;>rfl,?_,?_,fun x en s hq=> ?_⟩
   ·dsimp only;exact ⟨by omega,by omega,h3⟩
   ·simp only;omega
   ·exact hq
  ·have pe':ps.any (openP m)=false:=by simpa using pe
   have hx:expl ps m=true:=by unfold expl;rw [pe'];rfl
   rw [pe'] at h79
   simp only [Bool.not_false] at h79
   by_cases p0:many=0
   ·subst p0
    have he:shStep ps (best,0) m=(memb m,1):=by unfold shStep;rw [if_neg (by simp [hx]),if_pos (.inl rfl)]
    rw [he]
    simp only [go_sem,reduceIte,Nat.reduceEqDiff,Nat.reduceAdd,Nat.reduceSub,Nat.reduceLeDiff,Nat.reduceLT,reduceCtorEq,Int.reduceLT,Int.reduceLE,Int.reduceEq,Int.reduceBEq,Int.reduceSub,Int.reduceAdd,Int.reduceMul,Int.reduceNeg,Int.reduceToNat,Nat.reduceMul,Nat.reduceBEq,index_rsl_if,setm,make_ints,condK_dec,wantK_dec,not_dec,and_dec,or_dec,seqK_ite,seqK_none,blockK_ite,blockK_none,opsK_ite,opsK_none,stepK_ite,stepK_none,bodyK_ite,bodyK_none,resK_ite,resK_none,leaveK_ite,leaveK_none,only_ite,only_none,bind_ite,gives_some,gives_none,gives_ite,then_normal,then_ret,then_exit,then_none,then_ite,Option.bind_none,Bool.not_eq_true',decide_eq_false_iff_not,Bool.and_eq_true,Bool.or_eq_true,Option.some.injEq,Int.not_lt,Int.not_le,lp62_0,hlt,h104,h79,hs,List.length_map,Int.natCast_zero]
    refine ⟨(m+1,memb m,1),by simp only [go_sem,reduceIte,Nat.reduceEqDiff,Nat.reduceAdd,Nat.reduceSub,Nat.reduceLeDiff,Nat.reduceLT,reduceCtorEq,Int.reduceLT,Int.reduceLE,Int.reduceEq,Int.reduceBEq,Int.reduceSub,Int.reduceAdd,Int.reduceMul,Int.reduceNeg,Int.reduceToNat,Nat.reduceMul,Nat.reduceBEq,ren1_locm,loc_tips,locT_eq]<;>rfl,?_,?_,fun x en s hq=> ?_⟩
    ·dsimp only;exact ⟨by omega,by omega,hml⟩
    ·simp only;omega
    ·exact hq
   ·have q0:((0:Int)<(many:Int))=True:=eq_true (by omega)
    have q0':((many:Int)=0)=False:=eq_false (by omega)
    by_cases p1:best.length<(memb m).length
    ·have q1:((best.length:Int)<((memb m).length:Int))=True:=eq_true (by omega)
     have he:shStep ps (best,many) m=(best,many):=by unfold shStep;rw [if_pos (.inr ⟨by simp only;omega,p1⟩)]
     rw [he]
     simp only [go_sem,reduceIte,Nat.reduceEqDiff,Nat.reduceAdd,Nat.reduceSub,Nat.reduceLeDiff,Nat.reduceLT,reduceCtorEq,Int.reduceLT,Int.reduceLE,Int.reduceEq,Int.reduceBEq,Int.reduceSub,Int.reduceAdd,Int.reduceMul,Int.reduceNeg,Int.reduceToNat,Nat.reduceMul,Nat.reduceBEq,index_rsl_if,setm,make_ints,condK_dec,wantK_dec,not_dec,and_dec,or_dec,seqK_ite,seqK_none,blockK_ite,blockK_none,opsK_ite,opsK_none,stepK_ite,stepK_none,bodyK_ite,bodyK_none,resK_ite,resK_none,leaveK_ite,leaveK_none,only_ite,only_none,bind_ite,gives_some,gives_none,gives_ite,then_normal,then_ret,then_exit,then_none,then_ite,Option.bind_none,Bool.not_eq_true',decide_eq_false_iff_not,Bool.and_eq_true,Bool.or_eq_true,Option.some.injEq,Int.not_lt,Int.not_le,lp62_0,hlt,h104,h79,hs,q0,q1,List.length_map]
     refine ⟨(m+1,best,many),by simp only [go_sem,reduceIte,Nat.reduceEqDiff,Nat.reduceAdd,Nat.reduceSub,Nat.reduceLeDiff,Nat.reduceLT,reduceCtorEq,Int.reduceLT,Int.reduceLE,Int.reduceEq,Int.reduceBEq,Int.reduceSub,Int.reduceAdd,Int.reduceMul,Int.reduceNeg,Int.reduceToNat,Nat.reduceMul,Nat.reduceBEq,ren1_locm,loc_tips,locT_eq]<;>rfl,?_,?_,fun x en s hq=> ?_⟩
     ·dsimp only;exact ⟨by omega,by omega,h3⟩
     ·simp only;omega
     ·exact hq
    ·have q1:((best.length:Int)<((memb m).length:Int))=False:=eq_false (by omega)
     by_cases p2:(memb m).length<best.length
     ·have q2:(((memb m).length:Int)<(best.length:Int))=True:=eq_true (by omega)
      have he:shStep ps (best,many) m=(memb m,1):=by unfold shStep;rw [if_neg (by simp [hx,p1]),if_pos (.inr p2)]
      rw [he]
      simp only [go_sem,reduceIte,Nat.reduceEqDiff,Nat.reduceAdd,Nat.reduceSub,Nat.reduceLeDiff,Nat.reduceLT,reduceCtorEq,Int.reduceLT,Int.reduceLE,Int.reduceEq,Int.reduceBEq,Int.reduceSub,Int.reduceAdd,Int.reduceMul,Int.reduceNeg,Int.reduceToNat,Nat.reduceMul,Nat.reduceBEq,index_rsl_if,setm,make_ints,condK_dec,wantK_dec,not_dec,and_dec,or_dec,seqK_ite,seqK_none,blockK_ite,blockK_none,opsK_ite,opsK_none,stepK_ite,stepK_none,bodyK_ite,bodyK_none,resK_ite,resK_none,leaveK_ite,leaveK_none,only_ite,only_none,bind_ite,gives_some,gives_none,gives_ite,then_normal,then_ret,then_exit,then_none,then_ite,Option.bind_none,Bool.not_eq_true',decide_eq_false_iff_not,Bool.and_eq_true,Bool.or_eq_true,Option.some.injEq,Int.not_lt,Int.not_le,lp62_0,hlt,h104,h79,hs,q0,q0',q1,q2,List.length_map]
      refine ⟨(m+1,memb m,1),by simp only [go_sem,reduceIte,Nat.reduceEqDiff,Nat.reduceAdd,Nat.reduceSub,Nat.reduceLeDiff,Nat.reduceLT,reduceCtorEq,Int.reduceLT,Int.reduceLE,Int.reduceEq,Int.reduceBEq,Int.reduceSub,Int.reduceAdd,Int.reduceMul,Int.reduceNeg,Int.reduceToNat,Nat.reduceMul,Nat.reduceBEq,ren1_locm,loc_tips,locT_eq]<;>rfl,?_,?_,fun x en s hq=> ?_⟩
      ·dsimp only;exact ⟨by omega,by omega,hml⟩
      ·simp only;omega
      ·exact hq
     ·have q2:(((memb m).length:Int)<(best.length:Int))=False:=eq_false (by omega)
      have he:shStep ps (best,many) m=(if lexLt (memb m) best=true then memb m else best,many+1):=by unfold shStep;rw [if_neg (by simp [hx,p1]),if_neg (by simp only;omega)]
      rw [he]
      obtain ⟨k,hk,hk2⟩:=c68 true true (memb m) best (by omega) ⟨[bkCells nl n ps],[]⟩
      by_cases p3:lexLt (memb m) best=true
      ·rw [p3] at hk2
       have q3:(k<0)=True:=eq_true (by simpa using hk2)
       rw [if_pos p3]
       simp only [go_sem,reduceIte,Nat.reduceEqDiff,Nat.reduceAdd,Nat.reduceSub,Nat.reduceLeDiff,Nat.reduceLT,reduceCtorEq,Int.reduceLT,Int.reduceLE,Int.reduceEq,Int.reduceBEq,Int.reduceSub,Int.reduceAdd,Int.reduceMul,Int.reduceNeg,Int.reduceToNat,Nat.reduceMul,Nat.reduceBEq,index_rsl_if,setm,make_ints,condK_dec,wantK_dec,not_dec,and_dec,or_dec,seqK_ite,seqK_none,blockK_ite,blockK_none,opsK_ite,opsK_none,stepK_ite,stepK_none,bodyK_ite,bodyK_none,resK_ite,resK_none,leaveK_ite,leaveK_none,only_ite,only_none,bind_ite,gives_some,gives_none,gives_ite,then_normal,then_ret,then_exit,then_none,then_ite,Option.bind_none,Bool.not_eq_true',decide_eq_false_iff_not,Bool.and_eq_true,Bool.or_eq_true,Option.some.injEq,Int.not_lt,Int.not_le,lp62_0,hlt,h104,h79,hs,hs2,q0,q0',q1,q2,hk,q3,List.length_map]
       refine ⟨(m+1,memb m,many+1),by simp only [go_sem,reduceIte,Nat.reduceEqDiff,Nat.reduceAdd,Nat.reduceSub,Nat.reduceLeDiff,Nat.reduceLT,reduceCtorEq,Int.reduceLT,Int.reduceLE,Int.reduceEq,Int.reduceBEq,Int.reduceSub,Int.reduceAdd,Int.reduceMul,Int.reduceNeg,Int.reduceToNat,Nat.reduceMul,Nat.reduceBEq,ren1_locm,loc_tips,locT_eq]<;>rfl,?_,?_,fun x en s hq=> ?_⟩
       ·dsimp only;exact ⟨by omega,by omega,hml⟩
       ·simp only;omega
       ·exact hq
      ·have p3':lexLt (memb m) best=false:=by simpa using p3
       rw [p3'] at hk2
       have q3:(k<0)=False:=eq_false (by simpa using hk2)
       rw [if_neg p3]
       simp only [go_sem,reduceIte,Nat.reduceEqDiff,Nat.reduceAdd,Nat.reduceSub,Nat.reduceLeDiff,Nat.reduceLT,reduceCtorEq,Int.reduceLT,Int.reduceLE,Int.reduceEq,Int.reduceBEq,Int.reduceSub,Int.reduceAdd,Int.reduceMul,Int.reduceNeg,Int.reduceToNat,Nat.reduceMul,Nat.reduceBEq,index_rsl_if,setm,make_ints,condK_dec,wantK_dec,not_dec,and_dec,or_dec,seqK_ite,seqK_none,blockK_ite,blockK_none,opsK_ite,opsK_none,stepK_ite,stepK_none,bodyK_ite,bodyK_none,resK_ite,resK_none,leaveK_ite,leaveK_none,only_ite,only_none,bind_ite,gives_some,gives_none,gives_ite,then_normal,then_ret,then_exit,then_none,then_ite,Option.bind_none,Bool.not_eq_true',decide_eq_false_iff_not,Bool.and_eq_true,Bool.or_eq_true,Option.some.injEq,Int.not_lt,Int.not_le,lp62_0,hlt,h104,h79,hs,hs2,q0,q0',q1,q2,hk,q3,List.length_map]
       refine ⟨(m+1,best,many+1),by simp only [go_sem,reduceIte,Nat.reduceEqDiff,Nat.reduceAdd,Nat.reduceSub,Nat.reduceLeDiff,Nat.reduceLT,reduceCtorEq,Int.reduceLT,Int.reduceLE,Int.reduceEq,Int.reduceBEq,Int.reduceSub,Int.reduceAdd,Int.reduceMul,Int.reduceNeg,Int.reduceToNat,Nat.reduceMul,Nat.reduceBEq,ren1_locm,loc_tips,locT_eq]<;>rfl,?_,?_,fun x en s hq=> ?_⟩
       ·dsimp only;exact ⟨by omega,by omega,h3⟩
       ·simp only;omega
       ·exact hq
 ·have hlt:((m:Int)<((2^n:Nat):Int))=False:=eq_false (by omega)
  have e0:2^n-m=0:=by omega
  rw [e0]
  simp only [go_sem,reduceIte,Nat.reduceEqDiff,Nat.reduceAdd,Nat.reduceSub,Nat.reduceLeDiff,Nat.reduceLT,reduceCtorEq,Int.reduceLT,Int.reduceLE,Int.reduceEq,Int.reduceBEq,Int.reduceSub,Int.reduceAdd,Int.reduceMul,Int.reduceNeg,Int.reduceToNat,Nat.reduceMul,Nat.reduceBEq,index_rsl_if,setm,make_ints,condK_dec,wantK_dec,not_dec,and_dec,or_dec,seqK_ite,seqK_none,blockK_ite,blockK_none,opsK_ite,opsK_none,stepK_ite,stepK_none,bodyK_ite,bodyK_none,resK_ite,resK_none,leaveK_ite,leaveK_none,only_ite,only_none,bind_ite,gives_some,gives_none,gives_ite,then_normal,then_ret,then_exit,then_none,then_ite,Option.bind_none,Bool.not_eq_true',decide_eq_false_iff_not,Bool.and_eq_true,Bool.or_eq_true,Option.some.injEq,Int.not_lt,Int.not_le,lp62_0,hlt]
  exact ⟨rfl,rfl⟩
def shAll (n:Nat) (ps:List (Int×Int)):List Int×Nat:=(List.range (2^n)).foldl (shStep ps) ([],0)
theorem c62 (nl:Bool)(n:Nat)(hn:n≤7)(ps:List (Int×Int))(hlen:ps.length<1000000)(hok7: ∀p∈ps,okP p)(st:St):
  run L 62 [bkAV nl n ps] st=some (.tup [sl 1 true ((shAll n ps).1.map I),I (shAll n ps).2],st):=by
 rw [run_pure (fn:=ir62) rfl rfl]
 have hsh:=sh1_eq n (by omega)
 simp only [ir62,go_sem,reduceIte,Nat.reduceEqDiff,Nat.reduceAdd,Nat.reduceSub,Nat.reduceLeDiff,Nat.reduceLT,reduceCtorEq,Int.reduceLT,Int.reduceLE,Int.reduceEq,Int.reduceBEq,Int.reduceSub,Int.reduceAdd,Int.reduceMul,Int.reduceNeg,Int.reduceToNat,Nat.reduceMul,Nat.reduceBEq,hsh]
 generalize hg:lim (headed pure (run L) true _ lp62_0 _ _) _ _=o
 obtain ⟨x,en,s,rfl,h2⟩: ∃x en s,o=some (x,en,s)∧_:=by rw [←hg];exact loop62 nl n hn ps hlen hok7 0 [] 0 ⟨by omega,by omega,by simp⟩ _ _ (by simp only [go_sem,reduceIte,Nat.reduceEqDiff,Nat.reduceAdd,Nat.reduceSub,Nat.reduceLeDiff,Nat.reduceLT,reduceCtorEq,Int.reduceLT,Int.reduceLE,Int.reduceEq,Int.reduceBEq,Int.reduceSub,Int.reduceAdd,Int.reduceMul,Int.reduceNeg,Int.reduceToNat,Nat.reduceMul,Nat.reduceBEq,sl_nil,List.map_nil,Int.natCast_zero]<;>rfl)
 clear hg
 obtain ⟨rfl,h3,h4⟩:=h2
 rw [Nat.sub_zero,←List.range_eq_range'] at h3 h4
 simp only [go_sem,reduceIte,Nat.reduceEqDiff,Nat.reduceAdd,Nat.reduceSub,Nat.reduceLeDiff,Nat.reduceLT,reduceCtorEq,Int.reduceLT,Int.reduceLE,Int.reduceEq,Int.reduceBEq,Int.reduceSub,Int.reduceAdd,Int.reduceMul,Int.reduceNeg,Int.reduceToNat,Nat.reduceMul,Nat.reduceBEq,h3,h4]
 rfl
def orU (a b:Nat):Nat:=a % 2^64|||b % 2^64
theorem or_u (a b:Nat):binAV .or none (.v (.int .u64 (a:Int))) (.v (.int .u64 (b:Int)))=some (.v (.int .u64 ((orU a b:Nat):Int))):=by
 have h:(BitVec.ofInt 64 (a:Int)|||BitVec.ofInt 64 (b:Int)).toNat=orU a b:=by
  rw [BitVec.toNat_or];simp [BitVec.ofInt_natCast,orU]
 show some (AV.v (.int .u64 (IntKind.u64.wrap ((BitVec.ofInt 64 (a:Int)|||BitVec.ofInt 64 (b:Int)).toNat:Int))))=_
 rw [h,wrapU]
 unfold orU
 exact Nat.or_lt_two_pow (Nat.mod_lt _ (by decide)) (Nat.mod_lt _ (by decide))
theorem orU_eq (a b:Nat)(ha:a<128)(hb:b<128):orU a b=a|||b:=by
 unfold orU;rw [Nat.mod_eq_of_lt (by omega),Nat.mod_eq_of_lt (by omega)]
attribute [local go_sem high] and_one shr_u shl_one or_u
theorem prsErr_zero {n:Int}: ∀{ps seen:List (Int×Int)},prsErr n seen ps=0→∀p∈ps,0≤p.1∧p.1<p.2∧p.2<n
 | [],_,_,p,hp=>by simp at hp
 |a::r,seen,h,p,hp=>by
  simp only [prsErr] at h
  split at h
  ·next h0=>
   unfold prErr at h0
   split at h0
   ·omega
   ·split at h0
    ·omega
    ·rcases List.mem_cons.1 hp with rfl|hp
     ·exact ⟨by omega,by omega,by omega⟩
     ·exact prsErr_zero h p hp
  ·next h0=>exact absurd h h0
theorem chk_zero {n:Int} {ps:List (Int×Int)} (h:chk n ps=0):1≤n∧n≤7∧ps.length≤10∧(∀p∈ps,0≤p.1∧p.1<p.2∧p.2<n)∧∀p∈ps,okP p:=by
 unfold chk at h
 split at h
 ·omega
 ·split at h
  ·omega
  ·have:=prsErr_zero h
   exact ⟨by omega,by omega,by omega,this,fun p hp=>by have:=this p hp;unfold okP;omega⟩
def firstV (n:Int) (ps:List (Int×Int)):List Int×Int:=if chk n ps=0 then ((shAll n.toNat ps).1,0) else ([],chk n ps)
theorem c17 (nl:Bool)(n:Int)(ps:List (Int×Int))(st:St):run L 17 [bkAV nl n ps] st=some (.tup [sl 1 true ((firstV n ps).1.map I),I (firstV n ps).2],st):=by
 rw [run_pure (fn:=ir17) rfl rfl]
 have h22:=fun st=>c61 nl n ps st
 unfold firstV
 by_cases h:chk n ps=0
 ·obtain ⟨h1,h2,h3,h4,h5⟩:=chk_zero h
  obtain ⟨k,rfl⟩:=Int.eq_ofNat_of_zero_le (show 0≤n by omega)
  have h72:=fun st=>c62 nl k (by omega) ps (by omega) h5 st
  rw [if_pos h]
  simp only [Int.toNat_natCast]
  simp only [ir17,go_sem,reduceIte,Nat.reduceEqDiff,Nat.reduceAdd,Nat.reduceSub,Nat.reduceLeDiff,Nat.reduceLT,reduceCtorEq,Int.reduceLT,Int.reduceLE,Int.reduceEq,Int.reduceBEq,Int.reduceSub,Int.reduceAdd,Int.reduceMul,Int.reduceNeg,Int.reduceToNat,Nat.reduceMul,Nat.reduceBEq,h22,h,h72]
 ·rw [if_neg h]
  simp only [ir17,go_sem,reduceIte,Nat.reduceEqDiff,Nat.reduceAdd,Nat.reduceSub,Nat.reduceLeDiff,Nat.reduceLT,reduceCtorEq,Int.reduceLT,Int.reduceLE,Int.reduceEq,Int.reduceBEq,Int.reduceSub,Int.reduceAdd,Int.reduceMul,Int.reduceNeg,Int.reduceToNat,Nat.reduceMul,Nat.reduceBEq,h22,h]
  rfl
def wErr (n:Int):Int→List Int→Int
 |_,[]=>0
 |last,a::r=>if a<0∨n≤a then 2 else if a≤last then 7 else wErr n a r
def setOf (l:List Int) (m:Nat):Nat:=l.foldl (fun m a=>m|||2^a.toNat) m
def validV (n:Int) (ps:List (Int×Int)) (l:List Int):Int:=
 if chk n ps=0 then (if wErr n (-1) l=0 then (if expl ps (setOf l 0)=true then 0 else 21) else wErr n (-1) l) else chk n ps
theorem loop22 (nl n2:Bool)(n:Int)(hn:n≤7)(ps:List (Int×Int))(l:List Int)(hlen:l.length<1000000)(i:Nat)(m:Nat)(last:Int)(hok:i≤l.length∧m<128)(env:Env)(st:St)
  (hg:gcAV true 1 0 (canon env [2,6,7,15,16,17]) st=([(2,.ptr 0 0),(6,.v (.int .u64 (m:Int))),(7,I last),(15,sl 1 n2 (l.map I)),(16,I l.length),(17,I i)],⟨[bkCells nl n ps],[]⟩)):
  ∃x_1 en s,lim (headed pure (run L) true [2,6,7,15,16,17] lp22_0 1 0) env st=some (x_1,en,s)∧(if wErr n last (l.drop i)=0 then x_1=.exit 0∧en.get 2=.ptr 0 0∧s=⟨[bkCells nl n ps],[]⟩∧en.get 6=U (setOf (l.drop i) m)∧setOf (l.drop i) m<128 else x_1=.ret∧en.get 4=I (wErr n last (l.drop i))):=by
 refine loop_wp (α:=Nat×Nat×Int) (fun ⟨i,m,last⟩=>l.length-i) (fun ⟨i,m,last⟩=>i≤l.length∧m<128) (fun ⟨i,m,last⟩=>([(2,.ptr 0 0),(6,.v (.int .u64 (m:Int))),(7,I last),(15,sl 1 n2 (l.map I)),(16,I l.length),(17,I i)],⟨[bkCells nl n ps],[]⟩)) (fun ⟨i,m,last⟩ x_1 en s=>if wErr n last (l.drop i)=0 then x_1=.exit 0∧en.get 2=.ptr 0 0∧s=⟨[bkCells nl n ps],[]⟩∧en.get 6=U (setOf (l.drop i) m)∧setOf (l.drop i) m<128 else x_1=.ret∧en.get 4=I (wErr n last (l.drop i))) (fun ⟨i,m,last⟩ hok=> ?_) ⟨i,m,last⟩ hok env st hg
 simp only at hok
 obtain ⟨h1,h2⟩:=hok
 dsimp only
 by_cases h:i<l.length
 ·have hx:=index_ints n2 l i h
  have hs:=succ64 i (by omega)
  have hd:l.drop i=l[i]::l.drop (i+1):=List.drop_eq_getElem_cons h
  have hlt:((i:Int)<(l.length:Int))=True:=eq_true (by omega)
  rw [hd]
  generalize l[i]=a at*
  by_cases p1:a<0
  ·have he:wErr n last (a::l.drop (i+1))=2:=by simp only [wErr];rw [if_pos (.inl p1)]
   simp only [go_sem,reduceIte,Nat.reduceEqDiff,Nat.reduceAdd,Nat.reduceSub,Nat.reduceLeDiff,Nat.reduceLT,reduceCtorEq,Int.reduceLT,Int.reduceLE,Int.reduceEq,Int.reduceBEq,Int.reduceSub,Int.reduceAdd,Int.reduceMul,Int.reduceNeg,Int.reduceToNat,Nat.reduceMul,Nat.reduceBEq,index_rsl_if,setm,make_ints,condK_dec,wantK_dec,not_dec,and_dec,or_dec,seqK_ite,seqK_none,blockK_ite,blockK_none,opsK_ite,opsK_none,stepK_ite,stepK_none,bodyK_ite,bodyK_none,resK_ite,resK_none,leaveK_ite,leaveK_none,only_ite,only_none,bind_ite,gives_some,gives_none,gives_ite,then_normal,then_ret,then_exit,then_none,then_ite,Option.bind_none,Bool.not_eq_true',decide_eq_false_iff_not,Bool.and_eq_true,Bool.or_eq_true,Option.some.injEq,Int.not_lt,Int.not_le,lp22_0,hx,hlt,p1]
   rw [he];simp
  by_cases p2:n≤a
  ·have he:wErr n last (a::l.drop (i+1))=2:=by simp only [wErr];rw [if_pos (.inr p2)]
   simp only [go_sem,reduceIte,Nat.reduceEqDiff,Nat.reduceAdd,Nat.reduceSub,Nat.reduceLeDiff,Nat.reduceLT,reduceCtorEq,Int.reduceLT,Int.reduceLE,Int.reduceEq,Int.reduceBEq,Int.reduceSub,Int.reduceAdd,Int.reduceMul,Int.reduceNeg,Int.reduceToNat,Nat.reduceMul,Nat.reduceBEq,index_rsl_if,setm,make_ints,condK_dec,wantK_dec,not_dec,and_dec,or_dec,seqK_ite,seqK_none,blockK_ite,blockK_none,opsK_ite,opsK_none,stepK_ite,stepK_none,bodyK_ite,bodyK_none,resK_ite,resK_none,leaveK_ite,leaveK_none,only_ite,only_none,bind_ite,gives_some,gives_none,gives_ite,then_normal,then_ret,then_exit,then_none,then_ite,Option.bind_none,Bool.not_eq_true',decide_eq_false_iff_not,Bool.and_eq_true,Bool.or_eq_true,Option.some.injEq,Int.not_lt,Int.not_le,lp22_0,hx,hlt,p1,p2]
   rw [he];simp
  by_cases p3:a≤last
  ·have he:wErr n last (a::l.drop (i+1))=7:=by simp only [wErr];rw [if_neg (by omega),if_pos p3]
   simp only [go_sem,reduceIte,Nat.reduceEqDiff,Nat.reduceAdd,Nat.reduceSub,Nat.reduceLeDiff,Nat.reduceLT,reduceCtorEq,Int.reduceLT,Int.reduceLE,Int.reduceEq,Int.reduceBEq,Int.reduceSub,Int.reduceAdd,Int.reduceMul,Int.reduceNeg,Int.reduceToNat,Nat.reduceMul,Nat.reduceBEq,index_rsl_if,setm,make_ints,condK_dec,wantK_dec,not_dec,and_dec,or_dec,seqK_ite,seqK_none,blockK_ite,blockK_none,opsK_ite,opsK_none,stepK_ite,stepK_none,bodyK_ite,bodyK_none,resK_ite,resK_none,leaveK_ite,leaveK_none,only_ite,only_none,bind_ite,gives_some,gives_none,gives_ite,then_normal,then_ret,then_exit,then_none,then_ite,Option.bind_none,Bool.not_eq_true',decide_eq_false_iff_not,Bool.and_eq_true,Bool.or_eq_true,Option.some.injEq,Int.not_lt,Int.not_le,lp22_0,hx,hlt,p1,p2,p3]
   rw [he];simp
  ·have he:wErr n last (a::l.drop (i+1))=wErr n a (l.drop (i+1)):=by simp only [wErr];rw [if_neg (by omega),if_neg p3]
   obtain ⟨b,rfl⟩:=Int.eq_ofNat_of_zero_le (show 0≤a by omega)
   have hb:2^b<128:=Nat.pow_lt_pow_right (by omega) (show b<7 by omega)
   have hsh:=sh1_eq b (by omega)
   have hor:=orU_eq m (2^b) h2 hb
   have hlt2:m|||2^b<128:=Nat.or_lt_two_pow (n:=7) h2 hb
   have hset:setOf ((b:Int)::l.drop (i+1)) m=setOf (l.drop (i+1)) (m|||2^b):=rfl
   generalize m|||2^b=m2 at*
   simp only [go_sem,reduceIte,Nat.reduceEqDiff,Nat.reduceAdd,Nat.reduceSub,Nat.reduceLeDiff,Nat.reduceLT,reduceCtorEq,Int.reduceLT,Int.reduceLE,Int.reduceEq,Int.reduceBEq,Int.reduceSub,Int.reduceAdd,Int.reduceMul,Int.reduceNeg,Int.reduceToNat,Nat.reduceMul,Nat.reduceBEq,index_rsl_if,setm,make_ints,condK_dec,wantK_dec,not_dec,and_dec,or_dec,seqK_ite,seqK_none,blockK_ite,blockK_none,opsK_ite,opsK_none,stepK_ite,stepK_none,bodyK_ite,bodyK_none,resK_ite,resK_none,leaveK_ite,leaveK_none,only_ite,only_none,bind_ite,gives_some,gives_none,gives_ite,then_normal,then_ret,then_exit,then_none,then_ite,Option.bind_none,Bool.not_eq_true',decide_eq_false_iff_not,Bool.and_eq_true,Bool.or_eq_true,Option.some.injEq,Int.not_lt,Int.not_le,lp22_0,hx,hlt,p1,p2,p3,hsh,hor,hs]
   refine ⟨(i+1,m2,(b:Int)),by simp only [go_sem,reduceIte,Nat.reduceEqDiff,Nat.reduceAdd,Nat.reduceSub,Nat.reduceLeDiff,Nat.reduceLT,reduceCtorEq,Int.reduceLT,Int.reduceLE,Int.reduceEq,Int.reduceBEq,Int.reduceSub,Int.reduceAdd,Int.reduceMul,Int.reduceNeg,Int.reduceToNat,Nat.reduceMul,Nat.reduceBEq,ren1_locm,loc_tips,locT_eq]<;>rfl,?_,?_,fun x en s hq=> ?_⟩
   ·dsimp only;exact ⟨by omega,hlt2⟩
   ·simp only;omega
   ·rw [he,hset]
    exact hq
 ·have hd:l.drop i=[]:=List.drop_eq_nil_of_le (by omega)
  have hlt:((i:Int)<(l.length:Int))=False:=eq_false (by omega)
  simp only [go_sem,reduceIte,Nat.reduceEqDiff,Nat.reduceAdd,Nat.reduceSub,Nat.reduceLeDiff,Nat.reduceLT,reduceCtorEq,Int.reduceLT,Int.reduceLE,Int.reduceEq,Int.reduceBEq,Int.reduceSub,Int.reduceAdd,Int.reduceMul,Int.reduceNeg,Int.reduceToNat,Nat.reduceMul,Nat.reduceBEq,index_rsl_if,setm,make_ints,condK_dec,wantK_dec,not_dec,and_dec,or_dec,seqK_ite,seqK_none,blockK_ite,blockK_none,opsK_ite,opsK_none,stepK_ite,stepK_none,bodyK_ite,bodyK_none,resK_ite,resK_none,leaveK_ite,leaveK_none,only_ite,only_none,bind_ite,gives_some,gives_none,gives_ite,then_normal,then_ret,then_exit,then_none,then_ite,Option.bind_none,Bool.not_eq_true',decide_eq_false_iff_not,Bool.and_eq_true,Bool.or_eq_true,Option.some.injEq,Int.not_lt,Int.not_le,lp22_0,hlt]
  rw [hd];simp [wErr,setOf,h2]
theorem c22 (nl n2:Bool)(n:Int)(ps:List (Int×Int))(l:List Int)(hlen:l.length<1000000)(st:St):
  run L 22 [bkAV nl n ps,sl 1 n2 (l.map I)] st=some (I (validV n ps l),st):=by
 rw [run_pure (fn:=ir22) rfl rfl]
 have h22:=fun st=>c61 nl n ps st
 unfold validV
 by_cases h:chk n ps=0
 ·obtain ⟨h1,h2,h3,h4,h5⟩:=chk_zero h
  rw [if_pos h]
  simp only [ir22,go_sem,reduceIte,Nat.reduceEqDiff,Nat.reduceAdd,Nat.reduceSub,Nat.reduceLeDiff,Nat.reduceLT,reduceCtorEq,Int.reduceLT,Int.reduceLE,Int.reduceEq,Int.reduceBEq,Int.reduceSub,Int.reduceAdd,Int.reduceMul,Int.reduceNeg,Int.reduceToNat,Nat.reduceMul,Nat.reduceBEq,h22,h,List.length_map]
  generalize hg:lim (headed pure (run L) true _ lp22_0 _ _) _ _=o
  obtain ⟨x,en,s,rfl,h2⟩: ∃x en s,o=some (x,en,s)∧_:=by rw [←hg];exact loop22 nl n2 n h2 ps l hlen 0 0 (-1) ⟨by omega,by omega⟩ _ _ (by simp only [go_sem,reduceIte,Nat.reduceEqDiff,Nat.reduceAdd,Nat.reduceSub,Nat.reduceLeDiff,Nat.reduceLT,reduceCtorEq,Int.reduceLT,Int.reduceLE,Int.reduceEq,Int.reduceBEq,Int.reduceSub,Int.reduceAdd,Int.reduceMul,Int.reduceNeg,Int.reduceToNat,Nat.reduceMul,Nat.reduceBEq,Int.natCast_zero]<;>rfl)
  clear hg
  rw [List.drop_zero] at h2
  by_cases p:wErr n (-1) l=0
  ·rw [if_pos p] at h2
   obtain ⟨rfl,g1,rfl,g2,g3⟩:=h2
   have h79:=fun st=>c70 nl n ps (by omega) h5 (setOf l 0) g3 st
   rw [if_pos p]
   by_cases q:ps.any (openP (setOf l 0))=true
   ·have q':expl ps (setOf l 0)=false:=by unfold expl;rw [q];rfl
    simp only [go_sem,reduceIte,Nat.reduceEqDiff,Nat.reduceAdd,Nat.reduceSub,Nat.reduceLeDiff,Nat.reduceLT,reduceCtorEq,Int.reduceLT,Int.reduceLE,Int.reduceEq,Int.reduceBEq,Int.reduceSub,Int.reduceAdd,Int.reduceMul,Int.reduceNeg,Int.reduceToNat,Nat.reduceMul,Nat.reduceBEq,g1,g2,h79,q,q']
   ·have q0:ps.any (openP (setOf l 0))=false:=by simpa using q
    have q':expl ps (setOf l 0)=true:=by unfold expl;rw [q0];rfl
    simp only [go_sem,reduceIte,Nat.reduceEqDiff,Nat.reduceAdd,Nat.reduceSub,Nat.reduceLeDiff,Nat.reduceLT,reduceCtorEq,Int.reduceLT,Int.reduceLE,Int.reduceEq,Int.reduceBEq,Int.reduceSub,Int.reduceAdd,Int.reduceMul,Int.reduceNeg,Int.reduceToNat,Nat.reduceMul,Nat.reduceBEq,g1,g2,h79,q0,q']
  ·rw [if_neg p] at h2
   obtain ⟨rfl,g1⟩:=h2
   rw [if_neg p]
   simp only [go_sem,reduceIte,Nat.reduceEqDiff,Nat.reduceAdd,Nat.reduceSub,Nat.reduceLeDiff,Nat.reduceLT,reduceCtorEq,Int.reduceLT,Int.reduceLE,Int.reduceEq,Int.reduceBEq,Int.reduceSub,Int.reduceAdd,Int.reduceMul,Int.reduceNeg,Int.reduceToNat,Nat.reduceMul,Nat.reduceBEq,g1]
 ·rw [if_neg h]
  simp only [ir22,go_sem,reduceIte,Nat.reduceEqDiff,Nat.reduceAdd,Nat.reduceSub,Nat.reduceLeDiff,Nat.reduceLT,reduceCtorEq,Int.reduceLT,Int.reduceLE,Int.reduceEq,Int.reduceBEq,Int.reduceSub,Int.reduceAdd,Int.reduceMul,Int.reduceNeg,Int.reduceToNat,Nat.reduceMul,Nat.reduceBEq,h22,h]
abbrev listAV (l:List Int):AV:=sl 1 false (l.map I)
def vals (s:Nat):List Nat:=if s=2 then [0,2] else [0,1,2]
def allL (s:Nat):Nat→List (List Int)
 |0=> [[]]
 |k+1=>(vals s).flatMap fun (v:Nat)=>(allL s k).map ((v:Int):: ·)
theorem vals_le {s v:Nat} (hv:v∈vals s):v≤2:=by
 unfold vals at hv
 split at hv<;>simp at hv<;>omega
theorem allL_in {s:Nat}: ∀k,∀l∈allL s k,l.length=k∧∀x∈l,0≤x∧x≤2:=by
 intro k
 induction k with
 |zero=>intro l hl;simp [allL] at hl;subst hl;simp
 |succ k ih=>
  intro l hl
  simp only [allL,List.mem_flatMap,List.mem_map] at hl
  obtain ⟨v,hv,r,hr,rfl⟩:=hl
  have h1:=ih r hr
  have h2:=vals_le hv
  refine ⟨by simp [h1.1],fun x hx=> ?_⟩
  rcases List.mem_cons.1 hx with rfl|hx
  ·omega
  ·exact h1.2 x hx
theorem run_args {f:FuncId} {fn:IF} (hf:L.fns f=some fn)(hp:L.pure f=true) {args args':List AV} (st:St)(h:pubs args=pubs args'):run L f args st=run L f args' st:=by
 rw [run_pure hf hp,run_pure hf hp,h]
def sumL:List Int→Int
 | []=>0
 |a::r=>a+sumL r
def enough (v:List Int) (p:Int×Int):Bool:=decide (2≤v.getD p.1.toNat 0+v.getD p.2.toNat 0)
def halfOk (ps:List (Int×Int)) (v:List Int):Bool:=ps.all (enough v)
theorem index_at (nl:Bool)(l:List Int)(a:Int)(h:0≤a)(h2:a<l.length):indexSAV 1 (sl 1 nl (l.map I)) (.v (.int .i64 a))=some (.eptr (I (l.getD a.toNat 0)) 0):=by
 have:=index_ints nl l a.toNat (by omega)
 rw [Int.toNat_of_nonneg h] at this
 rw [this]
 simp [List.getD_eq_getElem?_getD,List.getElem?_eq_getElem (show a.toNat<l.length by omega)]
def withL (x:Int):List Int→Nat→List Int
 | [],_=> []
 |a::r,i=>if a=x then (i:Int)::withL x r (i+1) else withL x r (i+1)
theorem index_lists (nl:Bool)(xs:List (List Int))(i:Nat)(h:i<xs.length):indexSAV 1 (sl 1 nl (xs.map listAV)) (.v (.int .i64 i))=some (.eptr (listAV xs[i]) 0):=by
 rw [index_sl _ _ _ _ _ (by omega) (by simpa using h)]
 simp
def cStep (ps:List (Int×Int)) (out:List (List Int)) (l:List Int):List (List Int):=
 if halfOk ps l=true then
  match out with
  | []=> [l]
  |x::r=>if sumL l<sumL x then [l] else if sumL l=sumL x then (x::r)++ [l] else x::r
 else out
def okL (n:Int) (l:List Int):Prop:=(l.length:Int)=n∧∀x∈l,0≤x∧x≤2
def cheap (n:Nat) (s:Nat) (ps:List (Int×Int)):List (List Int):=(allL s n).foldl (cStep ps) []
def keepF {α:Type} (f:α→Int) (out:List α) (a:α):List α:=
 match out with
 | []=> [a]
 |x::r=>if f a<f x then [a] else if f a=f x then (x::r)++ [a] else x::r
def leastOf {α:Type} (f:α→Int) (Y:List α):List α:=Y.filter fun a=>Y.all fun y=>decide (f a≤f y)
theorem mem_least {α:Type} {f:α→Int} {Y:List α} {a:α}:a∈leastOf f Y↔a∈Y∧∀y∈Y,f a≤f y:=by
 simp [leastOf]
theorem rev_ind {α:Type} {P:List α→Prop} (h0:P [])(h1: ∀l a,P l→P (l++ [a])): ∀l,P l:=by
 intro l
 have: ∀l:List α,P l.reverse:=by
  intro l
  induction l with
  |nil=>exact h0
  |cons a l ih=>rw [List.reverse_cons];exact h1 _ _ ih
 have h:=this l.reverse
 rwa [List.reverse_reverse] at h
theorem least_of_min {α:Type} {f:α→Int} {Y:List α} {x:α} (hx:x∈Y)(h: ∀y∈Y,f x≤f y):leastOf f Y=Y.filter fun a=>decide (f a=f x):=by
 unfold leastOf
 apply List.filter_congr
 intro a ha
 rw [Bool.eq_iff_iff,List.all_eq_true,decide_eq_true_iff]
 constructor
 ·intro h2
  have:=of_decide_eq_true (h2 x hx)
  have:=h a ha
  omega
 ·intro h2 y hy
  have:=h y hy
  exact decide_eq_true (by omega)
theorem keepF_inv {α:Type} (f:α→Int): ∀Y:List α,(Y=[]→Y.foldl (keepF f) []=[])∧(Y≠[]→∃x r,Y.foldl (keepF f) []=x::r∧x∈Y∧(∀y∈Y,f x≤f y)∧Y.foldl (keepF f) []=Y.filter fun a=>decide (f a=f x)):=by
 apply rev_ind
 ·simp
 ·intro Z a ih
  refine ⟨by simp,fun _=> ?_⟩
  rw [List.foldl_append,List.foldl_cons,List.foldl_nil]
  by_cases hz:Z=[]
  ·subst hz
   refine ⟨a,[],rfl,by simp,by simp,?_⟩
   simp [keepF]
  ·obtain ⟨x,r,h1,h2,h3,h4⟩:=ih.2 hz
   generalize hW:Z.foldl (keepF f) []=W at*
   subst h1
   by_cases p1:f a<f x
   ·refine ⟨a,[],by simp [keepF,p1],by simp,?_,?_⟩
    ·intro y hy
     rcases List.mem_append.1 hy with hy|hy
     ·have:=h3 y hy;omega
     ·simp at hy;subst hy;omega
    ·have e:Z.filter (fun y=>decide (f y=f a))=[]:=by
      rw [List.filter_eq_nil_iff];intro y hy;have:=h3 y hy;simp;omega
     rw [List.filter_append,e];simp [keepF,p1]
   ·by_cases p2:f a=f x
    ·refine ⟨x,r++ [a],by simp only [keepF];rw [if_neg p1,if_pos p2];rfl,by simp [h2],?_,?_⟩
     ·intro y hy
      rcases List.mem_append.1 hy with hy|hy
      ·exact h3 y hy
      ·simp at hy;subst hy;omega
     ·rw [List.filter_append,←h4];simp only [keepF];rw [if_neg p1,if_pos p2];simp [p2]
    ·refine ⟨x,r,by simp only [keepF];rw [if_neg p1,if_neg p2],by simp [h2],?_,?_⟩
     ·intro y hy
      rcases List.mem_append.1 hy with hy|hy
      ·exact h3 y hy
      ·simp at hy;subst hy;omega
     ·rw [List.filter_append,←h4];simp only [keepF];rw [if_neg p1,if_neg p2];simp [p2]
theorem keepF_spec {α:Type} (f:α→Int)(Y:List α):Y.foldl (keepF f) []=leastOf f Y:=by
 by_cases h:Y=[]
 ·subst h;rfl
 ·obtain ⟨x,r,h1,h2,h3,h4⟩:=(keepF_inv f Y).2 h
  rw [h4,least_of_min h2 h3]
theorem least_map {α β:Type} {f:α→Int} {g:β→Int} (W:α→β)(Y:List α)(h: ∀a∈Y,∀b∈Y,f a≤f b↔g (W a)≤g (W b)):(leastOf f Y).map W=leastOf g (Y.map W):=by
 unfold leastOf
 rw [List.filter_map]
 congr 1
 apply List.filter_congr
 intro a ha
 rw [Bool.eq_iff_iff]
 simp only [Function.comp,List.all_eq_true,decide_eq_true_iff,List.mem_map]
 constructor
 ·rintro h2 _ ⟨b,hb,rfl⟩;exact (h a ha b hb).1 (h2 b hb)
 ·intro h2 b hb;exact (h a ha b hb).2 (h2 _ ⟨b,hb,rfl⟩)
theorem least_perm {α:Type} (f:α→Int) {A B:List α} (h:A.Perm B):(leastOf f A).Perm (leastOf f B):=by
 unfold leastOf
 have e:(fun a=>A.all fun y=>decide (f a≤f y))=fun a=>B.all fun y=>decide (f a≤f y):=by
  funext a
  rw [Bool.eq_iff_iff]
  simp only [List.all_eq_true]
  constructor
  ·intro h2 y hy;exact h2 y (h.mem_iff.2 hy)
  ·intro h2 y hy;exact h2 y (h.mem_iff.1 hy)
 rw [e]
 exact h.filter _
theorem lex_irrefl: ∀a,lexLt a a=false
 | []=>rfl
 |a::r=>by simp [lexLt,lex_irrefl r]
theorem lex_total: ∀a b,lexLt a b=false→lexLt b a=false→a=b
 | [],[],_,_=>rfl
 | [],b::s,h,_=>by simp [lexLt] at h
 |a::r,[],_,h=>by simp [lexLt] at h
 |a::r,b::s,h1,h2=>by
  simp only [lexLt,Bool.or_eq_false_iff,Bool.and_eq_false_iff,decide_eq_false_iff_not] at h1 h2
  have e:a=b:=by omega
  subst e
  simp at h1 h2
  rw [lex_total r s h1 h2]
theorem lex_trans: ∀a b c,lexLt a b=true→lexLt b c=true→lexLt a c=true
 |a,[],c,h,_=>by cases a<;>simp [lexLt] at h
 |a,b::s,[],_,h=>by simp [lexLt] at h
 | [],b::s,c::t,_,_=>rfl
 |a::r,b::s,c::t,h1,h2=>by
  simp only [lexLt,Bool.or_eq_true,Bool.and_eq_true,decide_eq_true_iff] at h1 h2⊢
  rcases h1 with h1| ⟨rfl,h1⟩
  ·rcases h2 with h2| ⟨rfl,h2⟩
   ·left;omega
   ·left;exact h1
  ·rcases h2 with h2| ⟨rfl,h2⟩
   ·left;exact h2
   ·right;exact ⟨rfl,lex_trans r s t h1 h2⟩
theorem lex_asymm {a b:List Int} (h:lexLt a b=true):lexLt b a=false:=by
 cases h2:lexLt b a
 ·rfl
 ·have:=lex_trans _ _ _ h h2;rw [lex_irrefl] at this;simp at this
theorem lex_le {a b c:List Int} (h1:lexLt b a=false)(h2:lexLt c b=false):lexLt c a=false:=by
 cases h:lexLt c a
 ·rfl
 ·cases h3:lexLt a b
  ·have:=lex_total _ _ h3 h1;subst this;rw [h2] at h;simp at h
  ·have:=lex_trans _ _ _ h h3;rw [h2] at this;simp at this
def pickL (best c:List Int):List Int:=if lexLt c best=true then c else best
theorem pickL_spec: ∀(r:List (List Int)) (b:List Int),r.foldl pickL b∈b::r∧∀c∈b::r,lexLt c (r.foldl pickL b)=false
 | [],b=>by simp [lex_irrefl]
 |a::r,b=>by
  rw [List.foldl_cons]
  obtain ⟨h1,h2⟩:=pickL_spec r (pickL b a)
  have hp:pickL b a=a∨pickL b a=b:=by unfold pickL;split<;>simp
  have ha:lexLt a (pickL b a)=false:=by
   unfold pickL;split
   ·exact lex_irrefl _
   ·next h=>simpa using h
  have hb:lexLt b (pickL b a)=false:=by
   unfold pickL;split
   ·next h=>exact lex_asymm h
   ·exact lex_irrefl _
  refine ⟨?_,?_⟩
  ·rcases List.mem_cons.1 h1 with h|h
   ·rw [h];rcases hp with h|h<;>simp [h]
   ·simp [h]
  ·intro c hc
   have hk:=h2 _ (List.mem_cons_self)
   rcases List.mem_cons.1 hc with rfl|hc
   ·exact lex_le hk hb
   ·rcases List.mem_cons.1 hc with rfl|hc
    ·exact lex_le hk ha
    ·exact h2 c (List.mem_cons_of_mem _ hc)
def shG (s:List Int×Nat) (c:List Int):List Int×Nat:=
 if 0<s.2∧s.1.length<c.length then s
 else if s.2=0∨c.length<s.1.length then (c,1)
 else (if lexLt c s.1=true then c else s.1,s.2+1)
def lenI (l:List Int):Int:=l.length
theorem shG_inv: ∀Y:List (List Int),Y≠[]→0<(Y.foldl shG ([],0)).2∧(Y.foldl shG ([],0)).1∈Y∧(∀y∈Y,lenI (Y.foldl shG ([],0)).1≤lenI y)∧
  (∀y∈Y,lenI y=lenI (Y.foldl shG ([],0)).1→lexLt y (Y.foldl shG ([],0)).1=false)∧(Y.foldl shG ([],0)).2=(Y.filter fun a=>decide (lenI a=lenI (Y.foldl shG ([],0)).1)).length:=by
 apply rev_ind
 ·simp
 ·intro Z a ih _
  rw [List.foldl_append,List.foldl_cons,List.foldl_nil]
  by_cases hz:Z=[]
  ·subst hz
   have e:shG ([],0) a=(a,1):=by simp [shG]
   simp only [List.foldl_nil,e,List.nil_append]
   refine ⟨by simp,by simp,by simp,by simp [lex_irrefl],by simp⟩
  ·obtain ⟨h1,h2,h3,h4,h5⟩:=ih hz
   generalize hW:Z.foldl shG ([],0)=W at*
   obtain ⟨x,k⟩:=W
   simp only at h1 h2 h3 h4 h5
   by_cases p0:x.length<a.length
   ·have e:shG (x,k) a=(x,k):=by unfold shG;rw [if_pos ⟨h1,p0⟩]
    have q: ¬lenI a=lenI x:=by unfold lenI;omega
    rw [e];simp only
    refine ⟨h1,by simp [h2],?_,?_,?_⟩
    ·intro y hy
     rcases List.mem_append.1 hy with hy|hy
     ·exact h3 y hy
     ·simp at hy;subst hy;unfold lenI;omega
    ·intro y hy
     rcases List.mem_append.1 hy with hy|hy
     ·exact h4 y hy
     ·simp at hy;subst hy;intro h;exact absurd h q
    ·rw [List.filter_append,List.length_append,←h5];simp [q]
   ·by_cases p1:a.length<x.length
    ·have e:shG (x,k) a=(a,1):=by unfold shG;rw [if_neg (by simp only;omega),if_pos (.inr p1)]
     have e2:Z.filter (fun y=>decide (lenI y=lenI a))=[]:=by
      rw [List.filter_eq_nil_iff];intro y hy;have:=h3 y hy;unfold lenI at this⊢;simp;omega
     rw [e];simp only
     refine ⟨by omega,by simp,?_,?_,?_⟩
     ·intro y hy
      rcases List.mem_append.1 hy with hy|hy
      ·have:=h3 y hy;unfold lenI at this⊢;omega
      ·simp at hy;subst hy;omega
     ·intro y hy
      rcases List.mem_append.1 hy with hy|hy
      ·have:=h3 y hy;unfold lenI at this⊢;omega
      ·simp at hy;subst hy;intro _;exact lex_irrefl _
     ·rw [List.filter_append,e2];simp
    ·have e:shG (x,k) a=(pickL x a,k+1):=by unfold shG pickL;rw [if_neg (by simp only;omega),if_neg (by simp only;omega)]
     have q:lenI a=lenI x:=by unfold lenI;omega
     have hp:pickL x a=a∨pickL x a=x:=by unfold pickL;split<;>simp
     have q2:lenI (pickL x a)=lenI x:=by rcases hp with h|h<;>rw [h];exact q
     obtain ⟨g1,g2⟩:=pickL_spec [a] x
     simp only [List.foldl_cons,List.foldl_nil] at g1 g2
     have ga:=g2 a (by simp)
     have gx:=g2 x (by simp)
     rw [e];simp only
     refine ⟨by omega,?_,?_,?_,?_⟩
     ·rcases hp with h|h<;>rw [h]<;>simp [h2]
     ·intro y hy
      rw [q2]
      rcases List.mem_append.1 hy with hy|hy
      ·exact h3 y hy
      ·simp at hy;subst hy;omega
     ·intro y hy
      rw [q2]
      rcases List.mem_append.1 hy with hy|hy
      ·intro h;exact lex_le gx (h4 y hy h)
      ·simp at hy;subst hy;intro _;exact ga
     ·rw [q2,List.filter_append,List.length_append,←h5];simp [q]
theorem shG_spec (Y:List (List Int))(h:Y≠[]):(Y.foldl shG ([],0)).1∈leastOf lenI Y∧(∀c∈leastOf lenI Y,lexLt c (Y.foldl shG ([],0)).1=false)∧(Y.foldl shG ([],0)).2=(leastOf lenI Y).length:=by
 obtain ⟨h1,h2,h3,h4,h5⟩:=shG_inv Y h
 rw [least_of_min h2 h3]
 refine ⟨?_,?_,h5⟩
 ·rw [List.mem_filter];exact ⟨h2,by simp⟩
 ·intro c hc
  rw [List.mem_filter] at hc
  exact h4 c hc.1 (of_decide_eq_true hc.2)
theorem shAll_eq (n:Nat)(ps:List (Int×Int)):shAll n ps=(((List.range (2^n)).filter (expl ps)).map memb).foldl shG ([],0):=by
 unfold shAll
 rw [List.foldl_map,List.foldl_filter]
 congr 1
 funext s m
 cases h:expl ps m
 ·simp [shStep,h]
 ·simp [shStep,shG,h]
theorem cheap_eq (n t:Nat)(ps:List (Int×Int)):cheap n t ps=leastOf sumL ((allL t n).filter (halfOk ps)):=by
 unfold cheap
 rw [←keepF_spec,List.foldl_filter]
 congr 1
 funext out l
 unfold cStep keepF
 cases out<;>rfl
def twos (l:List Int):List Int:=withL 2 l 0
theorem perms:(List.range 8).all (fun n=>((List.range (2^n)).map memb).isPerm ((allL 2 n).map twos))=true:=by kernel_rfl
theorem perm_of (n:Nat)(hn:n≤7):((List.range (2^n)).map memb).Perm ((allL 2 n).map twos):=by
 have h:=List.all_eq_true.1 perms n (List.mem_range.2 (by omega))
 exact List.isPerm_iff.1 h
def meets (ps:List (Int×Int)) (s:List Int):Bool:=ps.all fun p=>decide (p.1∈s)||decide (p.2∈s)
theorem mem_memb (m u:Nat):(u:Int)∈memb m↔u<7∧m.testBit u=true:=by
 unfold memb
 simp only [List.mem_map,List.mem_filter,List.mem_range]
 constructor
 ·rintro ⟨a,h,e⟩
  have:a=u:=by omega
  subst this;exact h
 ·intro h;exact ⟨u,h,rfl⟩
theorem expl_meets {ps:List (Int×Int)} (h7: ∀p∈ps,okP p)(m:Nat):expl ps m=meets ps (memb m):=by
 unfold expl meets
 rw [Bool.eq_iff_iff]
 simp only [Bool.not_eq_true',List.any_eq_false,List.all_eq_true,Bool.or_eq_true,decide_eq_true_iff]
 apply forall_congr';intro p
 apply forall_congr';intro hp
 obtain ⟨u,v⟩:=p
 obtain ⟨a1,a2,a3,a4⟩:=h7 _ hp
 simp only at a1 a2 a3 a4
 obtain ⟨u,rfl⟩:=Int.eq_ofNat_of_zero_le a1
 obtain ⟨v,rfl⟩:=Int.eq_ofNat_of_zero_le a3
 rw [mem_memb,mem_memb]
 unfold openP
 simp only [Int.toNat_natCast]
 have b1:u<7:=by omega
 have b2:v<7:=by omega
 cases m.testBit u<;>cases m.testBit v<;>simp [b1,b2]
theorem mem_withL (x a:Int): ∀(l:List Int) (i:Nat),a∈withL x l i↔∃k:Nat,l[k]? =some x∧a=((i+k:Nat):Int)
 | [],i=>by simp [withL]
 |b::r,i=>by
  have ih:=mem_withL x a r (i+1)
  have hk:(∃k:Nat,(b::r)[k]? =some x∧a=((i+k:Nat):Int))↔(b=x∧a=(i:Int))∨∃k:Nat,r[k]? =some x∧a=((i+1+k:Nat):Int):=by
   constructor
   ·rintro ⟨k,h1,h2⟩
    cases k with
    |zero=>left;exact ⟨by simpa using h1,by simpa using h2⟩
    |succ k=>right;exact ⟨k,by simpa using h1,by rw [h2];congr 1;omega⟩
   ·rintro (⟨h1,h2⟩ | ⟨k,h1,h2⟩)
    ·exact ⟨0,by simp [h1],by simp [h2]⟩
    ·exact ⟨k+1,by simpa using h1,by rw [h2];congr 1;omega⟩
  rw [hk,←ih]
  simp only [withL]
  split
  ·next h=>rw [List.mem_cons];simp [h]
  ·next h=>simp [h]
theorem mem_twos (l:List Int)(u:Nat):(u:Int)∈twos l↔l.getD u 0=2:=by
 unfold twos
 rw [mem_withL,List.getD_eq_getElem?_getD]
 constructor
 ·rintro ⟨k,h1,h2⟩
  have:k=u:=by omega
  subst this;rw [h1];rfl
 ·intro h
  refine ⟨u,?_,by simp⟩
  cases h2:l[u]?
  ·rw [h2] at h;simp at h
  ·rw [h2] at h;simp at h;rw [h]
theorem allL2_val: ∀k,∀l∈allL 2 k,∀x∈l,x=0∨x=2:=by
 intro k
 induction k with
 |zero=>intro l hl x hx;simp [allL] at hl;subst hl;simp at hx
 |succ k ih=>
  intro l hl x hx
  simp only [allL,List.mem_flatMap,List.mem_map] at hl
  obtain ⟨v,hv,r,hr,rfl⟩:=hl
  rcases List.mem_cons.1 hx with rfl|hx
  ·have:v=0∨v=2:=by simpa [vals] using hv
   omega
  ·exact ih r hr x hx
theorem getD2 {l:List Int} (h: ∀x∈l,x=0∨x=2)(u:Nat):l.getD u 0=0∨l.getD u 0=2:=by
 rw [List.getD_eq_getElem?_getD]
 cases h2:l[u]?
 ·simp
 ·exact h _ (List.mem_of_getElem? h2)
theorem half_meets {ps:List (Int×Int)} (h7: ∀p∈ps,okP p) {l:List Int} (h: ∀x∈l,x=0∨x=2):halfOk ps l=meets ps (twos l):=by
 unfold halfOk meets
 rw [Bool.eq_iff_iff]
 simp only [List.all_eq_true,Bool.or_eq_true,decide_eq_true_iff]
 apply forall_congr';intro p
 apply forall_congr';intro hp
 obtain ⟨u,v⟩:=p
 obtain ⟨a1,a2,a3,a4⟩:=h7 _ hp
 simp only at a1 a2 a3 a4
 obtain ⟨u,rfl⟩:=Int.eq_ofNat_of_zero_le a1
 obtain ⟨v,rfl⟩:=Int.eq_ofNat_of_zero_le a3
 rw [mem_twos,mem_twos]
 unfold enough
 simp only [Int.toNat_natCast,decide_eq_true_iff]
 rcases getD2 h u with e1|e1<;>rcases getD2 h v with e2|e2<;>rw [e1,e2]<;>simp
theorem two_sum: ∀(l:List Int) (i:Nat),(∀x∈l,x=0∨x=2)→sumL l=2*((withL 2 l i).length:Int)
 | [],i,_=>by simp [sumL,withL]
 |a::r,i,h=>by
  have ih:=two_sum r (i+1) (fun x hx=>h x (by simp [hx]))
  rcases h a (by simp) with rfl|rfl
  ·simp only [sumL,withL];rw [if_neg (by omega),ih];omega
  ·simp only [sumL,withL,if_true];rw [ih,List.length_cons];omega
theorem full_mem (t:Nat): ∀k,List.replicate k (2:Int)∈allL t k:=by
 intro k
 induction k with
 |zero=>simp [allL]
 |succ k ih=>
  simp only [allL,List.mem_flatMap,List.mem_map]
  refine ⟨2,?_,_,ih,?_⟩
  ·unfold vals;split<;>simp
  ·rfl
theorem full_ok {n:Nat} {ps:List (Int×Int)} (hps: ∀p∈ps,0≤p.1∧p.1<p.2∧p.2<(n:Int)):halfOk ps (List.replicate n 2)=true:=by
 unfold halfOk
 rw [List.all_eq_true]
 intro p hp
 have:=hps p hp
 have h1:p.1.toNat<n:=by omega
 have h2:p.2.toNat<n:=by omega
 simp [enough,List.getD_eq_getElem?_getD,List.getElem?_replicate,h1,h2]
theorem half_ne {n:Nat} (t:Nat) {ps:List (Int×Int)} (hps: ∀p∈ps,0≤p.1∧p.1<p.2∧p.2<(n:Int)):(allL t n).filter (halfOk ps)≠[]:=
 List.ne_nil_of_mem (List.mem_filter.2 ⟨full_mem t n,full_ok hps⟩)
theorem cheap_mem {n t:Nat} {ps:List (Int×Int)} {l:List Int}:l∈cheap n t ps↔(l∈allL t n∧halfOk ps l=true)∧∀y∈allL t n,halfOk ps y=true→sumL l≤sumL y:=by
 rw [cheap_eq,mem_least,List.mem_filter]
 simp only [List.mem_filter,and_imp]
theorem cheap_in {n t:Nat} {ps:List (Int×Int)} {l:List Int} (h:l∈cheap n t ps):okL n l:=by
 have:=allL_in n l (cheap_mem.1 h).1.1
 exact ⟨by omega,this.2⟩
theorem short_perm {n:Nat} (hn:n≤7) {ps:List (Int×Int)} (h7: ∀p∈ps,okP p):(((List.range (2^n)).filter (expl ps)).map memb).Perm (((allL 2 n).filter (halfOk ps)).map twos):=by
 have e1:((List.range (2^n)).filter (expl ps)).map memb=((List.range (2^n)).map memb).filter (meets ps):=by
  rw [List.filter_map];congr 1
  apply List.filter_congr;intro m _;exact expl_meets h7 m
 have e2:((allL 2 n).filter (halfOk ps)).map twos=((allL 2 n).map twos).filter (meets ps):=by
  rw [List.filter_map];congr 1
  apply List.filter_congr;intro l hl;exact half_meets h7 (allL2_val n l hl)
 rw [e1,e2]
 exact (perm_of n hn).filter _
theorem cheap_twos (n:Nat)(ps:List (Int×Int)):(cheap n 2 ps).map twos=leastOf lenI (((allL 2 n).filter (halfOk ps)).map twos):=by
 rw [cheap_eq]
 apply least_map
 intro a ha b hb
 have h1:=two_sum a 0 (allL2_val n a (List.mem_filter.1 ha).1)
 have h2:=two_sum b 0 (allL2_val n b (List.mem_filter.1 hb).1)
 rw [h1,h2];unfold lenI twos;omega
theorem short_spec {n:Nat} (hn:n≤7) {ps:List (Int×Int)} (hps: ∀p∈ps,0≤p.1∧p.1<p.2∧p.2<(n:Int))(h7: ∀p∈ps,okP p):
  (shAll n ps).1∈(cheap n 2 ps).map twos∧(∀c∈(cheap n 2 ps).map twos,lexLt c (shAll n ps).1=false)∧(shAll n ps).2=(cheap n 2 ps).length:=by
 have hp:=short_perm hn h7
 have hl:=least_perm lenI hp
 have hne:((List.range (2^n)).filter (expl ps)).map memb≠[]:=by
  intro h;rw [h] at hp
  have:=hp.length_eq
  rw [List.length_map,List.length_nil] at this
  exact half_ne 2 hps (List.length_eq_zero_iff.1 this.symm)
 obtain ⟨h1,h2,h3⟩:=shG_spec _ hne
 rw [←shAll_eq] at h1 h2 h3
 rw [cheap_twos]
 refine ⟨hl.mem_iff.1 h1,fun c hc=>h2 c (hl.mem_iff.2 hc),?_⟩
 rw [h3,hl.length_eq,←cheap_twos,List.length_map]
theorem setOf_testBit: ∀(l:List Int) (m u:Nat),(∀x∈l,0≤x)→((setOf l m).testBit u=true↔m.testBit u=true∨(u:Int)∈l)
 | [],m,u,_=>by simp [setOf]
 |a::r,m,u,h=>by
  have e:setOf (a::r) m=setOf r (m|||2^a.toNat):=rfl
  have ha:=h a (by simp)
  rw [e,setOf_testBit r _ u (fun x hx=>h x (by simp [hx])),Nat.testBit_or,Nat.testBit_two_pow,Bool.or_eq_true,decide_eq_true_iff,List.mem_cons]
  have:a.toNat=u↔(u:Int)=a:=by omega
  rw [this,or_assoc]
def orAt (o:List Nat) (i b:Nat):List Nat:=o.set i (o.getD i 0|||2^b)
def adv1 (o:List Nat) (p:Int×Int):List Nat:=orAt (orAt o p.1.toNat p.2.toNat) p.2.toNat p.1.toNat
def advL (ps:List (Int×Int)):List Nat:=ps.foldl adv1 (List.replicate 7 0)
def nb (ps:List (Int×Int)) (u v:Nat):Prop:=((u:Int),(v:Int))∈ps∨((v:Int),(u:Int))∈ps
theorem nb_symm {ps:List (Int×Int)} {u v:Nat} (h:nb ps u v):nb ps v u:=h.symm
theorem orAt_len (o:List Nat)(i b:Nat):(orAt o i b).length=o.length:=by simp [orAt]
theorem orAt_bit (o:List Nat)(i b j k:Nat)(hi:i<o.length):((orAt o i b).getD j 0).testBit k=true↔(o.getD j 0).testBit k=true∨(j=i∧k=b):=by
 unfold orAt
 simp only [List.getD_eq_getElem?_getD,List.getElem?_set]
 by_cases h:i=j
 ·subst h
  simp only [hi,if_true,Option.getD_some,Nat.testBit_or,Nat.testBit_two_pow,Bool.or_eq_true,decide_eq_true_iff]
  constructor<;>rintro (h|h)<;>simp_all
 ·simp only [if_neg h]
  constructor
  ·exact .inl
  ·rintro (h2|h2)
   ·exact h2
   ·exact absurd h2.1.symm h
theorem adv_bit: ∀(ps:List (Int×Int)) (o:List Nat),o.length=7→(∀p∈ps,okP p)→((ps.foldl adv1 o).length=7∧∀u v:Nat,((ps.foldl adv1 o).getD u 0).testBit v=true↔(o.getD u 0).testBit v=true∨nb ps u v)
 | [],o,h,_=>by simp [h,nb]
 |p::r,o,h,h7=>by
  have hp:=h7 p (by simp)
  obtain ⟨a,b⟩:=p
  obtain ⟨a1,a2,a3,a4⟩:=hp
  simp only at a1 a2 a3 a4
  obtain ⟨a,rfl⟩:=Int.eq_ofNat_of_zero_le a1
  obtain ⟨b,rfl⟩:=Int.eq_ofNat_of_zero_le a3
  rw [List.foldl_cons]
  have e:adv1 o ((a:Int),(b:Int))=orAt (orAt o a b) b a:=rfl
  have hl:(adv1 o ((a:Int),(b:Int))).length=7:=by rw [e,orAt_len,orAt_len,h]
  obtain ⟨g1,g2⟩:=adv_bit r _ hl (fun q hq=>h7 q (by simp [hq]))
  refine ⟨g1,fun u v=> ?_⟩
  rw [g2 u v,e,orAt_bit _ _ _ _ _ (by rw [orAt_len];omega),orAt_bit _ _ _ _ _ (by omega)]
  unfold nb
  simp only [List.mem_cons,Prod.mk.injEq,Int.natCast_inj]
  generalize (o.getD u 0).testBit v=X
  constructor
  ·rintro (((h|h)|h)|h|h)<;>simp [h]
  ·rintro (h|(h|h)|(h|h))<;>simp [h]
theorem advL_len {ps:List (Int×Int)} (h7: ∀p∈ps,okP p):(advL ps).length=7:=(adv_bit ps _ (by simp) h7).1
theorem advL_bit {ps:List (Int×Int)} (h7: ∀p∈ps,okP p)(u v:Nat):((advL ps).getD u 0).testBit v=true↔nb ps u v:=by
 have:=(adv_bit ps (List.replicate 7 0) (by simp) h7).2 u v
 unfold advL
 rw [this,List.getD_eq_getElem?_getD,List.getElem?_replicate]
 split<;>simp
def twoOf (ps:List (Int×Int)) (z:Nat):Nat:=(memb z).foldl (fun (t:Nat) (a:Int)=>t|||(advL ps).getD a.toNat 0) 0
theorem two_fold (g:Nat→Nat)(v:Nat): ∀(l:List Int) (t:Nat),((l.foldl (fun (t:Nat) (a:Int)=>t|||g a.toNat) t).testBit v=true↔t.testBit v=true∨∃a∈l,(g a.toNat).testBit v=true)
 | [],t=>by simp
 |a::r,t=>by
  rw [List.foldl_cons,two_fold g v r]
  rw [Nat.testBit_or,Bool.or_eq_true,or_assoc]
  simp
theorem two_bit {ps:List (Int×Int)} (h7: ∀p∈ps,okP p)(z v:Nat)(hz:z<128):(twoOf ps z).testBit v=true↔∃u,z.testBit u=true∧nb ps u v:=by
 have:=two_fold (fun a=>(advL ps).getD a 0) v (memb z) 0
 unfold twoOf
 rw [this,Nat.zero_testBit]
 simp only [Bool.false_eq_true,false_or]
 constructor
 ·rintro ⟨a,h1,h2⟩
  have h3:=h1
  unfold memb at h3
  rw [List.mem_map] at h3
  obtain ⟨u,_,rfl⟩:=h3
  rw [Int.toNat_natCast,advL_bit h7] at h2
  exact ⟨u,((mem_memb z u).1 h1).2,h2⟩
 ·rintro ⟨u,h1,h2⟩
  refine ⟨(u:Int),(mem_memb z u).2 ⟨?_,h1⟩,by rw [Int.toNat_natCast,advL_bit h7];exact h2⟩
  rcases Nat.lt_or_ge u 7 with h|h
  ·exact h
  ·have:z.testBit u=false:=Nat.testBit_lt_two_pow (Nat.lt_of_lt_of_le (show z<2^7 from hz) (Nat.pow_le_pow_right (by omega) h))
   rw [this] at h1;simp at h1
def bitI (m a:Nat):Int:=(((m >>>a) % 2:Nat):Int)
theorem bitI_eq (m a:Nat):bitI m a=if m.testBit a=true then 1 else 0:=by
 unfold bitI
 have h:=bit_zero m a
 have h2:(m >>>a) % 2<2:=Nat.mod_lt _ (by omega)
 by_cases p:m.testBit a=true
 ·rw [if_pos p]
  have: ¬((((m >>>a) % 2:Nat):Int)=0):=by rw [h];simp [p]
  omega
 ·rw [if_neg p]
  rw [h];simpa using p
def valsOf (n two z:Nat):List Int:=(List.range n).map fun a=>1+bitI two a-bitI z a
def costOf (n two z:Nat):Int:=(n:Int)+(memb two).length-(memb z).length
theorem sum_map {α:Type} (f g h:α→Int): ∀l:List α,sumL (l.map fun a=>1+f a-g a)=l.length+sumL (l.map f)-sumL (l.map g)
 | []=>by simp [sumL]
 |a::r=>by
  have:=sum_map f g h r
  simp only [List.map_cons,sumL,List.length_cons,this];omega
theorem bit_sums:(List.range 8).all (fun n=>(List.range (2^n)).all fun m=>decide (sumL ((List.range n).map (bitI m))=((memb m).length:Int)))=true:=by kernel_rfl
theorem bit_sum {n m:Nat} (hn:n≤7)(hm:m<2^n):sumL ((List.range n).map (bitI m))=((memb m).length:Int):=by
 have h:=List.all_eq_true.1 bit_sums n (List.mem_range.2 (by omega))
 exact of_decide_eq_true (List.all_eq_true.1 h m (List.mem_range.2 hm))
theorem cost_sum {n two z:Nat} (hn:n≤7)(h1:two<2^n)(h2:z<2^n):sumL (valsOf n two z)=costOf n two z:=by
 unfold valsOf costOf
 rw [sum_map (bitI two) (bitI z) (bitI z),bit_sum hn h1,bit_sum hn h2,List.length_range]
theorem lt_two {n x:Nat} (h: ∀i,x.testBit i=true→i<n):x<2^n:=by
 apply Nat.lt_pow_two_of_testBit
 intro i hi
 cases h2:x.testBit i
 ·rfl
 ·have:=h i h2;omega
def hStep (n:Nat) (ps:List (Int×Int)) (s:List Int×Int) (z:Nat):List Int×Int:=
 if twoOf ps z&&&z=0 then
  (if s.1=[]∨costOf n (twoOf ps z) z<s.2∨costOf n (twoOf ps z) z=s.2∧lexLt (valsOf n (twoOf ps z) z) s.1=true then (valsOf n (twoOf ps z) z,costOf n (twoOf ps z) z) else s)
 else s
def halvesV (n:Nat) (ps:List (Int×Int)):List Int:=((List.range (2^n)).foldl (hStep n ps) ([],0)).1
def hG (s:List Int×Int) (c:List Int):List Int×Int:=if s.1=[]∨sumL c<s.2∨sumL c=s.2∧lexLt c s.1=true then (c,sumL c) else s
theorem hG_inv: ∀Y:List (List Int),(∀y∈Y,y≠[])→Y≠[]→(Y.foldl hG ([],0)).1∈Y∧(Y.foldl hG ([],0)).2=sumL (Y.foldl hG ([],0)).1∧
  ∀y∈Y,sumL (Y.foldl hG ([],0)).1≤sumL y∧(sumL y=sumL (Y.foldl hG ([],0)).1→lexLt y (Y.foldl hG ([],0)).1=false):=by
 apply rev_ind
 ·simp
 ·intro Z a ih hne _
  rw [List.foldl_append,List.foldl_cons,List.foldl_nil]
  have hZ: ∀y∈Z,y≠[]:=fun y hy=>hne y (by simp [hy])
  have ha:a≠[]:=hne a (by simp)
  by_cases hz:Z=[]
  ·subst hz
   have e:hG ([],0) a=(a,sumL a):=by simp [hG]
   simp only [List.foldl_nil,e,List.nil_append]
   refine ⟨by simp,trivial,?_⟩
   intro y hy;simp at hy;subst hy;exact ⟨Int.le_refl _,fun _=>lex_irrefl _⟩
  ·obtain ⟨h1,h2,h3⟩:=ih hZ hz
   generalize Z.foldl hG ([],0)=W at*
   obtain ⟨x,k⟩:=W
   simp only at h1 h2 h3
   subst h2
   have hx:=hZ x h1
   by_cases p:sumL a<sumL x∨sumL a=sumL x∧lexLt a x=true
   ·have e:hG (x,sumL x) a=(a,sumL a):=by unfold hG;rw [if_pos (.inr p)]
    rw [e];simp only
    refine ⟨by simp,trivial,?_⟩
    intro y hy
    rcases List.mem_append.1 hy with hy|hy
    ·obtain ⟨g1,g2⟩:=h3 y hy
     rcases p with p| ⟨p,p2⟩
     ·exact ⟨by omega,fun h=>by omega⟩
     ·refine ⟨by omega,fun h=>lex_le (lex_asymm p2) (g2 (by omega))⟩
    ·simp at hy;subst hy;exact ⟨Int.le_refl _,fun _=>lex_irrefl _⟩
   ·have e:hG (x,sumL x) a=(x,sumL x):=by unfold hG;rw [if_neg (by simp only [hx,false_or];exact p)]
    rw [e];simp only
    refine ⟨by simp [h1],trivial,?_⟩
    intro y hy
    rcases List.mem_append.1 hy with hy|hy
    ·exact h3 y hy
    ·simp at hy;subst hy
     rw [not_or] at p
     refine ⟨by omega,fun h=> ?_⟩
     have:=p.2
     cases q:lexLt y x
     ·rfl
     ·exact absurd ⟨h,q⟩ this
theorem allL1_mem: ∀(v:List Int),(∀x∈v,0≤x∧x≤2)→v∈allL 1 v.length
 | [],_=>by simp [allL]
 |a::r,h=>by
  have ih:=allL1_mem r (fun x hx=>h x (by simp [hx]))
  have ha:=h a (by simp)
  simp only [List.length_cons,allL,List.mem_flatMap,List.mem_map]
  refine ⟨a.toNat,?_,r,ih,by rw [Int.toNat_of_nonneg ha.1]⟩
  have:a=0∨a=1∨a=2:=by omega
  rcases this with rfl|rfl|rfl<;>decide
theorem list_range (v:List Int)(n:Nat)(h:v.length=n):v=(List.range n).map (fun a=>v.getD a 0):=by
 apply List.ext_getElem
 ·simp [h]
 ·intro i h1 h2
  simp [List.getD_eq_getElem?_getD,List.getElem?_eq_getElem h1]
theorem sum_le {f g:Nat→Int}: ∀l:List Nat,(∀a∈l,f a≤g a)→sumL (l.map f)≤sumL (l.map g)∧(sumL (l.map f)=sumL (l.map g)→l.map f=l.map g)
 | [],_=>by simp
 |a::r,h=>by
  obtain ⟨h1,h2⟩:=sum_le (f:=f) (g:=g) r (fun x hx=>h x (by simp [hx]))
  have ha:=h a (by simp)
  simp only [List.map_cons,sumL]
  refine ⟨by omega,fun h3=> ?_⟩
  rw [h2 (by omega),show f a=g a by omega]
def zerosOf (v:List Int):Nat:=setOf (withL 0 v 0) 0
theorem zeros_bit (v:List Int)(u:Nat):(zerosOf v).testBit u=true↔v[u]? =some 0:=by
 unfold zerosOf
 rw [setOf_testBit _ _ _ (fun x hx=>by obtain ⟨k,_,h⟩:=(mem_withL _ _ _ _).1 hx;omega),Nat.zero_testBit,mem_withL]
 simp only [Bool.false_eq_true,false_or]
 constructor
 ·rintro ⟨k,h1,h2⟩
  have:k=u:=by omega
  subst this;exact h1
 ·intro h;exact ⟨u,h,by simp⟩
section
variable {n:Nat} {ps:List (Int×Int)} (hn1:1≤n) (hn:n≤7) (hps: ∀p∈ps,0≤p.1∧p.1<p.2∧p.2<(n:Int)) (h7: ∀p∈ps,okP p)
include hps
theorem nb_lt {u v:Nat} (h:nb ps u v):u<n∧v<n∧u≠v:=by
 rcases h with h|h
 ·have:=hps _ h;simp only at this;omega
 ·have:=hps _ h;simp only at this;omega
theorem half_nb (v:List Int):halfOk ps v=true↔∀a b:Nat,nb ps a b→2≤v.getD a 0+v.getD b 0:=by
 unfold halfOk
 rw [List.all_eq_true]
 constructor
 ·intro h a b hab
  rcases hab with hab|hab
  ·have:=h _ hab;simpa [enough] using this
  ·have:=h _ hab
   simp only [enough,Int.toNat_natCast,decide_eq_true_iff] at this
   omega
 ·intro h p hp
  have:=hps p hp
  obtain ⟨u,v⟩:=p
  simp only at this
  obtain ⟨u,rfl⟩:=Int.eq_ofNat_of_zero_le this.1
  obtain ⟨v,rfl⟩:=Int.eq_ofNat_of_zero_le (show 0≤v by omega)
  simp only [enough,Int.toNat_natCast,decide_eq_true_iff]
  exact h u v (.inl hp)
include hn h7
theorem two_lt {z:Nat} (hz:z<2^n):twoOf ps z<2^n:=by
 have h128:z<128:=Nat.lt_of_lt_of_le hz (Nat.le_trans (Nat.pow_le_pow_right (by omega) hn) (by decide))
 apply lt_two
 intro i hi
 obtain ⟨u,_,h⟩:=(two_bit h7 z i h128).1 hi
 exact (nb_lt hps h).2.1
theorem indep_iff {z:Nat} (hz:z<2^n):twoOf ps z&&&z=0↔∀a b,nb ps a b→¬(z.testBit a=true∧z.testBit b=true):=by
 have h128:z<128:=Nat.lt_of_lt_of_le hz (Nat.le_trans (Nat.pow_le_pow_right (by omega) hn) (by decide))
 constructor
 ·rintro h a b hab ⟨h1,h2⟩
  have h3:=(two_bit h7 z b h128).2 ⟨a,h1,hab⟩
  have h4:(twoOf ps z&&&z).testBit b=true:=by rw [Nat.testBit_and,h3,h2];rfl
  rw [h,Nat.zero_testBit] at h4;simp at h4
 ·intro h
  apply Nat.eq_of_testBit_eq
  intro b
  rw [Nat.zero_testBit,Nat.testBit_and,Bool.and_eq_false_iff]
  cases h1:(twoOf ps z).testBit b
  ·exact .inl rfl
  ·right
   obtain ⟨u,h2,h3⟩:=(two_bit h7 z b h128).1 h1
   have:=h u b h3
   cases h4:z.testBit b
   ·rfl
   ·exact absurd ⟨h2,h4⟩ this
theorem vals_getD (two z:Nat) {a:Nat} (ha:a<n):(valsOf n two z).getD a 0=1+bitI two a-bitI z a:=by
 unfold valsOf
 rw [List.getD_eq_getElem?_getD,List.getElem?_map,List.getElem?_range ha];rfl
theorem vals_ok {z:Nat} (hz:z<2^n)(hi:twoOf ps z&&&z=0):halfOk ps (valsOf n (twoOf ps z) z)=true∧valsOf n (twoOf ps z) z∈allL 1 n:=by
 have h128:z<128:=Nat.lt_of_lt_of_le hz (Nat.le_trans (Nat.pow_le_pow_right (by omega) hn) (by decide))
 have hi2:=(indep_iff hn hps h7 hz).1 hi
 have hdis: ∀a,¬((twoOf ps z).testBit a=true∧z.testBit a=true):=by
  rintro a ⟨h1,h2⟩
  obtain ⟨u,h3,h4⟩:=(two_bit h7 z a h128).1 h1
  exact hi2 u a h4 ⟨h3,h2⟩
 refine ⟨?_,?_⟩
 ·rw [half_nb hps]
  intro a b hab
  have hl:=nb_lt hps hab
  rw [vals_getD hn hps h7 _ _ hl.1,vals_getD hn hps h7 _ _ hl.2.1]
  simp only [bitI_eq]
  have t1:z.testBit a=true→(twoOf ps z).testBit b=true:=fun h=>(two_bit h7 z b h128).2 ⟨a,h,hab⟩
  have t2:z.testBit b=true→(twoOf ps z).testBit a=true:=fun h=>(two_bit h7 z a h128).2 ⟨b,h,nb_symm hab⟩
  have t3:=hi2 a b hab
  cases h1:z.testBit a<;>cases h2:z.testBit b<;>simp only [h1,h2,true_implies,Bool.false_eq_true,false_implies,and_self,not_true_eq_false] at t1 t2 t3
  ·simp;split<;>split<;>omega
  ·simp [t2];split<;>omega
  ·simp [t1];split<;>omega
 ·have hm:=allL1_mem (valsOf n (twoOf ps z) z) (by
   intro x hx
   unfold valsOf at hx
   rw [List.mem_map] at hx
   obtain ⟨a,_,rfl⟩:=hx
   simp only [bitI_eq]
   split<;>split<;>omega)
  have hl:(valsOf n (twoOf ps z) z).length=n:=by simp [valsOf]
  rwa [hl] at hm
theorem vals_least {v:List Int} (hv:v∈allL 1 n)(hok:halfOk ps v=true):
  zerosOf v<2^n∧twoOf ps (zerosOf v)&&&zerosOf v=0∧sumL (valsOf n (twoOf ps (zerosOf v)) (zerosOf v))≤sumL v∧(sumL (valsOf n (twoOf ps (zerosOf v)) (zerosOf v))=sumL v→valsOf n (twoOf ps (zerosOf v)) (zerosOf v)=v):=by
 obtain ⟨hl,hb⟩:=allL_in n v hv
 have hz:zerosOf v<2^n:=by
  apply lt_two;intro i hi
  have h1:=(zeros_bit v i).1 hi
  have:=(List.getElem?_eq_some_iff.1 h1).1
  omega
 have h128:zerosOf v<128:=Nat.lt_of_lt_of_le hz (Nat.le_trans (Nat.pow_le_pow_right (by omega) hn) (by decide))
 have hok2:=(half_nb hps v).1 hok
 have hgd: ∀a,(zerosOf v).testBit a=true→v.getD a 0=0:=by
  intro a ha
  rw [List.getD_eq_getElem?_getD,(zeros_bit v a).1 ha];rfl
 have hi:twoOf ps (zerosOf v)&&&zerosOf v=0:=by
  rw [indep_iff hn hps h7 hz]
  rintro a b hab ⟨h1,h2⟩
  have:=hok2 a b hab
  rw [hgd a h1,hgd b h2] at this
  omega
 have hle:=sum_le (f:=fun a=>1+bitI (twoOf ps (zerosOf v)) a-bitI (zerosOf v) a) (g:=fun a=>v.getD a 0) (List.range n) (by
  intro a ha
  rw [List.mem_range] at ha
  simp only [bitI_eq]
  have hba:0≤v.getD a 0:=by
   rw [List.getD_eq_getElem?_getD,List.getElem?_eq_getElem (show a<v.length by omega)];exact (hb _ (List.getElem_mem _)).1
  have hnz:(zerosOf v).testBit a=false→1≤v.getD a 0:=by
   intro h
   have h2: ¬v[a]? =some 0:=by rw [←zeros_bit,h];simp
   rw [List.getElem?_eq_getElem (show a<v.length by omega)] at h2
   rw [List.getD_eq_getElem?_getD,List.getElem?_eq_getElem (show a<v.length by omega)] at hba⊢
   simp at h2 hba⊢
   omega
  have h2two:(twoOf ps (zerosOf v)).testBit a=true→2≤v.getD a 0:=by
   intro h
   obtain ⟨u,h3,h4⟩:=(two_bit h7 _ a h128).1 h
   have:=hok2 u a h4
   rw [hgd u h3] at this;omega
  generalize v.getD a 0=w at*
  cases h1:(zerosOf v).testBit a
  ·have:=hnz h1
   cases h2:(twoOf ps (zerosOf v)).testBit a
   ·simp;omega
   ·have:=h2two h2;simp;omega
  ·cases h2:(twoOf ps (zerosOf v)).testBit a
   ·simp;omega
   ·have:=h2two h2;simp;omega)
 refine ⟨hz,hi,?_,?_⟩
 ·have:=hle.1
  rwa [←list_range v n hl] at this
 ·intro h
  have e:=hle.2 (by rw [←list_range v n hl];exact h)
  rw [←list_range v n hl] at e
  exact e
include hn1
theorem halves_spec:halvesV n ps∈cheap n 1 ps∧∀c∈cheap n 1 ps,lexLt c (halvesV n ps)=false:=by
 have hfold: ∀(l:List Nat) (s:List Int×Int),(∀z∈l,z<2^n)→l.foldl (hStep n ps) s=((l.filter fun z=>decide (twoOf ps z&&&z=0)).map fun z=>valsOf n (twoOf ps z) z).foldl hG s:=by
  intro l
  induction l with
  |nil=>intro s _;rfl
  |cons z r ih=>
   intro s h
   rw [List.foldl_cons,ih _ (fun y hy=>h y (by simp [hy]))]
   have hz:=h z (by simp)
   by_cases p:twoOf ps z&&&z=0
   ·rw [List.filter_cons,if_pos (by simp [p]),List.map_cons,List.foldl_cons]
    congr 1
    unfold hStep hG
    rw [if_pos p,cost_sum hn (two_lt hn hps h7 hz) hz]
   ·rw [List.filter_cons,if_neg (by simp [p])]
    congr 1
    unfold hStep
    rw [if_neg p]
 unfold halvesV
 rw [hfold _ _ (fun z hz=>List.mem_range.1 hz)]
 generalize hY:((List.range (2^n)).filter fun z=>decide (twoOf ps z&&&z=0)).map (fun z=>valsOf n (twoOf ps z) z)=Y
 have hmem: ∀y,y∈Y↔∃z,z<2^n∧twoOf ps z&&&z=0∧valsOf n (twoOf ps z) z=y:=by
  intro y;rw [←hY];simp [and_assoc]
 have hok: ∀y∈Y,halfOk ps y=true∧y∈allL 1 n:=by
  intro y hy
  obtain ⟨z,h1,h2,rfl⟩:=(hmem y).1 hy
  exact vals_ok hn hps h7 h1 h2
 have hne: ∀y∈Y,y≠[]:=by
  intro y hy h
  have:=(allL_in n y (hok y hy).2).1
  rw [h] at this;simp at this;omega
 have hY0:Y≠[]:=by
  have h0:=(half_ne (n:=n) 1 hps)
  obtain ⟨v,hv⟩:=List.exists_mem_of_ne_nil _ h0
  rw [List.mem_filter] at hv
  obtain ⟨g1,g2,_⟩:=vals_least hn hps h7 hv.1 hv.2
  exact List.ne_nil_of_mem ((hmem _).2 ⟨_,g1,g2,rfl⟩)
 obtain ⟨k1,_,k3⟩:=hG_inv Y hne hY0
 generalize (Y.foldl hG ([],0)).1=r at*
 have hr:=hok r k1
 refine ⟨?_,?_⟩
 ·rw [cheap_mem]
  refine ⟨⟨hr.2,hr.1⟩,fun y hy1 hy2=> ?_⟩
  obtain ⟨g1,g2,g3,_⟩:=vals_least hn hps h7 hy1 hy2
  have:=(k3 _ ((hmem _).2 ⟨_,g1,g2,rfl⟩)).1
  omega
 ·intro c hc
  obtain ⟨⟨c1,c2⟩,c3⟩:=cheap_mem.1 hc
  obtain ⟨g1,g2,g3,g4⟩:=vals_least hn hps h7 c1 c2
  have hin:=(hmem _).2 ⟨_,g1,g2,rfl⟩
  have k:=k3 _ hin
  have c4:=c3 r hr.2 hr.1
  have e:=g4 (by omega)
  rw [e] at k
  exact k.2 (by omega)
end
attribute [local go_sem high] and_one shr_u shl_one or_u
theorem okRefsU (n:Nat)(xs:List Nat):okRefs n (xs.map U)=true:=okRefs_map U n (fun _=>rfl) xs
theorem renCellsU (n:Nat)(tips:List Nat)(acc:List (Nat×Nat))(xs:List Nat):renCells n tips acc (xs.map U)=(xs.map U,acc):=renCells_map U n tips (fun _ _=>rfl) xs acc
theorem getU (o:List Nat)(a:Nat)(h:a<o.length):(o.map U)[a]? =some (U (o.getD a 0)):=by
 rw [getm U o 0 a,if_pos h]
theorem frzV_v (l:Nat)(cs:List AV)(x:Value):frzV l cs (.v x)=.v x:=by simp only [frzV]
theorem frzV_ptr (l:Nat)(cs:List AV)(i o:Nat):frzV l cs (.ptr i o)=.ptr i o:=by simp only [frzV]
theorem frzV_any (l:Nat)(cs:List AV):frzV l cs .any=.any:=by simp only [frzV]
theorem frzVs_kind (l:Nat)(cs:List AV) {β:Type} (f:β→Value)(xs:List β):frzVs l cs (xs.map fun b=> .v (f b))=xs.map fun b=> .v (f b):=by
 induction xs with
 |nil=>rfl
 |cons x r ih=>simp only [List.map_cons,frzVs,frzV,ih]
theorem frzVs_U (l:Nat)(cs:List AV)(xs:List Nat):frzVs l cs (xs.map U)=xs.map U:=frzVs_kind l cs (fun (n:Nat)=>Value.int .u64 (n:Int)) xs
theorem frzV_sl (l:Nat)(cs:List AV)(z:Nat)(nl:Bool)(xs:List AV):frzV l cs (sl z nl xs)=sl z nl xs:=by
 cases xs with
 |nil=>cases nl<;>rfl
 |cons x r=>rw [sl_ne (by simp)];simp only [frzV]
theorem refsV_sl (n:Nat)(acc:List Nat)(z:Nat)(nl:Bool)(xs:List AV):refsV n acc (sl z nl xs)=acc:=by
 cases xs with
 |nil=>cases nl<;>rfl
 |cons x r=>rw [sl_ne (by simp)];simp only [refsV]
theorem mapL_sl (n:Nat)(M:List Nat)(z:Nat)(nl:Bool)(xs:List AV):mapL n M (sl z nl xs)=sl z nl xs:=by
 cases xs with
 |nil=>cases nl<;>rfl
 |cons x r=>rw [sl_ne (by simp)];simp only [mapL]
theorem refsL_kind (n:Nat) {β:Type} (f:β→Value): ∀(xs:List β) (acc:List Nat),refsL n acc (xs.map fun b=> .v (f b))=acc
 | [],acc=>rfl
 |x::r,acc=>by simp only [List.map_cons,refsL,refsV,refsL_kind n f r]
theorem mapLs_kind (n:Nat)(M:List Nat) {β:Type} (f:β→Value): ∀(xs:List β),mapLs n M (xs.map fun b=> .v (f b))=xs.map fun b=> .v (f b)
 | []=>rfl
 |x::r=>by simp only [List.map_cons,mapLs,mapL,mapLs_kind n M f r]
theorem refsL_U (n:Nat)(xs:List Nat)(acc:List Nat):refsL n acc (xs.map U)=acc:=refsL_kind n (fun (n:Nat)=>Value.int .u64 (n:Int)) xs acc
theorem mapLs_U (n:Nat)(M:List Nat)(xs:List Nat):mapLs n M (xs.map U)=xs.map U:=mapLs_kind n M (fun (n:Nat)=>Value.int .u64 (n:Int)) xs
theorem len_seven {α:Type} {l:List α} (h:l.length=7): ∃a b c d e f g,l=[a,b,c,d,e,f,g]:=by
 match l,h with
 | [a,b,c,d,e,f,g],_=>exact ⟨a,b,c,d,e,f,g,rfl⟩
theorem sh1_lt (b:Nat)(h:b<7):sh1 b=2^b∧2^b<128:=⟨sh1_eq b (by omega),Nat.pow_lt_pow_right (by omega) (show b<7 from h)⟩
theorem small_getD {o:List Nat} (h: ∀x∈o,x<128)(a:Nat):o.getD a 0<128:=by
 rw [List.getD_eq_getElem?_getD]
 cases h2:o[a]?
 ·simp
 ·exact h _ (List.mem_of_getElem? h2)
theorem orAt_small {o:List Nat} (h: ∀x∈o,x<128) {a b:Nat} (hb:b<7): ∀x∈orAt o a b,x<128:=by
 intro x hx
 unfold orAt at hx
 rcases List.mem_or_eq_of_mem_set hx with hx|rfl
 ·exact h x hx
 ·exact Nat.or_lt_two_pow (n:=7) (small_getD h a) (sh1_lt b hb).2
def z7:List AV:=[U 0,U 0,U 0,U 0,U 0,U 0,U 0]
theorem loop123 (nl:Bool)(n:Int)(ps:List (Int×Int))(hlen:ps.length<1000000)(h7: ∀p∈ps,okP p)(i:Nat)(o:List Nat)(hok:i≤ps.length∧o.length=7∧∀x∈o,x<128)(env:Env)(st:St)
  (hg:gcAV true 3 0 (canon env [2,3,7,8,9]) st=([(2,.ptr 1 0),(3,.ptr 2 0),(7,sl 2 nl (ps.map prAV)),(8,I ps.length),(9,I i)],⟨[bkCells nl n ps,z7,o.map U],[]⟩)):
  ∃x_1 en s,lim (headed pure (run L) true [2,3,7,8,9] lp123_0 3 0) env st=some (x_1,en,s)∧(x_1=.exit 0∧en.get 2=.ptr 1 0∧en.get 3=.ptr 2 0∧s=⟨[bkCells nl n ps,z7,((ps.drop i).foldl adv1 o).map U],[]⟩∧((ps.drop i).foldl adv1 o).length=7):=by
 refine loop_wp (α:=Nat×List Nat) (fun ⟨i,o⟩=>ps.length-i) (fun ⟨i,o⟩=>i≤ps.length∧o.length=7∧∀x∈o,x<128) (fun ⟨i,o⟩=>([(2,.ptr 1 0),(3,.ptr 2 0),(7,sl 2 nl (ps.map prAV)),(8,I ps.length),(9,I i)],⟨[bkCells nl n ps,z7,o.map U],[]⟩)) (fun ⟨i,o⟩ x_1 en s=>x_1=.exit 0∧en.get 2=.ptr 1 0∧en.get 3=.ptr 2 0∧s=⟨[bkCells nl n ps,z7,((ps.drop i).foldl adv1 o).map U],[]⟩∧((ps.drop i).foldl adv1 o).length=7) (fun ⟨i,o⟩ hok=> ?_) ⟨i,o⟩ hok env st hg
 simp only at hok
 obtain ⟨h1,h2,h3⟩:=hok
 dsimp only
 by_cases h:i<ps.length
 ·have hx:=index_prs nl ps i h
  have hs:=succ64 i (by omega)
  have hd:ps.drop i=ps[i]::ps.drop (i+1):=List.drop_eq_getElem_cons h
  have hp:=h7 ps[i] (List.getElem_mem h)
  rw [hd,List.foldl_cons]
  generalize ps[i]=c at*
  obtain ⟨u,v⟩:=c
  obtain ⟨a1,a2,a3,a4⟩:=hp
  simp only at a1 a2 a3 a4 hx
  obtain ⟨u,rfl⟩:=Int.eq_ofNat_of_zero_le a1
  obtain ⟨v,rfl⟩:=Int.eq_ofNat_of_zero_le a3
  have hlt:((i:Int)<(ps.length:Int))=True:=eq_true (by omega)
  have hu:u<7:=by omega
  have hv:v<7:=by omega
  have e1:orU (o.getD u 0) (sh1 v)=o.getD u 0|||2^v:=by rw [(sh1_lt v hv).1,orU_eq _ _ (small_getD h3 u) (sh1_lt v hv).2]
  have hs1:=orAt_small h3 (a:=u) hv
  have hl1:=orAt_len o u v
  have e2:orU ((orAt o u v).getD v 0) (sh1 u)=(orAt o u v).getD v 0|||2^u:=by rw [(sh1_lt u hu).1,orU_eq _ _ (small_getD hs1 v) (sh1_lt u hu).2]
  have hs2:=orAt_small hs1 (a:=v) hu
  have hl2:=orAt_len (orAt o u v) v u
  have g1:=getU o u (by omega)
  have g2:=getU (orAt o u v) v (by omega)
  have hset1:o.set u (o.getD u 0|||2^v)=orAt o u v:=rfl
  have hset2:(orAt o u v).set v ((orAt o u v).getD v 0|||2^u)=adv1 o ((u:Int),(v:Int)):=rfl
  have hadv:adv1 o ((u:Int),(v:Int))=orAt (orAt o u v) v u:=rfl
  have b1:((0:Int)≤(u:Int))=True:=eq_true (by omega)
  have b2:((u:Int)<7)=True:=eq_true (by omega)
  have b3:((0:Int)≤(v:Int))=True:=eq_true (by omega)
  have b4:((v:Int)<7)=True:=eq_true (by omega)
  have b5:(u+1≤7)=True:=eq_true (by omega)
  have b6:(v+1≤7)=True:=eq_true (by omega)
  rw [h2] at hl1
  rw [hl1] at hl2
  rw [←hadv] at hs2 hl2
  generalize adv1 o ((u:Int),(v:Int))=o2 at*
  simp only [go_sem,reduceIte,Nat.reduceEqDiff,Nat.reduceAdd,Nat.reduceSub,Nat.reduceLeDiff,Nat.reduceLT,reduceCtorEq,Int.reduceLT,Int.reduceLE,Int.reduceEq,Int.reduceBEq,Int.reduceSub,Int.reduceAdd,Int.reduceMul,Int.reduceNeg,Int.reduceToNat,Nat.reduceMul,Nat.reduceBEq,index_rsl_if,setm,make_ints,condK_dec,wantK_dec,not_dec,and_dec,or_dec,seqK_ite,seqK_none,blockK_ite,blockK_none,opsK_ite,opsK_none,stepK_ite,stepK_none,bodyK_ite,bodyK_none,resK_ite,resK_none,leaveK_ite,leaveK_none,only_ite,only_none,bind_ite,gives_some,gives_none,gives_ite,then_normal,then_ret,then_exit,then_none,then_ite,Option.bind_none,Bool.not_eq_true',decide_eq_false_iff_not,Bool.and_eq_true,Bool.or_eq_true,Option.some.injEq,Int.not_lt,Int.not_le,lp123_0,hx,hlt,hs,b1,b2,b3,b4,b5,b6,g1,g2,e1,e2,hset1,hset2,h2,hl1,hl2,List.length_map]
  refine ⟨(i+1,o2),by simp only [go_sem,reduceIte,Nat.reduceEqDiff,Nat.reduceAdd,Nat.reduceSub,Nat.reduceLeDiff,Nat.reduceLT,reduceCtorEq,Int.reduceLT,Int.reduceLE,Int.reduceEq,Int.reduceBEq,Int.reduceSub,Int.reduceAdd,Int.reduceMul,Int.reduceNeg,Int.reduceToNat,Nat.reduceMul,Nat.reduceBEq,ren1_locm,loc_tips,locT_eq,okRefsU,renCellsU,z7]<;>rfl,?_,?_,fun x en s hq=> ?_⟩
  ·dsimp only;exact ⟨by omega,hl2,hs2⟩
  ·simp only;omega
  ·exact hq
 ·have hd:ps.drop i=[]:=List.drop_eq_nil_of_le (by omega)
  have hlt:((i:Int)<(ps.length:Int))=False:=eq_false (by omega)
  simp only [go_sem,reduceIte,Nat.reduceEqDiff,Nat.reduceAdd,Nat.reduceSub,Nat.reduceLeDiff,Nat.reduceLT,reduceCtorEq,Int.reduceLT,Int.reduceLE,Int.reduceEq,Int.reduceBEq,Int.reduceSub,Int.reduceAdd,Int.reduceMul,Int.reduceNeg,Int.reduceToNat,Nat.reduceMul,Nat.reduceBEq,index_rsl_if,setm,make_ints,condK_dec,wantK_dec,not_dec,and_dec,or_dec,seqK_ite,seqK_none,blockK_ite,blockK_none,opsK_ite,opsK_none,stepK_ite,stepK_none,bodyK_ite,bodyK_none,resK_ite,resK_none,leaveK_ite,leaveK_none,only_ite,only_none,bind_ite,gives_some,gives_none,gives_ite,then_normal,then_ret,then_exit,then_none,then_ite,Option.bind_none,Bool.not_eq_true',decide_eq_false_iff_not,Bool.and_eq_true,Bool.or_eq_true,Option.some.injEq,Int.not_lt,Int.not_le,lp123_0,hlt,List.length_map]
  rw [hd];exact ⟨rfl,h2⟩
theorem c123 (nl:Bool)(n:Int)(ps:List (Int×Int))(hlen:ps.length<1000000)(h7: ∀p∈ps,okP p)(st:St):
  run L 123 [bkAV nl n ps] st=some (.agg ((advL ps).map U),st):=by
 rw [run_pure (fn:=ir123) rfl rfl]
 simp only [ir123,go_sem,reduceIte,Nat.reduceEqDiff,Nat.reduceAdd,Nat.reduceSub,Nat.reduceLeDiff,Nat.reduceLT,reduceCtorEq,Int.reduceLT,Int.reduceLE,Int.reduceEq,Int.reduceBEq,Int.reduceSub,Int.reduceAdd,Int.reduceMul,Int.reduceNeg,Int.reduceToNat,Nat.reduceMul,Nat.reduceBEq,List.length_map]
 generalize hg:lim (headed pure (run L) true _ lp123_0 _ _) _ _=o
 obtain ⟨x,en,s,rfl,h2⟩: ∃x en s,o=some (x,en,s)∧_:=by rw [←hg];exact loop123 nl n ps hlen h7 0 (List.replicate 7 0) ⟨by omega,by simp,by simp⟩ _ _ (by simp only [go_sem,reduceIte,Nat.reduceEqDiff,Nat.reduceAdd,Nat.reduceSub,Nat.reduceLeDiff,Nat.reduceLT,reduceCtorEq,Int.reduceLT,Int.reduceLE,Int.reduceEq,Int.reduceBEq,Int.reduceSub,Int.reduceAdd,Int.reduceMul,Int.reduceNeg,Int.reduceToNat,Nat.reduceMul,Nat.reduceBEq,z7,List.map_replicate]<;>rfl)
 clear hg
 obtain ⟨rfl,h3,h4,rfl,h5⟩:=h2
 rw [List.drop_zero] at h5⊢
 have e:ps.foldl adv1 (List.replicate 7 0)=advL ps:=rfl
 rw [e] at h5⊢
 obtain ⟨a,b,c,d,f,g,k,h6⟩:=len_seven h5
 rw [h6]
 simp only [go_sem,reduceIte,Nat.reduceEqDiff,Nat.reduceAdd,Nat.reduceSub,Nat.reduceLeDiff,Nat.reduceLT,reduceCtorEq,Int.reduceLT,Int.reduceLE,Int.reduceEq,Int.reduceBEq,Int.reduceSub,Int.reduceAdd,Int.reduceMul,Int.reduceNeg,Int.reduceToNat,Nat.reduceMul,Nat.reduceBEq,h3,h4,z7]
attribute [local go_sem high] and_one shr_u shl_one or_u
def unionOf (adj:List Nat) (t:Nat) (a:Int):Nat:=t|||adj.getD a.toNat 0
theorem loop63_0 (nl:Bool)(n:Nat)(ps:List (Int×Int))(adj:List Nat)(hadj:adj.length=7)(hsm: ∀x∈adj,x<128)(z N:Nat)(best:List Int)(least:Int)(l:List Int)(hlen:l.length<1000)(hl: ∀a∈l,0≤a∧a<7)(i:Nat)(t:Nat)(hok:i≤l.length∧t<128)(env:Env)(st:St)
  (hg:gcAV true 2 0 (canon env [1,3,4,5,6,7,17,18,22,23,24]) st=([(1,.ptr 0 0),(3,.ptr 1 0),(4,sl 1 true (best.map I)),(5,I least),(6,U z),(7,.v (.int .u64 (t:Int))),(17,U N),(18,U z),(22,sl 1 true (l.map I)),(23,I l.length),(24,I i)],⟨[bkCells nl n ps,adj.map U],[]⟩)):
  ∃x_1 en s,lim (headed pure (run L) true [1,3,4,5,6,7,17,18,22,23,24] lp63_0 2 0) env st=some (x_1,en,s)∧(x_1=.exit 2∧en.get 1=.ptr 0 0∧en.get 3=.ptr 1 0∧en.get 4=sl 1 true (best.map I)∧en.get 5=I least∧en.get 6=U z∧en.get 7=U ((l.drop i).foldl (unionOf adj) t)∧en.get 17=U N∧en.get 18=U z∧en.get 3000000=.any∧s=⟨[bkCells nl n ps,adj.map U],[]⟩):=by
 refine loop_wp (α:=Nat×Nat) (fun ⟨i,t⟩=>l.length-i) (fun ⟨i,t⟩=>i≤l.length∧t<128) (fun ⟨i,t⟩=>([(1,.ptr 0 0),(3,.ptr 1 0),(4,sl 1 true (best.map I)),(5,I least),(6,U z),(7,.v (.int .u64 (t:Int))),(17,U N),(18,U z),(22,sl 1 true (l.map I)),(23,I l.length),(24,I i)],⟨[bkCells nl n ps,adj.map U],[]⟩)) (fun ⟨i,t⟩ x_1 en s=>x_1=.exit 2∧en.get 1=.ptr 0 0∧en.get 3=.ptr 1 0∧en.get 4=sl 1 true (best.map I)∧en.get 5=I least∧en.get 6=U z∧en.get 7=U ((l.drop i).foldl (unionOf adj) t)∧en.get 17=U N∧en.get 18=U z∧en.get 3000000=.any∧s=⟨[bkCells nl n ps,adj.map U],[]⟩) (fun ⟨i,t⟩ hok=> ?_) ⟨i,t⟩ hok env st hg
 simp only at hok
 obtain ⟨h1,h2⟩:=hok
 dsimp only
 by_cases h:i<l.length
 ·have hx:=index_ints true l i h
  have hs:=succ64 i (by omega)
  have hd:l.drop i=l[i]::l.drop (i+1):=List.drop_eq_getElem_cons h
  have hlt:((i:Int)<(l.length:Int))=True:=eq_true (by omega)
  have ha:=hl l[i] (List.getElem_mem h)
  rw [hd,List.foldl_cons]
  generalize l[i]=a at*
  obtain ⟨a,rfl⟩:=Int.eq_ofNat_of_zero_le ha.1
  have g1:=getU adj a (by omega)
  have b1:((0:Int)≤(a:Int))=True:=eq_true ha.1
  have b2:((a:Int)<7)=True:=eq_true ha.2
  have e1:=orU_eq t (adj.getD a 0) h2 (small_getD hsm a)
  have e2:unionOf adj t (a:Int)=t|||adj.getD a 0:=rfl
  have e3:t|||adj.getD a 0<128:=Nat.or_lt_two_pow (n:=7) h2 (small_getD hsm a)
  rw [e2]
  generalize adj.getD a 0=w at*
  generalize t|||w=t2 at*
  simp only [go_sem,reduceIte,Nat.reduceEqDiff,Nat.reduceAdd,Nat.reduceSub,Nat.reduceLeDiff,Nat.reduceLT,reduceCtorEq,Int.reduceLT,Int.reduceLE,Int.reduceEq,Int.reduceBEq,Int.reduceSub,Int.reduceAdd,Int.reduceMul,Int.reduceNeg,Int.reduceToNat,Nat.reduceMul,Nat.reduceBEq,index_rsl_if,setm,make_ints,condK_dec,wantK_dec,not_dec,and_dec,or_dec,seqK_ite,seqK_none,blockK_ite,blockK_none,opsK_ite,opsK_none,stepK_ite,stepK_none,bodyK_ite,bodyK_none,resK_ite,resK_none,leaveK_ite,leaveK_none,only_ite,only_none,bind_ite,gives_some,gives_none,gives_ite,then_normal,then_ret,then_exit,then_none,then_ite,Option.bind_none,Bool.not_eq_true',decide_eq_false_iff_not,Bool.and_eq_true,Bool.or_eq_true,Option.some.injEq,Int.not_lt,Int.not_le,lp63_0,hx,hlt,hs,g1,b1,b2,e1]
  refine ⟨(i+1,t2),by simp only [go_sem,reduceIte,Nat.reduceEqDiff,Nat.reduceAdd,Nat.reduceSub,Nat.reduceLeDiff,Nat.reduceLT,reduceCtorEq,Int.reduceLT,Int.reduceLE,Int.reduceEq,Int.reduceBEq,Int.reduceSub,Int.reduceAdd,Int.reduceMul,Int.reduceNeg,Int.reduceToNat,Nat.reduceMul,Nat.reduceBEq,ren1_locm,loc_tips,locT_eq,okRefsU,renCellsU]<;>rfl,?_,?_,fun x en s hq=> ?_⟩
  ·dsimp only;exact ⟨by omega,e3⟩
  ·simp only;omega
  ·exact hq
 ·have hd:l.drop i=[]:=List.drop_eq_nil_of_le (by omega)
  have hlt:((i:Int)<(l.length:Int))=False:=eq_false (by omega)
  simp only [go_sem,reduceIte,Nat.reduceEqDiff,Nat.reduceAdd,Nat.reduceSub,Nat.reduceLeDiff,Nat.reduceLT,reduceCtorEq,Int.reduceLT,Int.reduceLE,Int.reduceEq,Int.reduceBEq,Int.reduceSub,Int.reduceAdd,Int.reduceMul,Int.reduceNeg,Int.reduceToNat,Nat.reduceMul,Nat.reduceBEq,index_rsl_if,setm,make_ints,condK_dec,wantK_dec,not_dec,and_dec,or_dec,seqK_ite,seqK_none,blockK_ite,blockK_none,opsK_ite,opsK_none,stepK_ite,stepK_none,bodyK_ite,bodyK_none,resK_ite,resK_none,leaveK_ite,leaveK_none,only_ite,only_none,bind_ite,gives_some,gives_none,gives_ite,then_normal,then_ret,then_exit,then_none,then_ite,Option.bind_none,Bool.not_eq_true',decide_eq_false_iff_not,Bool.and_eq_true,Bool.or_eq_true,Option.some.injEq,Int.not_lt,Int.not_le,lp63_0,hlt]
  rw [hd];rfl
def valsTo (two z:Nat) (n k:Nat):List Int:=(List.range k).map (fun a=>1+bitI two a-bitI z a)++List.replicate (n-k) 0
theorem valsTo_len (two z n k:Nat)(h:k≤n):(valsTo two z n k).length=n:=by simp [valsTo];omega
theorem valsTo_zero (two z n:Nat):valsTo two z n 0=List.replicate n 0:=by simp [valsTo]
theorem valsTo_full (two z n:Nat):valsTo two z n n=valsOf n two z:=by simp [valsTo,valsOf]
theorem valsTo_set (two z n k:Nat)(h:k<n):(valsTo two z n k).set k (1+bitI two k-bitI z k)=valsTo two z n (k+1):=by
 unfold valsTo
 obtain ⟨m,hm⟩: ∃m,n-k=m+1:=⟨n-k-1,by omega⟩
 rw [hm,show n-(k+1)=m by omega,List.range_succ,List.map_append,List.replicate_succ,List.set_append]
 rw [if_neg (by simp)]
 simp
theorem loop63_1 (nl:Bool)(n:Nat)(hn:n≤7)(ps:List (Int×Int))(adj:List Nat)(z two N:Nat)(best:List Int)(least cost:Int)(i:Nat)(hok:i≤n)(env:Env)(st:St)
  (hg:gcAV true 3 0 (canon env [1,3,4,5,6,7,10,11,17,18,50,51]) st=([(1,.ptr 0 0),(3,.ptr 1 0),(4,sl 1 true (best.map I)),(5,I least),(6,U z),(7,U two),(10,I cost),(11,.rsl 2 0 n n 1 false),(17,U N),(18,U z),(50,I n),(51,I i)],⟨[bkCells nl n ps,adj.map U,(valsTo two z n i).map I],[]⟩)):
  ∃x_1 en s,lim (headed pure (run L) true [1,3,4,5,6,7,10,11,17,18,50,51] lp63_1 3 0) env st=some (x_1,en,s)∧(x_1=.exit 4∧en.get 1=.ptr 0 0∧en.get 3=.ptr 1 0∧en.get 4=sl 1 true (best.map I)∧en.get 5=I least∧en.get 10=I cost∧en.get 11=.rsl 2 0 n n 1 false∧en.get 17=U N∧en.get 18=U z∧en.get 3000000=.any∧s=⟨[bkCells nl n ps,adj.map U,(valsOf n two z).map I],[]⟩):=by
 refine loop_wp (α:=Nat) (fun i=>n-i) (fun i=>i≤n) (fun i=>([(1,.ptr 0 0),(3,.ptr 1 0),(4,sl 1 true (best.map I)),(5,I least),(6,U z),(7,U two),(10,I cost),(11,.rsl 2 0 n n 1 false),(17,U N),(18,U z),(50,I n),(51,I i)],⟨[bkCells nl n ps,adj.map U,(valsTo two z n i).map I],[]⟩)) (fun i x_1 en s=>x_1=.exit 4∧en.get 1=.ptr 0 0∧en.get 3=.ptr 1 0∧en.get 4=sl 1 true (best.map I)∧en.get 5=I least∧en.get 10=I cost∧en.get 11=.rsl 2 0 n n 1 false∧en.get 17=U N∧en.get 18=U z∧en.get 3000000=.any∧s=⟨[bkCells nl n ps,adj.map U,(valsOf n two z).map I],[]⟩) (fun i hok=> ?_) i hok env st hg
 by_cases h:i<n
 ·have hs:=succ64 i (by omega)
  have hlt:((i:Int)<(n:Int))=True:=eq_true (by omega)
  have hm1:=min64 i (by omega)
  have hb: ∀m,IntKind.i64.wrap (((m >>>i) % 2:Nat):Int)=bitI m i:=fun m=>by unfold bitI;rw [wrap64]<;>omega
  have b1:bitI two i=0∨bitI two i=1:=by rw [bitI_eq];split<;>simp
  have b2:bitI z i=0∨bitI z i=1:=by rw [bitI_eq];split<;>simp
  have w1:IntKind.i64.wrap (1+bitI two i)=1+bitI two i:=by rw [wrap64]<;>omega
  have w2:IntKind.i64.wrap (1+bitI two i-bitI z i)=1+bitI two i-bitI z i:=by rw [wrap64]<;>omega
  have hset:=valsTo_set two z n i h
  have hl:=valsTo_len two z n i (by omega)
  have hi0:((0:Int)≤(i:Int))=True:=eq_true (by omega)
  have hi1:(i+1≤n)=True:=eq_true (by omega)
  simp only [go_sem,reduceIte,Nat.reduceEqDiff,Nat.reduceAdd,Nat.reduceSub,Nat.reduceLeDiff,Nat.reduceLT,reduceCtorEq,Int.reduceLT,Int.reduceLE,Int.reduceEq,Int.reduceBEq,Int.reduceSub,Int.reduceAdd,Int.reduceMul,Int.reduceNeg,Int.reduceToNat,Nat.reduceMul,Nat.reduceBEq,index_rsl_if,setm,make_ints,condK_dec,wantK_dec,not_dec,and_dec,or_dec,seqK_ite,seqK_none,blockK_ite,blockK_none,opsK_ite,opsK_none,stepK_ite,stepK_none,bodyK_ite,bodyK_none,resK_ite,resK_none,leaveK_ite,leaveK_none,only_ite,only_none,bind_ite,gives_some,gives_none,gives_ite,then_normal,then_ret,then_exit,then_none,then_ite,Option.bind_none,Bool.not_eq_true',decide_eq_false_iff_not,Bool.and_eq_true,Bool.or_eq_true,Option.some.injEq,Int.not_lt,Int.not_le,lp63_1,hlt,hs,hm1,hb,w1,w2,hset,hl,hi0,hi1,List.length_map]
  refine ⟨i+1,by simp only [go_sem,reduceIte,Nat.reduceEqDiff,Nat.reduceAdd,Nat.reduceSub,Nat.reduceLeDiff,Nat.reduceLT,reduceCtorEq,Int.reduceLT,Int.reduceLE,Int.reduceEq,Int.reduceBEq,Int.reduceSub,Int.reduceAdd,Int.reduceMul,Int.reduceNeg,Int.reduceToNat,Nat.reduceMul,Nat.reduceBEq,ren1_locm,loc_tips,locT_eq,okRefsU,renCellsU]<;>rfl,?_,?_,fun x en s hq=> ?_⟩
  ·omega
  ·omega
  ·exact hq
 ·obtain rfl:i=n:=by omega
  have hlt:((i:Int)<(i:Int))=False:=eq_false (by omega)
  simp only [go_sem,reduceIte,Nat.reduceEqDiff,Nat.reduceAdd,Nat.reduceSub,Nat.reduceLeDiff,Nat.reduceLT,reduceCtorEq,Int.reduceLT,Int.reduceLE,Int.reduceEq,Int.reduceBEq,Int.reduceSub,Int.reduceAdd,Int.reduceMul,Int.reduceNeg,Int.reduceToNat,Nat.reduceMul,Nat.reduceBEq,index_rsl_if,setm,make_ints,condK_dec,wantK_dec,not_dec,and_dec,or_dec,seqK_ite,seqK_none,blockK_ite,blockK_none,opsK_ite,opsK_none,stepK_ite,stepK_none,bodyK_ite,bodyK_none,resK_ite,resK_none,leaveK_ite,leaveK_none,only_ite,only_none,bind_ite,gives_some,gives_none,gives_ite,then_normal,then_ret,then_exit,then_none,then_ite,Option.bind_none,Bool.not_eq_true',decide_eq_false_iff_not,Bool.and_eq_true,Bool.or_eq_true,Option.some.injEq,Int.not_lt,Int.not_le,lp63_1,hlt]
  rw [valsTo_full]
def andN (a b:Nat):Nat:=a % 2^64&&&b % 2^64
theorem and_u (a b:Nat):binAV .and none (.v (.int .u64 (a:Int))) (.v (.int .u64 (b:Int)))=some (.v (.int .u64 ((andN a b:Nat):Int))):=by
 have h:(BitVec.ofInt 64 (a:Int)&&&BitVec.ofInt 64 (b:Int)).toNat=andN a b:=by
  rw [BitVec.toNat_and];simp [BitVec.ofInt_natCast,andN]
 show some (AV.v (.int .u64 (IntKind.u64.wrap ((BitVec.ofInt 64 (a:Int)&&&BitVec.ofInt 64 (b:Int)).toNat:Int))))=_
 rw [h,wrapU]
 unfold andN
 exact Nat.lt_of_le_of_lt Nat.and_le_left (Nat.mod_lt _ (by decide))
theorem andN_eq (a b:Nat)(ha:a<128)(hb:b<128):andN a b=a&&&b:=by
 unfold andN;rw [Nat.mod_eq_of_lt (by omega),Nat.mod_eq_of_lt (by omega)]
attribute [local go_sem high] and_one shr_u shl_one or_u and_u
theorem frzL2 {a b cs:List AV} (hne:cs≠[])(r:List (List AV))(T:List Nat)(env:Env):
  frzL 2 env ⟨a::b::cs::r,T⟩=(frzEnv 2 cs env,⟨frzVs 2 cs a::frzVs 2 cs b:: []::frzStore 2 cs r,T⟩):=by
 cases cs with
 |nil=>exact absurd rfl hne
 |cons c cs=>rfl
theorem cell1_I (x:Int):cell1 (I x)=I x:=rfl
theorem frzV_made (l:Nat)(xs:List Int)(h:xs≠[]):frzV l (xs.map I) (.rsl l 0 xs.length xs.length 1 false)=sl 1 true (xs.map I):=by
 simp only [frzV,List.length_map,List.drop_zero]
 rw [if_pos ⟨trivial,by omega,.inr trivial,Nat.le_refl _⟩,pubs_map I (fun _=>rfl),groupm_one I cell1_I,sl_ne (by simpa using h)]
theorem memb_in (m:Nat): ∀a∈memb m,0≤a∧a<7:=by
 intro a ha
 unfold memb at ha
 simp only [List.mem_map,List.mem_filter,List.mem_range] at ha
 obtain ⟨k,⟨h1,_⟩,rfl⟩:=ha
 omega
set_option maxHeartbeats 4000000 in
theorem loop63 (nl:Bool)(n:Nat)(hn1:1≤n)(hn:n≤7)(ps:List (Int×Int))(hps: ∀p∈ps,0≤p.1∧p.1<p.2∧p.2<(n:Int))(h7: ∀p∈ps,okP p)(hadj:(advL ps).length=7)(hsm: ∀x∈advL ps,x<128)(z:Nat)(best:List Int)(least:Int)(hok:z≤2^n)(env:Env)(st:St)
  (hg:gcAV true 2 0 (canon env [1,3,4,5,17,18,3000000]) st=([(1,.ptr 0 0),(3,.ptr 1 0),(4,sl 1 true (best.map I)),(5,I least),(17,.v (.int .u64 ((2^n:Nat):Int))),(18,.v (.int .u64 (z:Int))),(3000000,.any)],⟨[bkCells nl n ps,(advL ps).map U],[]⟩)):
  ∃x_1 en s,lim (headed pure (run L) true [1,3,4,5,17,18,3000000] lp63_2 2 0) env st=some (x_1,en,s)∧(x_1=.exit 0∧en.get 4=sl 1 true (((List.range' z (2^n-z)).foldl (hStep n ps) (best,least)).1.map I)):=by
 refine loop_wp (α:=Nat×List Int×Int) (fun ⟨z,best,least⟩=>2^n-z) (fun ⟨z,best,least⟩=>z≤2^n) (fun ⟨z,best,least⟩=>([(1,.ptr 0 0),(3,.ptr 1 0),(4,sl 1 true (best.map I)),(5,I least),(17,.v (.int .u64 ((2^n:Nat):Int))),(18,.v (.int .u64 (z:Int))),(3000000,.any)],⟨[bkCells nl n ps,(advL ps).map U],[]⟩)) (fun ⟨z,best,least⟩ x_1 en s=>x_1=.exit 0∧en.get 4=sl 1 true (((List.range' z (2^n-z)).foldl (hStep n ps) (best,least)).1.map I)) (fun ⟨z,best,least⟩ hok=> ?_) ⟨z,best,least⟩ hok env st hg
 simp only at hok
 have h128:2^n≤128:=Nat.le_trans (Nat.pow_le_pow_right (by omega) hn) (by decide)
 dsimp only
 by_cases h:z<2^n
 ·have hlt:((z:Int)<((2^n:Nat):Int))=True:=eq_true (by omega)
  have e0:List.range' z (2^n-z)=z::List.range' (z+1) (2^n-(z+1)):=by
   rw [show 2^n-z=(2^n-(z+1))+1 by omega,List.range'_succ]
  rw [e0,List.foldl_cons]
  have hz:z<128:=by omega
  have h104:=fun st=>c122 z hz st
  have h108z:=fun st=>c67 z hz st
  have hs:=succU z (by omega)
  have hlm:=memb_len z
  have htwo:((memb z).drop 0).foldl (unionOf (advL ps)) 0=twoOf ps z:=rfl
  have ht2:twoOf ps z<2^n:=two_lt hn hps h7 h
  have ht:twoOf ps z<128:=by omega
  have h108t:=fun st=>c67 (twoOf ps z) ht st
  have hlt2:=memb_len (twoOf ps z)
  have hand:=andN_eq (twoOf ps z) z ht hz
  simp only [go_sem,reduceIte,Nat.reduceEqDiff,Nat.reduceAdd,Nat.reduceSub,Nat.reduceLeDiff,Nat.reduceLT,reduceCtorEq,Int.reduceLT,Int.reduceLE,Int.reduceEq,Int.reduceBEq,Int.reduceSub,Int.reduceAdd,Int.reduceMul,Int.reduceNeg,Int.reduceToNat,Nat.reduceMul,Nat.reduceBEq,index_rsl_if,setm,make_ints,condK_dec,wantK_dec,not_dec,and_dec,or_dec,seqK_ite,seqK_none,blockK_ite,blockK_none,opsK_ite,opsK_none,stepK_ite,stepK_none,bodyK_ite,bodyK_none,resK_ite,resK_none,leaveK_ite,leaveK_none,only_ite,only_none,bind_ite,gives_some,gives_none,gives_ite,then_normal,then_ret,then_exit,then_none,then_ite,Option.bind_none,Bool.not_eq_true',decide_eq_false_iff_not,Bool.and_eq_true,Bool.or_eq_true,Option.some.injEq,Int.not_lt,Int.not_le,lp63_2,hlt,h104,List.length_map]
  generalize hg:lim (headed pure (run L) true _ lp63_0 _ _) _ _=o
  obtain ⟨x,en,s,rfl,h2⟩: ∃x en s,o=some (x,en,s)∧_:=by rw [←hg];exact loop63_0 nl n ps (advL ps) hadj hsm z (2^n) best least (memb z) (by omega) (memb_in z) 0 0 ⟨by omega,by omega⟩ _ _ (by simp only [go_sem,reduceIte,Nat.reduceEqDiff,Nat.reduceAdd,Nat.reduceSub,Nat.reduceLeDiff,Nat.reduceLT,reduceCtorEq,Int.reduceLT,Int.reduceLE,Int.reduceEq,Int.reduceBEq,Int.reduceSub,Int.reduceAdd,Int.reduceMul,Int.reduceNeg,Int.reduceToNat,Nat.reduceMul,Nat.reduceBEq,okRefsU,renCellsU,Int.natCast_zero]<;>rfl)
  clear hg
  obtain ⟨rfl,e1,e3,e4,e5,e6,e7,e17,e18,eK,rfl⟩:=h2
  rw [htwo] at e7
  by_cases pi:twoOf ps z&&&z=0
  ·have qi:(((twoOf ps z&&&z:Nat):Int)=0)=True:=eq_true (by rw [pi];rfl)
   have wn:IntKind.i64.wrap ((n:Int)+((memb (twoOf ps z)).length:Int))=(n:Int)+((memb (twoOf ps z)).length:Int):=by rw [wrap64]<;>omega
   have wc:IntKind.i64.wrap ((n:Int)+((memb (twoOf ps z)).length:Int)-((memb z).length:Int))=costOf n (twoOf ps z) z:=by rw [wrap64]<;>(try unfold costOf)<;>omega
   have hmk:((0:Int)≤(n:Int)∧(n:Int)≤(maxGrow:Int))=True:=eq_true (by unfold maxGrow;omega)
   have hv0:=(valsTo_zero (twoOf ps z) z n).symm
   have hvl:(valsOf n (twoOf ps z) z).length=n:=by simp [valsOf]
   have hvne:valsOf n (twoOf ps z) z≠[]:=by intro h;rw [h] at hvl;simp at hvl;omega
   have hfz:=fun r T env=>frzL2 (a:=bkCells nl n ps) (b:=(advL ps).map U) (cs:=(valsOf n (twoOf ps z) z).map I) (by simpa using hvne) r T env
   have hfv:=frzV_made 2 (valsOf n (twoOf ps z) z) hvne
   rw [hvl] at hfv
   obtain ⟨k,hk,hk2⟩:=c68 true true (valsOf n (twoOf ps z) z) best (by omega) ⟨[bkCells nl n ps,(advL ps).map U,[]],[]⟩
   simp only [go_sem,reduceIte,Nat.reduceEqDiff,Nat.reduceAdd,Nat.reduceSub,Nat.reduceLeDiff,Nat.reduceLT,reduceCtorEq,Int.reduceLT,Int.reduceLE,Int.reduceEq,Int.reduceBEq,Int.reduceSub,Int.reduceAdd,Int.reduceMul,Int.reduceNeg,Int.reduceToNat,Nat.reduceMul,Nat.reduceBEq,index_rsl_if,setm,make_ints,condK_dec,wantK_dec,not_dec,and_dec,or_dec,seqK_ite,seqK_none,blockK_ite,blockK_none,opsK_ite,opsK_none,stepK_ite,stepK_none,bodyK_ite,bodyK_none,resK_ite,resK_none,leaveK_ite,leaveK_none,only_ite,only_none,bind_ite,gives_some,gives_none,gives_ite,then_normal,then_ret,then_exit,then_none,then_ite,Option.bind_none,Bool.not_eq_true',decide_eq_false_iff_not,Bool.and_eq_true,Bool.or_eq_true,Option.some.injEq,Int.not_lt,Int.not_le,lp63_2,e1,e3,e4,e5,e6,e7,e17,e18,hand,qi,h108t,h108z,wn,wc,hmk,hv0,List.length_map]
   generalize hg:lim (headed pure (run L) true _ lp63_1 _ _) _ _=o
   obtain ⟨x,en,s,rfl,h2⟩: ∃x en s,o=some (x,en,s)∧_:=by rw [←hg];exact loop63_1 nl n hn ps (advL ps) z (twoOf ps z) (2^n) best least (costOf n (twoOf ps z) z) 0 (by omega) _ _ (by simp only [go_sem,reduceIte,Nat.reduceEqDiff,Nat.reduceAdd,Nat.reduceSub,Nat.reduceLeDiff,Nat.reduceLT,reduceCtorEq,Int.reduceLT,Int.reduceLE,Int.reduceEq,Int.reduceBEq,Int.reduceSub,Int.reduceAdd,Int.reduceMul,Int.reduceNeg,Int.reduceToNat,Nat.reduceMul,Nat.reduceBEq,e1,e3,e4,e5,e6,e7,e17,e18,okRefsU,renCellsU,Int.natCast_zero]<;>rfl)
   clear hg
   obtain ⟨rfl,f1,f3,f4,f5,f10,f11,f17,f18,fK,rfl⟩:=h2
   have hstep:hStep n ps (best,least) z=(if best=[]∨costOf n (twoOf ps z) z<least∨costOf n (twoOf ps z) z=least∧lexLt (valsOf n (twoOf ps z) z) best=true then (valsOf n (twoOf ps z) z,costOf n (twoOf ps z) z) else (best,least)):=by unfold hStep;rw [if_pos pi]
   rw [hstep]
   generalize costOf n (twoOf ps z) z=cost at*
   generalize valsOf n (twoOf ps z) z=vs at*
   by_cases p1:best=[]
   ·rw [if_pos (.inl p1)]
    subst p1
    simp only [List.map_nil] at*
    simp only [go_sem,reduceIte,Nat.reduceEqDiff,Nat.reduceAdd,Nat.reduceSub,Nat.reduceLeDiff,Nat.reduceLT,reduceCtorEq,Int.reduceLT,Int.reduceLE,Int.reduceEq,Int.reduceBEq,Int.reduceSub,Int.reduceAdd,Int.reduceMul,Int.reduceNeg,Int.reduceToNat,Nat.reduceMul,Nat.reduceBEq,index_rsl_if,setm,make_ints,condK_dec,wantK_dec,not_dec,and_dec,or_dec,seqK_ite,seqK_none,blockK_ite,blockK_none,opsK_ite,opsK_none,stepK_ite,stepK_none,bodyK_ite,bodyK_none,resK_ite,resK_none,leaveK_ite,leaveK_none,only_ite,only_none,bind_ite,gives_some,gives_none,gives_ite,then_normal,then_ret,then_exit,then_none,then_ite,Option.bind_none,Bool.not_eq_true',decide_eq_false_iff_not,Bool.and_eq_true,Bool.or_eq_true,Option.some.injEq,Int.not_lt,Int.not_le,lp63_2,f1,f3,f4,f5,f10,f11,f17,f18,fK,code_frz,frzAV,frzT,frzLs,rslsOf,hfz,frzEnv,frzEnv_get,frzStore,frzVs,frzV_v,frzV_ptr,frzV_sl,frzVs_U,hfv,hs]
    refine ⟨(z+1,vs,cost),by simp only [go_sem,reduceIte,Nat.reduceEqDiff,Nat.reduceAdd,Nat.reduceSub,Nat.reduceLeDiff,Nat.reduceLT,reduceCtorEq,Int.reduceLT,Int.reduceLE,Int.reduceEq,Int.reduceBEq,Int.reduceSub,Int.reduceAdd,Int.reduceMul,Int.reduceNeg,Int.reduceToNat,Nat.reduceMul,Nat.reduceBEq,ren1_locm,loc_tips,locT_eq,okRefsU,renCellsU,f1,f3,f4,f5,f17,f18,fK,frzEnv_get,frzV_v,frzV_ptr,frzV_sl,frzV_any,hfv,compact,compactW,refsEnv,refsV,refsL,refsStore,refsAt,mapEnv,mapL,mapLs,newName,posOf,mapStore,pickStore,namesOk,refsV_sl,mapL_sl,refsL_U,mapLs_U,List.contains_nil,List.contains_cons,Option.getD_some,hasKey]<;>rfl,?_,?_,fun x en s hq=> ?_⟩
    ·omega
    ·simp only;omega
    ·exact hq
   ·by_cases p2:cost<least
    ·rw [if_pos (.inr (.inl p2))]
     simp only [go_sem,reduceIte,Nat.reduceEqDiff,Nat.reduceAdd,Nat.reduceSub,Nat.reduceLeDiff,Nat.reduceLT,reduceCtorEq,Int.reduceLT,Int.reduceLE,Int.reduceEq,Int.reduceBEq,Int.reduceSub,Int.reduceAdd,Int.reduceMul,Int.reduceNeg,Int.reduceToNat,Nat.reduceMul,Nat.reduceBEq,index_rsl_if,setm,make_ints,condK_dec,wantK_dec,not_dec,and_dec,or_dec,seqK_ite,seqK_none,blockK_ite,blockK_none,opsK_ite,opsK_none,stepK_ite,stepK_none,bodyK_ite,bodyK_none,resK_ite,resK_none,leaveK_ite,leaveK_none,only_ite,only_none,bind_ite,gives_some,gives_none,gives_ite,then_normal,then_ret,then_exit,then_none,then_ite,Option.bind_none,Bool.not_eq_true',decide_eq_false_iff_not,Bool.and_eq_true,Bool.or_eq_true,Option.some.injEq,Int.not_lt,Int.not_le,lp63_2,f1,f3,f4,f5,f10,f11,f17,f18,fK,code_frz,frzAV,frzT,frzLs,rslsOf,hfz,frzEnv,frzEnv_get,frzStore,frzVs,frzV_v,frzV_ptr,frzV_sl,frzVs_U,hfv,hs,p1,p2]
     refine ⟨(z+1,vs,cost),by simp only [go_sem,reduceIte,Nat.reduceEqDiff,Nat.reduceAdd,Nat.reduceSub,Nat.reduceLeDiff,Nat.reduceLT,reduceCtorEq,Int.reduceLT,Int.reduceLE,Int.reduceEq,Int.reduceBEq,Int.reduceSub,Int.reduceAdd,Int.reduceMul,Int.reduceNeg,Int.reduceToNat,Nat.reduceMul,Nat.reduceBEq,ren1_locm,loc_tips,locT_eq,okRefsU,renCellsU,f1,f3,f4,f5,f17,f18,fK,frzEnv_get,frzV_v,frzV_ptr,frzV_sl,frzV_any,hfv,compact,compactW,refsEnv,refsV,refsL,refsStore,refsAt,mapEnv,mapL,mapLs,newName,posOf,mapStore,pickStore,namesOk,refsV_sl,mapL_sl,refsL_U,mapLs_U,List.contains_nil,List.contains_cons,Option.getD_some,hasKey]<;>rfl,?_,?_,fun x en s hq=> ?_⟩
     ·omega
     ·simp only;omega
     ·exact hq
    ·by_cases p3:cost=least
     ·subst p3
      by_cases p4:lexLt vs best=true
      ·rw [p4] at hk2
       have q4:(k<0)=True:=eq_true (by simpa using hk2)
       rw [if_pos (.inr (.inr ⟨rfl,p4⟩))]
       simp only [go_sem,reduceIte,Nat.reduceEqDiff,Nat.reduceAdd,Nat.reduceSub,Nat.reduceLeDiff,Nat.reduceLT,reduceCtorEq,Int.reduceLT,Int.reduceLE,Int.reduceEq,Int.reduceBEq,Int.reduceSub,Int.reduceAdd,Int.reduceMul,Int.reduceNeg,Int.reduceToNat,Nat.reduceMul,Nat.reduceBEq,index_rsl_if,setm,make_ints,condK_dec,wantK_dec,not_dec,and_dec,or_dec,seqK_ite,seqK_none,blockK_ite,blockK_none,opsK_ite,opsK_none,stepK_ite,stepK_none,bodyK_ite,bodyK_none,resK_ite,resK_none,leaveK_ite,leaveK_none,only_ite,only_none,bind_ite,gives_some,gives_none,gives_ite,then_normal,then_ret,then_exit,then_none,then_ite,Option.bind_none,Bool.not_eq_true',decide_eq_false_iff_not,Bool.and_eq_true,Bool.or_eq_true,Option.some.injEq,Int.not_lt,Int.not_le,lp63_2,f1,f3,f4,f5,f10,f11,f17,f18,fK,code_frz,frzAV,frzT,frzLs,rslsOf,hfz,frzEnv,frzEnv_get,frzStore,frzVs,frzV_v,frzV_ptr,frzV_sl,frzVs_U,hfv,hs,p1,hk,q4,Int.lt_irrefl]
       refine ⟨(z+1,vs,cost),by simp only [go_sem,reduceIte,Nat.reduceEqDiff,Nat.reduceAdd,Nat.reduceSub,Nat.reduceLeDiff,Nat.reduceLT,reduceCtorEq,Int.reduceLT,Int.reduceLE,Int.reduceEq,Int.reduceBEq,Int.reduceSub,Int.reduceAdd,Int.reduceMul,Int.reduceNeg,Int.reduceToNat,Nat.reduceMul,Nat.reduceBEq,ren1_locm,loc_tips,locT_eq,okRefsU,renCellsU,f1,f3,f4,f5,f17,f18,fK,frzEnv_get,frzV_v,frzV_ptr,frzV_sl,frzV_any,hfv,compact,compactW,refsEnv,refsV,refsL,refsStore,refsAt,mapEnv,mapL,mapLs,newName,posOf,mapStore,pickStore,namesOk,refsV_sl,mapL_sl,refsL_U,mapLs_U,List.contains_nil,List.contains_cons,Option.getD_some,hasKey]<;>rfl,?_,?_,fun x en s hq=> ?_⟩
       ·omega
       ·simp only;omega
       ·exact hq
      ·have p4':lexLt vs best=false:=by simpa using p4
       rw [p4'] at hk2
       have q4:(k<0)=False:=eq_false (by simpa using hk2)
       rw [if_neg (by simp [p1,p2,p4'])]
       simp only [go_sem,reduceIte,Nat.reduceEqDiff,Nat.reduceAdd,Nat.reduceSub,Nat.reduceLeDiff,Nat.reduceLT,reduceCtorEq,Int.reduceLT,Int.reduceLE,Int.reduceEq,Int.reduceBEq,Int.reduceSub,Int.reduceAdd,Int.reduceMul,Int.reduceNeg,Int.reduceToNat,Nat.reduceMul,Nat.reduceBEq,index_rsl_if,setm,make_ints,condK_dec,wantK_dec,not_dec,and_dec,or_dec,seqK_ite,seqK_none,blockK_ite,blockK_none,opsK_ite,opsK_none,stepK_ite,stepK_none,bodyK_ite,bodyK_none,resK_ite,resK_none,leaveK_ite,leaveK_none,only_ite,only_none,bind_ite,gives_some,gives_none,gives_ite,then_normal,then_ret,then_exit,then_none,then_ite,Option.bind_none,Bool.not_eq_true',decide_eq_false_iff_not,Bool.and_eq_true,Bool.or_eq_true,Option.some.injEq,Int.not_lt,Int.not_le,lp63_2,f1,f3,f4,f5,f10,f11,f17,f18,fK,code_frz,frzAV,frzT,frzLs,rslsOf,hfz,frzEnv,frzEnv_get,frzStore,frzVs,frzV_v,frzV_ptr,frzV_sl,frzVs_U,hfv,hs,p1,hk,q4,Int.lt_irrefl]
       refine ⟨(z+1,best,cost),by simp only [go_sem,reduceIte,Nat.reduceEqDiff,Nat.reduceAdd,Nat.reduceSub,Nat.reduceLeDiff,Nat.reduceLT,reduceCtorEq,Int.reduceLT,Int.reduceLE,Int.reduceEq,Int.reduceBEq,Int.reduceSub,Int.reduceAdd,Int.reduceMul,Int.reduceNeg,Int.reduceToNat,Nat.reduceMul,Nat.reduceBEq,ren1_locm,loc_tips,locT_eq,okRefsU,renCellsU,f1,f3,f4,f5,f17,f18,fK,frzEnv_get,frzV_v,frzV_ptr,frzV_sl,frzV_any,hfv,compact,compactW,refsEnv,refsV,refsL,refsStore,refsAt,mapEnv,mapL,mapLs,newName,posOf,mapStore,pickStore,namesOk,refsV_sl,mapL_sl,refsL_U,mapLs_U,List.contains_nil,List.contains_cons,Option.getD_some,hasKey]<;>rfl,?_,?_,fun x en s hq=> ?_⟩
       ·omega
       ·simp only;omega
       ·exact hq
     ·rw [if_neg (by simp [p1,p2,p3])]
      simp only [go_sem,reduceIte,Nat.reduceEqDiff,Nat.reduceAdd,Nat.reduceSub,Nat.reduceLeDiff,Nat.reduceLT,reduceCtorEq,Int.reduceLT,Int.reduceLE,Int.reduceEq,Int.reduceBEq,Int.reduceSub,Int.reduceAdd,Int.reduceMul,Int.reduceNeg,Int.reduceToNat,Nat.reduceMul,Nat.reduceBEq,index_rsl_if,setm,make_ints,condK_dec,wantK_dec,not_dec,and_dec,or_dec,seqK_ite,seqK_none,blockK_ite,blockK_none,opsK_ite,opsK_none,stepK_ite,stepK_none,bodyK_ite,bodyK_none,resK_ite,resK_none,leaveK_ite,leaveK_none,only_ite,only_none,bind_ite,gives_some,gives_none,gives_ite,then_normal,then_ret,then_exit,then_none,then_ite,Option.bind_none,Bool.not_eq_true',decide_eq_false_iff_not,Bool.and_eq_true,Bool.or_eq_true,Option.some.injEq,Int.not_lt,Int.not_le,lp63_2,f1,f3,f4,f5,f10,f11,f17,f18,fK,code_frz,frzAV,frzT,frzLs,rslsOf,hfz,frzEnv,frzEnv_get,frzStore,frzVs,frzV_v,frzV_ptr,frzV_sl,frzVs_U,hfv,hs,p1,p2,p3]
      refine ⟨(z+1,best,least),by simp only [go_sem,reduceIte,Nat.reduceEqDiff,Nat.reduceAdd,Nat.reduceSub,Nat.reduceLeDiff,Nat.reduceLT,reduceCtorEq,Int.reduceLT,Int.reduceLE,Int.reduceEq,Int.reduceBEq,Int.reduceSub,Int.reduceAdd,Int.reduceMul,Int.reduceNeg,Int.reduceToNat,Nat.reduceMul,Nat.reduceBEq,ren1_locm,loc_tips,locT_eq,okRefsU,renCellsU,f1,f3,f4,f5,f17,f18,fK,frzEnv_get,frzV_v,frzV_ptr,frzV_sl,frzV_any,hfv,compact,compactW,refsEnv,refsV,refsL,refsStore,refsAt,mapEnv,mapL,mapLs,newName,posOf,mapStore,pickStore,namesOk,refsV_sl,mapL_sl,refsL_U,mapLs_U,List.contains_nil,List.contains_cons,Option.getD_some,hasKey]<;>rfl,?_,?_,fun x en s hq=> ?_⟩
      ·omega
      ·simp only;omega
      ·exact hq
  ·have qi:(((twoOf ps z&&&z:Nat):Int)=0)=False:=eq_false (by omega)
   have he:hStep n ps (best,least) z=(best,least):=by unfold hStep;rw [if_neg pi]
   rw [he]
   simp only [go_sem,reduceIte,Nat.reduceEqDiff,Nat.reduceAdd,Nat.reduceSub,Nat.reduceLeDiff,Nat.reduceLT,reduceCtorEq,Int.reduceLT,Int.reduceLE,Int.reduceEq,Int.reduceBEq,Int.reduceSub,Int.reduceAdd,Int.reduceMul,Int.reduceNeg,Int.reduceToNat,Nat.reduceMul,Nat.reduceBEq,index_rsl_if,setm,make_ints,condK_dec,wantK_dec,not_dec,and_dec,or_dec,seqK_ite,seqK_none,blockK_ite,blockK_none,opsK_ite,opsK_none,stepK_ite,stepK_none,bodyK_ite,bodyK_none,resK_ite,resK_none,leaveK_ite,leaveK_none,only_ite,only_none,bind_ite,gives_some,gives_none,gives_ite,then_normal,then_ret,then_exit,then_none,then_ite,Option.bind_none,Bool.not_eq_true',decide_eq_false_iff_not,Bool.and_eq_true,Bool.or_eq_true,Option.some.injEq,Int.not_lt,Int.not_le,lp63_2,e1,e3,e4,e5,e6,e7,e17,e18,hand,qi,hs]
   refine ⟨(z+1,best,least),by simp only [go_sem,reduceIte,Nat.reduceEqDiff,Nat.reduceAdd,Nat.reduceSub,Nat.reduceLeDiff,Nat.reduceLT,reduceCtorEq,Int.reduceLT,Int.reduceLE,Int.reduceEq,Int.reduceBEq,Int.reduceSub,Int.reduceAdd,Int.reduceMul,Int.reduceNeg,Int.reduceToNat,Nat.reduceMul,Nat.reduceBEq,ren1_locm,loc_tips,locT_eq,okRefsU,renCellsU,e1,e3,e4,e5,e17,e18,eK,compact,compactW,refsEnv,refsV,refsL,refsStore,refsAt,mapEnv,mapL,mapLs,newName,posOf,mapStore,pickStore,namesOk,refsV_sl,mapL_sl,refsL_U,mapLs_U,List.contains_nil,List.contains_cons,Option.getD_some,hasKey]<;>rfl,?_,?_,fun x en s hq=> ?_⟩
   ·omega
   ·simp only;omega
   ·exact hq
 ·have hlt:((z:Int)<((2^n:Nat):Int))=False:=eq_false (by omega)
  have e0:2^n-z=0:=by omega
  rw [e0]
  simp only [go_sem,reduceIte,Nat.reduceEqDiff,Nat.reduceAdd,Nat.reduceSub,Nat.reduceLeDiff,Nat.reduceLT,reduceCtorEq,Int.reduceLT,Int.reduceLE,Int.reduceEq,Int.reduceBEq,Int.reduceSub,Int.reduceAdd,Int.reduceMul,Int.reduceNeg,Int.reduceToNat,Nat.reduceMul,Nat.reduceBEq,index_rsl_if,setm,make_ints,condK_dec,wantK_dec,not_dec,and_dec,or_dec,seqK_ite,seqK_none,blockK_ite,blockK_none,opsK_ite,opsK_none,stepK_ite,stepK_none,bodyK_ite,bodyK_none,resK_ite,resK_none,leaveK_ite,leaveK_none,only_ite,only_none,bind_ite,gives_some,gives_none,gives_ite,then_normal,then_ret,then_exit,then_none,then_ite,Option.bind_none,Bool.not_eq_true',decide_eq_false_iff_not,Bool.and_eq_true,Bool.or_eq_true,Option.some.injEq,Int.not_lt,Int.not_le,lp63_2,hlt]
  rfl
theorem advL_small {ps:List (Int×Int)} (h7: ∀p∈ps,okP p): ∀x∈advL ps,x<128:=by
 have: ∀(ps:List (Int×Int)) (o:List Nat),(∀p∈ps,okP p)→(∀x∈o,x<128)→∀x∈ps.foldl adv1 o,x<128:=by
  intro ps
  induction ps with
  |nil=>intro o _ h;exact h
  |cons p r ih=>
   intro o h7 h
   rw [List.foldl_cons]
   apply ih _ (fun q hq=>h7 q (by simp [hq]))
   obtain ⟨a1,a2,a3,a4⟩:=h7 p (by simp)
   exact orAt_small (orAt_small h (by omega)) (by omega)
 exact this ps _ h7 (by simp)
theorem c63 (nl:Bool)(n:Nat)(hn1:1≤n)(hn:n≤7)(ps:List (Int×Int))(hlen:ps.length<1000000)(hps: ∀p∈ps,0≤p.1∧p.1<p.2∧p.2<(n:Int))(h7: ∀p∈ps,okP p)(st:St):
  run L 63 [bkAV nl n ps] st=some (sl 1 true ((halvesV n ps).map I),st):=by
 rw [run_pure (fn:=ir63) rfl rfl]
 have h89:=fun st=>c123 nl n ps hlen h7 st
 have hal:=advL_len h7
 have has:=advL_small h7
 have hsh:=sh1_eq n (by omega)
 have hput:putCells z7 0 ((advL ps).map U)=(advL ps).map U∧((advL ps).map U).all storable=true:=by
  obtain ⟨a,b,c,d,f,g,k,h6⟩:=len_seven hal
  rw [h6]
  exact ⟨rfl,rfl⟩
 have hz:z7=[.v (.int .u64 0),.v (.int .u64 0),.v (.int .u64 0),.v (.int .u64 0),.v (.int .u64 0),.v (.int .u64 0),.v (.int .u64 0)]:=rfl
 rw [hz] at hput
 simp only [ir63,go_sem,reduceIte,Nat.reduceEqDiff,Nat.reduceAdd,Nat.reduceSub,Nat.reduceLeDiff,Nat.reduceLT,reduceCtorEq,Int.reduceLT,Int.reduceLE,Int.reduceEq,Int.reduceBEq,Int.reduceSub,Int.reduceAdd,Int.reduceMul,Int.reduceNeg,Int.reduceToNat,Nat.reduceMul,Nat.reduceBEq,h89,hsh,hput.1,hput.2,hal,List.length_map]
 generalize hg:lim (headed pure (run L) true _ lp63_2 _ _) _ _=o
 obtain ⟨x,en,s,rfl,h2⟩: ∃x en s,o=some (x,en,s)∧_:=by rw [←hg];exact loop63 nl n hn1 hn ps hps h7 hal has 0 [] 0 (by omega) _ _ (by simp only [go_sem,reduceIte,Nat.reduceEqDiff,Nat.reduceAdd,Nat.reduceSub,Nat.reduceLeDiff,Nat.reduceLT,reduceCtorEq,Int.reduceLT,Int.reduceLE,Int.reduceEq,Int.reduceBEq,Int.reduceSub,Int.reduceAdd,Int.reduceMul,Int.reduceNeg,Int.reduceToNat,Nat.reduceMul,Nat.reduceBEq,okRefsU,renCellsU,sl_nil,List.map_nil,compact,compactW,refsEnv,refsV,refsL,refsStore,refsAt,mapEnv,mapL,mapLs,newName,posOf,mapStore,pickStore,namesOk,refsV_sl,mapL_sl,refsL_U,mapLs_U,List.contains_nil,List.contains_cons,Option.getD_some,hasKey,Int.natCast_zero]<;>rfl)
 clear hg
 obtain ⟨rfl,h3⟩:=h2
 rw [Nat.sub_zero,←List.range_eq_range'] at h3
 simp only [go_sem,reduceIte,Nat.reduceEqDiff,Nat.reduceAdd,Nat.reduceSub,Nat.reduceLeDiff,Nat.reduceLT,reduceCtorEq,Int.reduceLT,Int.reduceLE,Int.reduceEq,Int.reduceBEq,Int.reduceSub,Int.reduceAdd,Int.reduceMul,Int.reduceNeg,Int.reduceToNat,Nat.reduceMul,Nat.reduceBEq,h3]
 rfl
def hv (n:Int) (ps:List (Int×Int)):List Int×Int:=if chk n ps=0 then (halvesV n.toNat ps,0) else ([],chk n ps)
theorem halvesV_ok {n:Nat} (hn1:1≤n)(hn:n≤7) {ps:List (Int×Int)} (hps: ∀p∈ps,0≤p.1∧p.1<p.2∧p.2<(n:Int))(h7: ∀p∈ps,okP p):(halvesV n ps).length=n∧(∀x∈halvesV n ps,0≤x∧x≤2)∧halvesV n ps≠[]:=by
 have h:=(halves_spec hn1 hn hps h7).1
 have h2:=cheap_in h
 refine ⟨by have:=h2.1;omega,h2.2,?_⟩
 intro e;have:=h2.1;rw [e] at this;simp at this;omega
theorem c18 (nl:Bool)(n:Int)(ps:List (Int×Int))(st:St):run L 18 [bkAV nl n ps] st=some (.tup [sl 1 true ((hv n ps).1.map I),I (hv n ps).2],st):=by
 rw [run_pure (fn:=ir18) rfl rfl]
 have h22:=fun st=>c61 nl n ps st
 unfold hv
 by_cases h:chk n ps=0
 ·obtain ⟨h1,h2,h3,h4,h5⟩:=chk_zero h
  obtain ⟨k,rfl⟩:=Int.eq_ofNat_of_zero_le (show 0≤n by omega)
  have h81:=fun st=>c63 nl k (by omega) (by omega) ps (by omega) h4 h5 st
  rw [if_pos h]
  simp only [Int.toNat_natCast]
  simp only [ir18,go_sem,reduceIte,Nat.reduceEqDiff,Nat.reduceAdd,Nat.reduceSub,Nat.reduceLeDiff,Nat.reduceLT,reduceCtorEq,Int.reduceLT,Int.reduceLE,Int.reduceEq,Int.reduceBEq,Int.reduceSub,Int.reduceAdd,Int.reduceMul,Int.reduceNeg,Int.reduceToNat,Nat.reduceMul,Nat.reduceBEq,h22,h,h81]
 ·rw [if_neg h]
  simp only [ir18,go_sem,reduceIte,Nat.reduceEqDiff,Nat.reduceAdd,Nat.reduceSub,Nat.reduceLeDiff,Nat.reduceLT,reduceCtorEq,Int.reduceLT,Int.reduceLE,Int.reduceEq,Int.reduceBEq,Int.reduceSub,Int.reduceAdd,Int.reduceMul,Int.reduceNeg,Int.reduceToNat,Nat.reduceMul,Nat.reduceBEq,h22,h]
  rfl
def cellB (p r c:Nat):Bool:=p.testBit (3*r+c)
def psRow (k p r m:Nat):List (Int×Int):=((List.range m).filter (cellB p r)).map fun c=>((r:Int),((k+c:Nat):Int))
def psP (k p m:Nat):List (Int×Int):=(List.range m).flatMap fun r=>psRow k p r k
def plansP (k p:Nat):Nat→List Int→Nat
 |0,_=>1
 |f+1,plan=>((List.range k).map fun (c:Nat)=>if cellB p (k-(f+1)) c&& !plan.contains (c:Int) then plansP k p f (plan++ [(c:Int)]) else 0).sum
def clr (o c:Nat):Nat:=if o.testBit c then o-2^c else o
def zeroRow (k p o r:Nat):Nat:=(List.range k).foldl (fun o c=>if cellB p r c then clr o c else o) o
def zerosP (k p m:Nat):Nat:=(memb m).foldl (fun o (r:Int)=>zeroRow k p o r.toNat) (2^k-1)
def barStep (k p:Nat) (s:List Int×List Int) (m:Nat):List Int×List Int:=
 if (memb m).length=0∨(memb m).length+(memb (zerosP k p m)).length≤k then s
 else if s.1=[]∨(memb m).length<s.1.length∨(memb m).length=s.1.length∧lexLt (memb m) s.1=true then (memb m,memb (zerosP k p m)) else s
def barP (k p:Nat):List Int×List Int:=(List.range (2^k)).foldl (barStep k p) ([],[])
def restP (k:Nat) (R C:List Int):List Int:=((List.range k).filter fun (r:Nat)=> !R.contains (r:Int)).map (fun (r:Nat)=>(r:Int))++((List.range k).filter fun (c:Nat)=> !C.contains (c:Int)).map fun (c:Nat)=>((k+c:Nat):Int)
def indL (k:Nat) (l:List Int):List Int:=(List.range (2*k)).map fun (u:Nat)=>if l.contains (u:Int) then 2 else 0
def coverOk (k p:Nat) (l:List Int):Bool:=wErr (2*k) (-1) l==0&&(expl (psP k p k) (setOf l 0)&&(halfOk (psP k p k) (indL k l)&&sumL (indL k l)==2*(l.length:Int)))
def permsOf (k:Nat):List (List Nat):=if k=1 then [[0]] else if k=2 then [[0,1],[1,0]] else [[0,1,2],[0,2,1],[1,0,2],[1,2,0],[2,0,1],[2,1,0]]
def goodP (k p : Nat) : Bool :=
  chk (2 * k) (psP k p k) == 0 && (coverOk k p ((List.range k).map fun (r : Nat) => (r : Int)) &&
  (if plansP k p k [] = 0 then !(barP k p).1.isEmpty && (coverOk k p (restP k (barP k p).1 (barP k p).2) && decide ((restP k (barP k p).1 (barP k p).2).length < k))
   else (barP k p).1.isEmpty && (permsOf k).any fun s => (List.range k).all fun r => cellB p r (s.getD r 0)))
theorem good1:(List.range 512).all (goodP 1)=true:=by kernel_rfl
theorem good2:(List.range 512).all (goodP 2)=true:=by kernel_rfl
theorem good3:(List.range 512).all (goodP 3)=true:=by kernel_rfl
theorem good_of {k p:Nat} (hk:k=1∨k=2∨k=3)(hp:p<512):goodP k p=true:=by
 rcases hk with rfl|rfl|rfl
 ·exact List.all_eq_true.1 good1 p (List.mem_range.2 hp)
 ·exact List.all_eq_true.1 good2 p (List.mem_range.2 hp)
 ·exact List.all_eq_true.1 good3 p (List.mem_range.2 hp)
theorem allL2_mem: ∀(v:List Int),(∀x∈v,x=0∨x=2)→v∈allL 2 v.length
 | [],_=>by simp [allL]
 |a::r,h=>by
  have ih:=allL2_mem r (fun x hx=>h x (by simp [hx]))
  have ha:=h a (by simp)
  simp only [List.length_cons,allL,List.mem_flatMap,List.mem_map]
  refine ⟨a.toNat,?_,r,ih,?_⟩
  ·rcases ha with rfl|rfl<;>decide
  ·rcases ha with rfl|rfl<;>rfl
theorem sum_two {f g h:Nat→Int}: ∀l:List Nat,(∀u∈l,f u+g u=2*h u)→sumL (l.map f)+sumL (l.map g)=2*sumL (l.map h)
 | [],_=>by simp [sumL]
 |a::r,e=>by
  have ih:=sum_two (f:=f) (g:=g) (h:=h) r (fun x hx=>e x (by simp [hx]))
  have ha:=e a (by simp)
  simp only [List.map_cons,sumL];omega
theorem mem_psP {k p r c:Nat} (hr:r<k)(hc:c<k)(h:cellB p r c=true):((r:Int),((k+c:Nat):Int))∈psP k p k:=by
 unfold psP psRow
 simp only [List.mem_flatMap,List.mem_range,List.mem_map,List.mem_filter,Prod.mk.injEq]
 exact ⟨r,hr,c,⟨hc,h⟩,rfl,rfl⟩
theorem of_psP {k p:Nat} {q:Int×Int} (h:q∈psP k p k): ∃r c:Nat,r<k∧c<k∧q=((r:Int),((k+c:Nat):Int)):=by
 unfold psP psRow at h
 simp only [List.mem_flatMap,List.mem_range,List.mem_map,List.mem_filter] at h
 obtain ⟨r,hr,c,⟨hc,_⟩,rfl⟩:=h
 exact ⟨r,c,hr,hc,rfl⟩
theorem round {k p:Nat} {v:List Int} (hl:v.length=2*k)(hv: ∀x∈v,0≤x∧x≤2)(hok:halfOk (psP k p k) v=true):
  ∃a b:List Int,a∈allL 2 (2*k)∧b∈allL 2 (2*k)∧halfOk (psP k p k) a=true∧halfOk (psP k p k) b=true∧sumL a+sumL b=2*sumL v:=by
 have hb: ∀u,u<2*k→0≤v.getD u 0∧v.getD u 0≤2:=fun u hu=>by
  rw [List.getD_eq_getElem?_getD,List.getElem?_eq_getElem (by omega)]
  exact hv _ (List.getElem_mem _)
 have key: ∀f:Nat→Int,(∀u,f u=0∨f u=2)→(∀r c,r<k→c<k→2≤v.getD r 0+v.getD (k+c) 0→2≤f r+f (k+c))→
   (List.range (2*k)).map f∈allL 2 (2*k)∧halfOk (psP k p k) ((List.range (2*k)).map f)=true:=by
  intro f h1 h2
  constructor
  ·have:=allL2_mem ((List.range (2*k)).map f) (fun x hx=>by obtain ⟨u,_,rfl⟩:=List.mem_map.1 hx;exact h1 u)
   rwa [List.length_map,List.length_range] at this
  ·unfold halfOk at hok⊢
   rw [List.all_eq_true] at hok⊢
   intro q hq
   have h3:=hok q hq
   obtain ⟨r,c,hr,hc,rfl⟩:=of_psP hq
   unfold enough at h3⊢
   rw [decide_eq_true_iff] at h3⊢
   simp only [Int.toNat_natCast] at h3⊢
   have e: ∀u,u<2*k→((List.range (2*k)).map f).getD u 0=f u:=fun u hu=>by
    simp [List.getD_eq_getElem?_getD,hu]
   rw [e r (by omega),e (k+c) (by omega)]
   exact h2 r c hr hc h3
 let fa:Nat→Int:=fun u=>if u<k then (if 1≤v.getD u 0 then 2 else 0) else (if v.getD u 0=2 then 2 else 0)
 let fb:Nat→Int:=fun u=>if u<k then (if v.getD u 0=2 then 2 else 0) else (if 1≤v.getD u 0 then 2 else 0)
 have ka:=key fa (fun u=>by simp only [fa];split<;>split<;>simp) (fun r c hr hc h=>by
  simp only [fa,if_pos hr,if_neg (show ¬k+c<k by omega)]
  have:=hb r (by omega);have:=hb (k+c) (by omega)
  split<;>split<;>omega)
 have kb:=key fb (fun u=>by simp only [fb];split<;>split<;>simp) (fun r c hr hc h=>by
  simp only [fb,if_pos hr,if_neg (show ¬k+c<k by omega)]
  have:=hb r (by omega);have:=hb (k+c) (by omega)
  split<;>split<;>omega)
 refine ⟨_,_,ka.1,kb.1,ka.2,kb.2,?_⟩
 have:=sum_two (f:=fa) (g:=fb) (h:=fun u=>v.getD u 0) (List.range (2*k)) (fun u hu=>by
  have:=hb u (List.mem_range.1 hu)
  simp only [fa,fb]
  split<;>split<;>split<;>omega)
 rw [this,←list_range v (2*k) hl]
theorem cover_law {k p:Nat} (hk:k=1∨k=2∨k=3)(hp:p<512):
  chk ((2*k:Nat):Int) (psP k p k)=0∧(shAll (2*k) (psP k p k)).1.length≤k∧((shAll (2*k) (psP k p k)).1.length=k↔plansP k p k []≠0)∧
  (plansP k p k []≠0↔(barP k p).1=[])∧(halvesV (2*k) (psP k p k)).length=2*k∧(∀x∈halvesV (2*k) (psP k p k),0≤x∧x≤2)∧
  sumL (halvesV (2*k) (psP k p k))=2*((shAll (2*k) (psP k p k)).1.length:Int)∧
  (plansP k p k []=0→validV ((2*k:Nat):Int) (psP k p k) (restP k (barP k p).1 (barP k p).2)=0∧(restP k (barP k p).1 (barP k p).2).length<k∧
   (shAll (2*k) (psP k p k)).1.length≤(restP k (barP k p).1 (barP k p).2).length):=by
 have hg:=good_of hk hp
 unfold goodP at hg
 simp only [Bool.and_eq_true,beq_iff_eq] at hg
 obtain ⟨hc,hrows,hrest⟩:=hg
 have hc':chk ((2*k:Nat):Int) (psP k p k)=0:=by rw [←hc];congr 1
 obtain ⟨_,_,_,h4,h5⟩:=chk_zero hc'
 have hn7:2*k≤7:=by omega
 have hn1:1≤2*k:=by omega
 obtain ⟨s1,_,_⟩:=short_spec hn7 h4 h5
 obtain ⟨v1,v2,_⟩:=halvesV_ok hn1 hn7 h4 h5
 obtain ⟨w1,_⟩:=halves_spec hn1 hn7 h4 h5
 obtain ⟨l,hl,hle⟩:=List.mem_map.1 s1
 obtain ⟨⟨l1,l2⟩,l3⟩:=cheap_mem.1 hl
 obtain ⟨⟨x1,x2⟩,x3⟩:=cheap_mem.1 w1
 have lv:=allL2_val _ l l1
 have llen:=(allL_in _ l l1).1
 have hsum:sumL l=2*((shAll (2*k) (psP k p k)).1.length:Int):=by rw [←hle];exact two_sum l 0 lv
 have hcov: ∀R:List Int,coverOk k p R=true→wErr (2*k) (-1) R=0∧expl (psP k p k) (setOf R 0)=true∧(shAll (2*k) (psP k p k)).1.length≤R.length:=by
  intro R h
  unfold coverOk at h
  simp only [Bool.and_eq_true,beq_iff_eq] at h
  obtain ⟨a1,a2,a3,a4⟩:=h
  refine ⟨a1,a2,?_⟩
  have hm:=allL2_mem (indL k R) (fun x hx=>by
   obtain ⟨u,_,rfl⟩:=List.mem_map.1 hx
   split<;>simp)
  have:(indL k R).length=2*k:=by simp [indL]
  rw [this] at hm
  have:=l3 _ hm a3
  omega
 have hle1:=(hcov _ hrows).2.2
 rw [List.length_map,List.length_range] at hle1
 have hhalf:sumL (halvesV (2*k) (psP k p k))=sumL l:=by
  have g1:sumL (halvesV (2*k) (psP k p k))≤sumL l:=by
   have:=allL1_mem l (fun x hx=>by rcases lv x hx with h|h<;>omega)
   rw [llen] at this
   exact x3 l this l2
  obtain ⟨a,b,a1,b1,a2,b2,ab⟩:=round v1 v2 x2
  have:=l3 a a1 a2
  have:=l3 b b1 b2
  omega
 refine ⟨hc',hle1,?_,?_,v1,v2,by rw [hhalf,hsum],?_⟩
 ·split at hrest
  ·next h0=>
   simp only [Bool.and_eq_true,decide_eq_true_iff] at hrest
   have:=(hcov _ hrest.2.1).2.2
   exact ⟨fun e=>by omega,fun e=>absurd h0 e⟩
  ·next h0=>
   refine ⟨fun _=>h0,fun _=> ?_⟩
   simp only [Bool.and_eq_true,List.any_eq_true] at hrest
   obtain ⟨_,s,hs,hall⟩:=hrest
   have hpair: ∀r c,r<k→c<k→cellB p r c=true→2≤l.getD r 0+l.getD (k+c) 0:=by
    intro r c hr hc h
    have h3:=List.all_eq_true.1 l2 _ (mem_psP hr hc h)
    unfold enough at h3
    rw [decide_eq_true_iff] at h3
    simpa only [Int.toNat_natCast] using h3
   have hcell: ∀r,r<k→cellB p r (s.getD r 0)=true:=fun r hr=>List.all_eq_true.1 hall r (List.mem_range.2 hr)
   have hS:2*(k:Int)≤sumL l:=by
    rw [list_range l (2*k) llen]
    rcases hk with rfl|rfl|rfl
    ·have e:s=[0]:=by simpa [permsOf] using hs
     subst e
     have:=hpair 0 0 (by omega) (by omega) (hcell 0 (by omega))
     simp only [Nat.reduceAdd] at this
     simp only [List.range,List.range.loop,List.map_cons,List.map_nil,sumL]
     omega
    ·have e:s=[0,1]∨s=[1,0]:=by simpa [permsOf] using hs
     rcases e with rfl|rfl<;>
     ·have a0:=hpair 0 _ (by omega) (by decide) (hcell 0 (by omega))
      have a1:=hpair 1 _ (by omega) (by decide) (hcell 1 (by omega))
      simp only [List.getD_cons_zero,List.getD_cons_succ,Nat.reduceAdd] at a0 a1
      simp only [List.range,List.range.loop,List.map_cons,List.map_nil,sumL]
      omega
    ·have e:s=[0,1,2]∨s=[0,2,1]∨s=[1,0,2]∨s=[1,2,0]∨s=[2,0,1]∨s=[2,1,0]:=by simpa [permsOf] using hs
     rcases e with rfl|rfl|rfl|rfl|rfl|rfl<;>
     ·have a0:=hpair 0 _ (by omega) (by decide) (hcell 0 (by omega))
      have a1:=hpair 1 _ (by omega) (by decide) (hcell 1 (by omega))
      have a2:=hpair 2 _ (by omega) (by decide) (hcell 2 (by omega))
      simp only [List.getD_cons_zero,List.getD_cons_succ,Nat.reduceAdd] at a0 a1 a2
      simp only [List.range,List.range.loop,List.map_cons,List.map_nil,sumL]
      omega
   omega
 ·split at hrest
  ·next h0=>
   simp only [Bool.and_eq_true,Bool.not_eq_true',List.isEmpty_eq_false_iff] at hrest
   exact ⟨fun e=>absurd h0 e,fun e=>absurd e hrest.1⟩
  ·next h0=>
   simp only [Bool.and_eq_true,List.isEmpty_iff] at hrest
   exact ⟨fun _=>hrest.1,fun _=>h0⟩
 ·intro h0
  rw [if_pos h0] at hrest
  simp only [Bool.and_eq_true,decide_eq_true_iff] at hrest
  obtain ⟨a1,a2,a3⟩:=hcov _ hrest.2.1
  refine ⟨?_,hrest.2.2,a3⟩
  unfold validV
  rw [if_pos hc',show ((2*k:Nat):Int)=2*(k:Int) by omega,if_pos a1,if_pos a2]
abbrev tbAV (t:List (List Int)):AV:=sl 1 false (t.map listAV)
structure TabOk (n:Nat) (t:List (List Int)):Prop where
 n1:1≤n
 n4:n≤4
 len:t.length=n
 rows: ∀r∈t,r.length=n
 cells: ∀r∈t,∀x∈r,0≤x∧x≤9
def indexOf (a:Int):List Int→Nat→Int
 | [],_=> -1
 |b::r,i=>if a=b then (i:Int) else indexOf a r (i+1)
theorem loop69 (nl:Bool)(l:List Int)(hlen:l.length<1000000)(a:Int)(i:Nat)(hok:i≤l.length)(env:Env)(st:St)
  (hg:gcAV true 0 0 (canon env [0,1,7,8]) st=([(0,sl 1 nl (l.map I)),(1,I a),(7,I l.length),(8,I i)],⟨[],[]⟩)):
  ∃x_1 en s,lim (headed pure (run L) true [0,1,7,8] lp69_0 0 0) env st=some (x_1,en,s)∧(if a∈l.drop i then x_1=.ret∧en.get 4=I (indexOf a (l.drop i) i) else x_1=.exit 0):=by
 refine loop_wp (α:=Nat) (fun i=>l.length-i) (fun i=>i≤l.length) (fun i=>([(0,sl 1 nl (l.map I)),(1,I a),(7,I l.length),(8,I i)],⟨[],[]⟩)) (fun i x_1 en s=>if a∈l.drop i then x_1=.ret∧en.get 4=I (indexOf a (l.drop i) i) else x_1=.exit 0) (fun i hok=> ?_) i hok env st hg
 by_cases h:i<l.length
 ·have hx:=index_ints nl l i h
  have hs:=succ64 i (by omega)
  have hd:l.drop i=l[i]::l.drop (i+1):=List.drop_eq_getElem_cons h
  have hlt:((i:Int)<(l.length:Int))=True:=eq_true (by omega)
  rw [hd]
  generalize l[i]=b at*
  by_cases p:a=b
  ·simp only [go_sem,reduceIte,Nat.reduceEqDiff,Nat.reduceAdd,Nat.reduceSub,Nat.reduceLeDiff,Nat.reduceLT,reduceCtorEq,Int.reduceLT,Int.reduceLE,Int.reduceEq,Int.reduceBEq,Int.reduceSub,Int.reduceAdd,Int.reduceMul,Int.reduceNeg,Int.reduceToNat,Nat.reduceMul,Nat.reduceBEq,index_rsl_if,setm,make_ints,condK_dec,wantK_dec,not_dec,and_dec,or_dec,seqK_ite,seqK_none,blockK_ite,blockK_none,opsK_ite,opsK_none,stepK_ite,stepK_none,bodyK_ite,bodyK_none,resK_ite,resK_none,leaveK_ite,leaveK_none,only_ite,only_none,bind_ite,gives_some,gives_none,gives_ite,then_normal,then_ret,then_exit,then_none,then_ite,Option.bind_none,Bool.not_eq_true',decide_eq_false_iff_not,Bool.and_eq_true,Bool.or_eq_true,Option.some.injEq,Int.not_lt,Int.not_le,lp69_0,hx,hlt,p]
   rw [if_pos (by simp)];simp [indexOf]
  ·have e:indexOf a (b::l.drop (i+1)) i=indexOf a (l.drop (i+1)) (i+1):=by simp only [indexOf];rw [if_neg p]
   simp only [go_sem,reduceIte,Nat.reduceEqDiff,Nat.reduceAdd,Nat.reduceSub,Nat.reduceLeDiff,Nat.reduceLT,reduceCtorEq,Int.reduceLT,Int.reduceLE,Int.reduceEq,Int.reduceBEq,Int.reduceSub,Int.reduceAdd,Int.reduceMul,Int.reduceNeg,Int.reduceToNat,Nat.reduceMul,Nat.reduceBEq,index_rsl_if,setm,make_ints,condK_dec,wantK_dec,not_dec,and_dec,or_dec,seqK_ite,seqK_none,blockK_ite,blockK_none,opsK_ite,opsK_none,stepK_ite,stepK_none,bodyK_ite,bodyK_none,resK_ite,resK_none,leaveK_ite,leaveK_none,only_ite,only_none,bind_ite,gives_some,gives_none,gives_ite,then_normal,then_ret,then_exit,then_none,then_ite,Option.bind_none,Bool.not_eq_true',decide_eq_false_iff_not,Bool.and_eq_true,Bool.or_eq_true,Option.some.injEq,Int.not_lt,Int.not_le,lp69_0,hx,hlt,p,hs]
   refine ⟨i+1,by simp only [go_sem,reduceIte,Nat.reduceEqDiff,Nat.reduceAdd,Nat.reduceSub,Nat.reduceLeDiff,Nat.reduceLT,reduceCtorEq,Int.reduceLT,Int.reduceLE,Int.reduceEq,Int.reduceBEq,Int.reduceSub,Int.reduceAdd,Int.reduceMul,Int.reduceNeg,Int.reduceToNat,Nat.reduceMul,Nat.reduceBEq,ren1_locm,loc_tips,locT_eq]<;>rfl,?_,?_,fun x en s hq=> ?_⟩
   ·omega
   ·omega
   ·rw [e];simp only [List.mem_cons,p,false_or];exact hq
 ·have hd:l.drop i=[]:=List.drop_eq_nil_of_le (by omega)
  have hlt:((i:Int)<(l.length:Int))=False:=eq_false (by omega)
  simp only [go_sem,reduceIte,Nat.reduceEqDiff,Nat.reduceAdd,Nat.reduceSub,Nat.reduceLeDiff,Nat.reduceLT,reduceCtorEq,Int.reduceLT,Int.reduceLE,Int.reduceEq,Int.reduceBEq,Int.reduceSub,Int.reduceAdd,Int.reduceMul,Int.reduceNeg,Int.reduceToNat,Nat.reduceMul,Nat.reduceBEq,index_rsl_if,setm,make_ints,condK_dec,wantK_dec,not_dec,and_dec,or_dec,seqK_ite,seqK_none,blockK_ite,blockK_none,opsK_ite,opsK_none,stepK_ite,stepK_none,bodyK_ite,bodyK_none,resK_ite,resK_none,leaveK_ite,leaveK_none,only_ite,only_none,bind_ite,gives_some,gives_none,gives_ite,then_normal,then_ret,then_exit,then_none,then_ite,Option.bind_none,Bool.not_eq_true',decide_eq_false_iff_not,Bool.and_eq_true,Bool.or_eq_true,Option.some.injEq,Int.not_lt,Int.not_le,lp69_0,hlt]
  rw [hd];simp
theorem indexOf_not (a:Int): ∀(l:List Int) (i:Nat),a ∉ l→indexOf a l i= -1
 | [],i,_=>rfl
 |b::r,i,hn=>by
  simp only [List.mem_cons,not_or] at hn
  simp only [indexOf];rw [if_neg hn.1];exact indexOf_not a r _ hn.2
theorem indexOf_ge (a : Int) : ∀ (l : List Int) (i : Nat), a ∈ l → 0 ≤ indexOf a l i
  | [], i, h => by simp at h
  | b :: r, i, h => by
    simp only [indexOf]
    split
    · omega
    · next hn => exact indexOf_ge a r _ (by rcases List.mem_cons.1 h with h | h; · exact absurd h hn
                                            · exact h)
theorem c69 (nl:Bool)(l:List Int)(hlen:l.length<1000000)(a:Int)(st:St):run L 69 [sl 1 nl (l.map I),I a] st=some (I (indexOf a l 0),st):=by
 rw [run_pure (fn:=ir69) rfl rfl]
 simp only [ir69,go_sem,reduceIte,Nat.reduceEqDiff,Nat.reduceAdd,Nat.reduceSub,Nat.reduceLeDiff,Nat.reduceLT,reduceCtorEq,Int.reduceLT,Int.reduceLE,Int.reduceEq,Int.reduceBEq,Int.reduceSub,Int.reduceAdd,Int.reduceMul,Int.reduceNeg,Int.reduceToNat,Nat.reduceMul,Nat.reduceBEq,List.length_map]
 generalize hg:lim (headed pure (run L) true _ lp69_0 _ _) _ _=o
 obtain ⟨x,en,s,rfl,h2⟩: ∃x en s,o=some (x,en,s)∧_:=by rw [←hg];exact loop69 nl l hlen a 0 (by omega) _ _ (by simp only [go_sem,reduceIte,Nat.reduceEqDiff,Nat.reduceAdd,Nat.reduceSub,Nat.reduceLeDiff,Nat.reduceLT,reduceCtorEq,Int.reduceLT,Int.reduceLE,Int.reduceEq,Int.reduceBEq,Int.reduceSub,Int.reduceAdd,Int.reduceMul,Int.reduceNeg,Int.reduceToNat,Nat.reduceMul,Nat.reduceBEq]<;>rfl)
 clear hg
 rw [List.drop_zero] at h2
 by_cases h:a∈l
 ·rw [if_pos h] at h2
  obtain ⟨rfl,h3⟩:=h2
  simp only [go_sem,reduceIte,Nat.reduceEqDiff,Nat.reduceAdd,Nat.reduceSub,Nat.reduceLeDiff,Nat.reduceLT,reduceCtorEq,Int.reduceLT,Int.reduceLE,Int.reduceEq,Int.reduceBEq,Int.reduceSub,Int.reduceAdd,Int.reduceMul,Int.reduceNeg,Int.reduceToNat,Nat.reduceMul,Nat.reduceBEq,h3]
 ·rw [if_neg h] at h2
  subst h2
  simp only [go_sem,reduceIte,Nat.reduceEqDiff,Nat.reduceAdd,Nat.reduceSub,Nat.reduceLeDiff,Nat.reduceLT,reduceCtorEq,Int.reduceLT,Int.reduceLE,Int.reduceEq,Int.reduceBEq,Int.reduceSub,Int.reduceAdd,Int.reduceMul,Int.reduceNeg,Int.reduceToNat,Nat.reduceMul,Nat.reduceBEq,indexOf_not a l 0 h]
theorem c21 (nl:Bool)(l:List Int)(hlen:l.length<1000000)(a:Int)(st:St):run L 21 [sl 1 nl (l.map I),I a] st=some (B (decide (a∈l)),st):=by
 rw [run_pure (fn:=ir21) rfl rfl]
 have h69:=fun st=>c69 nl l hlen a st
 by_cases h:a∈l
 ·have q:(0≤indexOf a l 0)=True:=eq_true (indexOf_ge a l 0 h)
  simp only [ir21,go_sem,reduceIte,Nat.reduceEqDiff,Nat.reduceAdd,Nat.reduceSub,Nat.reduceLeDiff,Nat.reduceLT,reduceCtorEq,Int.reduceLT,Int.reduceLE,Int.reduceEq,Int.reduceBEq,Int.reduceSub,Int.reduceAdd,Int.reduceMul,Int.reduceNeg,Int.reduceToNat,Nat.reduceMul,Nat.reduceBEq,h69,q,h]
 ·have e:=indexOf_not a l 0 h
  rw [e] at h69
  simp only [ir21,go_sem,reduceIte,Nat.reduceEqDiff,Nat.reduceAdd,Nat.reduceSub,Nat.reduceLeDiff,Nat.reduceLT,reduceCtorEq,Int.reduceLT,Int.reduceLE,Int.reduceEq,Int.reduceBEq,Int.reduceSub,Int.reduceAdd,Int.reduceMul,Int.reduceNeg,Int.reduceToNat,Nat.reduceMul,Nat.reduceBEq,h69,h]
theorem c113 (x:Int)(h:0≤x∧x≤9)(st:St):run L 113 [I x] st=some (B false,st):=by
 rw [run_shared (fn:=ir113) rfl rfl]
 have p:(x<0)=False:=eq_false (by omega)
 have q:(9<x)=False:=eq_false (by omega)
 simp only [ir113,go_sem,reduceIte,Nat.reduceEqDiff,Nat.reduceAdd,Nat.reduceSub,Nat.reduceLeDiff,Nat.reduceLT,reduceCtorEq,Int.reduceLT,Int.reduceLE,Int.reduceEq,Int.reduceBEq,Int.reduceSub,Int.reduceAdd,Int.reduceMul,Int.reduceNeg,Int.reduceToNat,Nat.reduceMul,Nat.reduceBEq,p,q]
theorem loop93 (k:Nat)(hk:pure k=false)(caps:List AV)(nl:Bool)(l:List Int)(hlen:l.length<1000000)(hc: ∀x∈l,∀st,run L k (I x::caps) st=some (B false,st))(st0:St)(lo hi:Nat)(i:Nat)(hok:i≤l.length)(env:Env)(st:St)
  (hg:gcAV false lo hi (canon env [0,1,7,8]) st=([(0,sl 1 nl (l.map I)),(1,.fn (.func k) [] caps),(7,I l.length),(8,I i)],st0)):
  ∃x_1 en s,lim (headed pure (run L) false [0,1,7,8] lp93_0 lo hi) env st=some (x_1,en,s)∧(x_1=.exit 0∧s=st0):=by
 refine loop_wp (α:=Nat) (fun i=>l.length-i) (fun i=>i≤l.length) (fun i=>([(0,sl 1 nl (l.map I)),(1,.fn (.func k) [] caps),(7,I l.length),(8,I i)],st0)) (fun i x_1 en s=>x_1=.exit 0∧s=st0) (fun i hok=> ?_) i hok env st hg
 by_cases h:i<l.length
 ·have hx:=index_ints nl l i h
  have hs:=succ64 i (by omega)
  have hlt:((i:Int)<(l.length:Int))=True:=eq_true (by omega)
  have hcall:=fun st=>hc l[i] (List.getElem_mem h) st
  generalize l[i]=b at*
  simp only [go_sem,reduceIte,Nat.reduceEqDiff,Nat.reduceAdd,Nat.reduceSub,Nat.reduceLeDiff,Nat.reduceLT,reduceCtorEq,Int.reduceLT,Int.reduceLE,Int.reduceEq,Int.reduceBEq,Int.reduceSub,Int.reduceAdd,Int.reduceMul,Int.reduceNeg,Int.reduceToNat,Nat.reduceMul,Nat.reduceBEq,index_rsl_if,setm,make_ints,condK_dec,wantK_dec,not_dec,and_dec,or_dec,seqK_ite,seqK_none,blockK_ite,blockK_none,opsK_ite,opsK_none,stepK_ite,stepK_none,bodyK_ite,bodyK_none,resK_ite,resK_none,leaveK_ite,leaveK_none,only_ite,only_none,bind_ite,gives_some,gives_none,gives_ite,then_normal,then_ret,then_exit,then_none,then_ite,Option.bind_none,Bool.not_eq_true',decide_eq_false_iff_not,Bool.and_eq_true,Bool.or_eq_true,Option.some.injEq,Int.not_lt,Int.not_le,lp93_0,hx,hlt,hk,hcall,hs]
  refine ⟨i+1,by simp only [go_sem,reduceIte,Nat.reduceEqDiff,Nat.reduceAdd,Nat.reduceSub,Nat.reduceLeDiff,Nat.reduceLT,reduceCtorEq,Int.reduceLT,Int.reduceLE,Int.reduceEq,Int.reduceBEq,Int.reduceSub,Int.reduceAdd,Int.reduceMul,Int.reduceNeg,Int.reduceToNat,Nat.reduceMul,Nat.reduceBEq,ren1_locm,loc_tips,locT_eq]<;>rfl,?_,?_,fun x en s hq=> ?_⟩
  all_goals first|exact hq|omega
 ·have hlt:((i:Int)<(l.length:Int))=False:=eq_false (by omega)
  simp only [go_sem,reduceIte,Nat.reduceEqDiff,Nat.reduceAdd,Nat.reduceSub,Nat.reduceLeDiff,Nat.reduceLT,reduceCtorEq,Int.reduceLT,Int.reduceLE,Int.reduceEq,Int.reduceBEq,Int.reduceSub,Int.reduceAdd,Int.reduceMul,Int.reduceNeg,Int.reduceToNat,Nat.reduceMul,Nat.reduceBEq,index_rsl_if,setm,make_ints,condK_dec,wantK_dec,not_dec,and_dec,or_dec,seqK_ite,seqK_none,blockK_ite,blockK_none,opsK_ite,opsK_none,stepK_ite,stepK_none,bodyK_ite,bodyK_none,resK_ite,resK_none,leaveK_ite,leaveK_none,only_ite,only_none,bind_ite,gives_some,gives_none,gives_ite,then_normal,then_ret,then_exit,then_none,then_ite,Option.bind_none,Bool.not_eq_true',decide_eq_false_iff_not,Bool.and_eq_true,Bool.or_eq_true,Option.some.injEq,Int.not_lt,Int.not_le,lp93_0,hlt]
theorem c93 (k:Nat)(hk:pure k=false)(caps:List AV)(nl:Bool)(l:List Int)(hlen:l.length<1000000)(hc: ∀x∈l,∀st,run L k (I x::caps) st=some (B false,st))(st:St):run L 93 [sl 1 nl (l.map I),.fn (.func k) [] caps] st=some (I (-1),st):=by
 rw [run_shared (fn:=ir93) rfl rfl]
 simp only [ir93,go_sem,reduceIte,Nat.reduceEqDiff,Nat.reduceAdd,Nat.reduceSub,Nat.reduceLeDiff,Nat.reduceLT,reduceCtorEq,Int.reduceLT,Int.reduceLE,Int.reduceEq,Int.reduceBEq,Int.reduceSub,Int.reduceAdd,Int.reduceMul,Int.reduceNeg,Int.reduceToNat,Nat.reduceMul,Nat.reduceBEq,List.length_map]
 generalize hg:lim (headed pure (run L) false _ lp93_0 _ _) _ _=o
 obtain ⟨x,en,s,rfl,h2⟩: ∃x en s,o=some (x,en,s)∧_:=by rw [←hg];exact loop93 k hk caps nl l hlen hc st _ _ 0 (by omega) _ _ (by simp only [go_sem,reduceIte,Nat.reduceEqDiff,Nat.reduceAdd,Nat.reduceSub,Nat.reduceLeDiff,Nat.reduceLT,reduceCtorEq,Int.reduceLT,Int.reduceLE,Int.reduceEq,Int.reduceBEq,Int.reduceSub,Int.reduceAdd,Int.reduceMul,Int.reduceNeg,Int.reduceToNat,Nat.reduceMul,Nat.reduceBEq]<;>rfl)
 clear hg
 obtain ⟨rfl,rfl⟩:=h2
 simp only [go_sem,reduceIte,Nat.reduceEqDiff,Nat.reduceAdd,Nat.reduceSub,Nat.reduceLeDiff,Nat.reduceLT,reduceCtorEq,Int.reduceLT,Int.reduceLE,Int.reduceEq,Int.reduceBEq,Int.reduceSub,Int.reduceAdd,Int.reduceMul,Int.reduceNeg,Int.reduceToNat,Nat.reduceMul,Nat.reduceBEq]
theorem c112 (k:Nat)(hk:pure k=false)(caps:List AV)(nl:Bool)(l:List Int)(hlen:l.length<1000000)(hc: ∀x∈l,∀st,run L k (I x::caps) st=some (B false,st))(st:St):run L 112 [sl 1 nl (l.map I),.fn (.func k) [] caps] st=some (B false,st):=by
 rw [run_shared (fn:=ir112) rfl rfl]
 have h93:=fun st=>c93 k hk caps nl l hlen hc st
 simp only [ir112,go_sem,reduceIte,Nat.reduceEqDiff,Nat.reduceAdd,Nat.reduceSub,Nat.reduceLeDiff,Nat.reduceLT,reduceCtorEq,Int.reduceLT,Int.reduceLE,Int.reduceEq,Int.reduceBEq,Int.reduceSub,Int.reduceAdd,Int.reduceMul,Int.reduceNeg,Int.reduceToNat,Nat.reduceMul,Nat.reduceBEq,h93]
theorem loop50 (n:Nat)(t:List (List Int))(hT:TabOk n t)(i:Nat)(hok:i≤t.length)(env:Env)(st:St)
  (hg:gcAV true 0 0 (canon env [0,13,14,15]) st=([(0,tbAV t),(13,tbAV t),(14,I t.length),(15,I i)],⟨[],[]⟩)):
  ∃x_1 en s,lim (headed pure (run L) true [0,13,14,15] lp50_0 0 0) env st=some (x_1,en,s)∧(x_1=.exit 1∧s=⟨[],[]⟩):=by
 refine loop_wp (α:=Nat) (fun i=>t.length-i) (fun i=>i≤t.length) (fun i=>([(0,tbAV t),(13,tbAV t),(14,I t.length),(15,I i)],⟨[],[]⟩)) (fun i x_1 en s=>x_1=.exit 1∧s=⟨[],[]⟩) (fun i hok=> ?_) i hok env st hg
 by_cases h:i<t.length
 ·have hx:=index_lists false t i h
  have h4:=hT.n4
  have hl:=hT.len
  have hs:=succ64 i (by omega)
  have hlt:((i:Int)<(t.length:Int))=True:=eq_true (by omega)
  have hr:=hT.rows t[i] (List.getElem_mem h)
  have hcl:=hT.cells t[i] (List.getElem_mem h)
  generalize t[i]=r at*
  have hcall:=fun st=>c112 113 rfl [] false r (by omega) (fun x hx st=>c113 x (hcl x hx) st) st
  have hne:((r.length:Int)=(t.length:Int))=True:=eq_true (by omega)
  simp only [go_sem,reduceIte,Nat.reduceEqDiff,Nat.reduceAdd,Nat.reduceSub,Nat.reduceLeDiff,Nat.reduceLT,reduceCtorEq,Int.reduceLT,Int.reduceLE,Int.reduceEq,Int.reduceBEq,Int.reduceSub,Int.reduceAdd,Int.reduceMul,Int.reduceNeg,Int.reduceToNat,Nat.reduceMul,Nat.reduceBEq,index_rsl_if,setm,make_ints,condK_dec,wantK_dec,not_dec,and_dec,or_dec,seqK_ite,seqK_none,blockK_ite,blockK_none,opsK_ite,opsK_none,stepK_ite,stepK_none,bodyK_ite,bodyK_none,resK_ite,resK_none,leaveK_ite,leaveK_none,only_ite,only_none,bind_ite,gives_some,gives_none,gives_ite,then_normal,then_ret,then_exit,then_none,then_ite,Option.bind_none,Bool.not_eq_true',decide_eq_false_iff_not,Bool.and_eq_true,Bool.or_eq_true,Option.some.injEq,Int.not_lt,Int.not_le,lp50_0,hx,hlt,hcall,hs,hne,List.length_map]
  refine ⟨i+1,by simp only [go_sem,reduceIte,Nat.reduceEqDiff,Nat.reduceAdd,Nat.reduceSub,Nat.reduceLeDiff,Nat.reduceLT,reduceCtorEq,Int.reduceLT,Int.reduceLE,Int.reduceEq,Int.reduceBEq,Int.reduceSub,Int.reduceAdd,Int.reduceMul,Int.reduceNeg,Int.reduceToNat,Nat.reduceMul,Nat.reduceBEq,ren1_locm,loc_tips,locT_eq]<;>rfl,?_,?_,fun x en s hq=> ?_⟩
  all_goals first|exact hq|omega
 ·have hlt:((i:Int)<(t.length:Int))=False:=eq_false (by omega)
  simp only [go_sem,reduceIte,Nat.reduceEqDiff,Nat.reduceAdd,Nat.reduceSub,Nat.reduceLeDiff,Nat.reduceLT,reduceCtorEq,Int.reduceLT,Int.reduceLE,Int.reduceEq,Int.reduceBEq,Int.reduceSub,Int.reduceAdd,Int.reduceMul,Int.reduceNeg,Int.reduceToNat,Nat.reduceMul,Nat.reduceBEq,index_rsl_if,setm,make_ints,condK_dec,wantK_dec,not_dec,and_dec,or_dec,seqK_ite,seqK_none,blockK_ite,blockK_none,opsK_ite,opsK_none,stepK_ite,stepK_none,bodyK_ite,bodyK_none,resK_ite,resK_none,leaveK_ite,leaveK_none,only_ite,only_none,bind_ite,gives_some,gives_none,gives_ite,then_normal,then_ret,then_exit,then_none,then_ite,Option.bind_none,Bool.not_eq_true',decide_eq_false_iff_not,Bool.and_eq_true,Bool.or_eq_true,Option.some.injEq,Int.not_lt,Int.not_le,lp50_0,hlt]
theorem c50 (n:Nat)(t:List (List Int))(hT:TabOk n t)(st:St):run L 50 [tbAV t] st=some (I 0,st):=by
 rw [run_pure (fn:=ir50) rfl rfl]
 have h4:=hT.n4
 have h1:=hT.n1
 have hl:=hT.len
 have p:((t.length:Int)=0)=False:=eq_false (by omega)
 have q:((4:Int)<(t.length:Int))=False:=eq_false (by omega)
 simp only [ir50,go_sem,reduceIte,Nat.reduceEqDiff,Nat.reduceAdd,Nat.reduceSub,Nat.reduceLeDiff,Nat.reduceLT,reduceCtorEq,Int.reduceLT,Int.reduceLE,Int.reduceEq,Int.reduceBEq,Int.reduceSub,Int.reduceAdd,Int.reduceMul,Int.reduceNeg,Int.reduceToNat,Nat.reduceMul,Nat.reduceBEq,List.length_map,p,q]
 generalize hg:lim (headed pure (run L) true _ lp50_0 _ _) _ _=o
 obtain ⟨x,en,s,rfl,h2⟩: ∃x en s,o=some (x,en,s)∧_:=by rw [←hg];exact loop50 n t hT 0 (by omega) _ _ (by simp only [go_sem,reduceIte,Nat.reduceEqDiff,Nat.reduceAdd,Nat.reduceSub,Nat.reduceLeDiff,Nat.reduceLT,reduceCtorEq,Int.reduceLT,Int.reduceLE,Int.reduceEq,Int.reduceBEq,Int.reduceSub,Int.reduceAdd,Int.reduceMul,Int.reduceNeg,Int.reduceToNat,Nat.reduceMul,Nat.reduceBEq]<;>rfl)
 clear hg
 obtain ⟨rfl,rfl⟩:=h2
 simp only [go_sem,reduceIte,Nat.reduceEqDiff,Nat.reduceAdd,Nat.reduceSub,Nat.reduceLeDiff,Nat.reduceLT,reduceCtorEq,Int.reduceLT,Int.reduceLE,Int.reduceEq,Int.reduceBEq,Int.reduceSub,Int.reduceAdd,Int.reduceMul,Int.reduceNeg,Int.reduceToNat,Nat.reduceMul,Nat.reduceBEq]
end Go.Proofs.YtdnjagnechibhaaGreatDoor.Vm
