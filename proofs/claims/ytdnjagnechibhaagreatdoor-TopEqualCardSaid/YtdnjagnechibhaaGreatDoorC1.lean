/- What is proved: what each function of this program computes, as equations on the evaluator. No condition. -/
import Derived.Test.YtdnjagnechibhaaGreatDoorLib
import Derived.Test.YtdnjagnechibhaaGreatDoorSy
import Derived.WalkKit
import Derived.ProofKit
import Derived.OpenShut
import Derived.KernelRfl
import Derived.Test.YtdnjagnechibhaaGreatDoorT0
set_option linter.all false
namespace Go.Proofs.YtdnjagnechibhaaGreatDoor.Vm
open Go Go.Ev
set_option maxRecDepth 100000
attribute [local go_sem] cells_any storable_any ren1_any shaped_ptr cells_ptr storable_ptr ren1_ptr shaped_eptr cells_eptr storable_eptr ren1_eptr shaped_rsl cells_rsl storable_rsl ren1_rsl shaped_int cells_int storable_int ren1_int shaped_bool cells_bool storable_bool ren1_bool shaped_nils cells_nils storable_nils ren1_nils shaped_lst cells_lst storable_lst shaped_fn cells_fn storable_fn ren1_fn shaped_ifc cells_ifc storable_ifc ren1_ifc shaped_agg cells_agg storable_agg ren1_agg shaped_tup cells_tup storable_tup ren1_tup shaped_nif cells_nif storable_nif ren1_nif ren1_lany ren1_lfull ren1_lown len_lst len_rsl len_nil load_ptr load_eptr isRsl_lst isRsl_nil isRsl_rsl elems_nil elems_lst elems_sl isRsl_sl body_eq bodyK_normal bodyK_ret resK_some leaveK_some only_some code_skip code_exit code_ret code_ops code_seq code_cond code_block seqK_normal seqK_ret seqK_exit condK_true condK_false blockK_normal blockK_ret blockK_exit opsK_some ops_nil ops_cons wantK_true wantK_false stepK_some pubs pub pub_sl params okRef_loc storable_loc shaped_loc cells_loc isRsl_loc elems_loc len_loc untips untip untip_sl wantedAV setElems withO isAgg_v isAgg_agg isAgg_lst isAgg_ptr isAgg_fn isAgg_ifc isAgg_rsl isAgg_sl isAgg_loc List.replicate_succ List.replicate_zero opAV valAV aval avals ofVal Env.get setD canon gcAV renAll renEnv renStore renCells ren1_sl cutSt okEnv okStore okRefs okRef okRef_sl bin_int bin_bool bin_lst bin_rsl bin_nil bin_agg cellsEq cellEq isShift intOp boolOp min_int max_int beq_int bne resAV tupAV leave_eq fin_sl fin_loc fins fin_v fin_lst fin_agg fin_tup fin_fn storeAV readCells putCells cells_sl shaped_sl storable_sl fieldAddrAV len_sl goI List.getElem?_cons_zero List.getElem?_cons_succ List.getElem?_nil Option.bind_some Option.map_some List.length_cons List.length_nil List.all_cons List.all_nil Bool.and_true Bool.true_and Bool.and_false Bool.false_and and_true true_and and_false false_and Bool.false_eq_true List.set_cons_zero List.set_cons_succ List.append_nil List.nil_append List.cons_append List.take_zero List.take_succ_cons List.take_nil List.drop_zero List.drop_succ_cons List.map_cons List.map_nil decide_true decide_false beq_self_eq_true Bool.not_true Bool.not_false or_true true_or or_false false_or Nat.zero_add Nat.add_zero Nat.le_refl Nat.lt_irrefl decide_eq_true_eq eq_self_iff_true not_true_eq_false not_false_eq_true List.getD_cons_zero code_loop Nat.zero_le Nat.not_lt_zero Bool.true_beq Bool.false_beq beq_true beq_false ge_iff_le gt_iff_lt keepR keepT ownTop Lpure pus Option.map_none assert_ifc assert_nil idxA_ptr idxA_eptr idxV_agg Int.cast_ofNat_Int Nat.mul_one Nat.zero_mul Int.toNat_natCast Int.toNat_zero setParts withO2 hasKey eqnil_sl nenil_sl eqnil_loc nenil_loc map_nil_iff okRefs_ints renCells_ints
theorem succ64 (i:Nat)(h:i<1000000):IntKind.i64.wrap ((i:Int)+1)=((i+1:Nat):Int):=by
 rw [wrap64]<;>omega
def sums:Int→List Int→List Int
 |s,[]=> [s]
 |s,x::r=>s::sums (s+x) r
theorem sums_len (s:Int)(l:List Int):(sums s l).length=l.length+1:=by
 induction l generalizing s with
 |nil=>rfl
 |cons x r ih=>simp [sums,ih]
theorem sums_get (s:Int)(l:List Int)(i:Nat)(h:i<(sums s l).length):(sums s l)[i]=s+(l.take i).sum:=by
 induction l generalizing s i with
 |nil=>simp [sums] at h;subst h;simp [sums]
 |cons x r ih=>
  cases i with
  |zero=>simp [sums]
  |succ i=>simp [sums];rw [ih];omega
theorem sums_snoc (s:Int)(l:List Int)(x:Int):sums s (l++ [x])=sums s l++ [s+l.sum+x]:=by
 induction l generalizing s with
 |nil=>simp [sums]
 |cons y r ih=>simp [sums,ih,Int.add_assoc]
def seg (l:List Int) (b e:Int):Int:=l.getD e.toNat 0-l.getD b.toNat 0
theorem sums_bound (l:List Int)(hl: ∀x∈l,0≤x∧x≤100): ∀(s:Int),0≤s→∀x∈sums s l,0≤x∧x≤s+100*l.length:=by
 induction l with
 |nil=>intro s hs x hx;simp [sums] at hx;subst hx;simp;exact hs
 |cons y r ih=>
  intro s hs x hx
  have hy:=hl y (by simp)
  simp only [sums,List.mem_cons] at hx
  rcases hx with rfl|hx
  ·simp only [List.length_cons];omega
  ·have:=ih (fun z hz=>hl z (by simp [hz])) (s+y) (by omega) x hx
   simp only [List.length_cons];omega
def fillFrom (l:List Int) (room:Int):Nat→Nat→Nat→List Int→Option (List Int)
 |0,_,_,out=>some out
 |k+1,b,e,out=>if room<seg l ((e:Int)-1) e then none else if room<seg l b e then fillFrom l room k (e-1) (e+1) (out++ [(e:Int)-1]) else fillFrom l room k b (e+1) out
def filled (l:List Int) (room:Int):List Int:=
 match fillFrom l room (l.length-1) 0 1 [] with
 |none=> []
 |some r=>r++ [(l.length:Int)-1]
abbrev fits (l:List Int) (v:Int) (room:Int):Prop:=filled l room≠[]∧((filled l room).length:Int)≤v
def liAV (k:Nat) (o:List Int):AV:=loc 1 k (o.map I)
def liT (k:Nat) (o:List Int):List Nat:=locT k (o.map I)
def liAcc (k:Nat) (o:List Int):List (Nat×Nat):=if (o.map I).length=k then [] else [(0,(o.map I).length)]
theorem okRef_li (n k:Nat)(o:List Int):okRef n (liAV k o)=true:=okRef_loc _ _ _ _
theorem storable_li (k:Nat)(o:List Int):storable (liAV k o)=true:=storable_loc _ _ _
theorem shaped_li (k:Nat)(o:List Int):(liAV k o).shaped=true:=shaped_loc _ _ _
theorem cells_li (k:Nat)(o:List Int):(liAV k o).cells=[liAV k o]:=cells_loc _ _ _
theorem ren1_li (k:Nat)(o:List Int):ren1 0 (liT k o) [] (liAV k o)=(liAV k o,liAcc k o):=ren1_loc (k:=k) 1 (o.map I)
theorem liAcc_snd (k:Nat)(o:List Int):(liAcc k o).map (fun x=>x.2)=liT k o:=by
 unfold liAcc liT locT;split<;>rfl
theorem fin_li1 (st:St)(o:List Int):fin st (liAV 1 o)=sl 1 false (o.map I):=fin_loc st 1 1 _
theorem fin_li0 (st:St)(o:List Int):fin st (liAV 0 o)=sl 1 true (o.map I):=fin_loc st 1 0 _
theorem pub_li1 (o:List Int):pub (liAV 1 o)=sl 1 false (o.map I):=pub_loc 1 1 _
theorem pub_li0 (o:List Int):pub (liAV 0 o)=sl 1 true (o.map I):=pub_loc 1 0 _
theorem append_li (k:Nat)(o:List Int)(x:Int)(s:List (List AV))(hk:k≤o.length)(h:o.length<1000000):appendAV 1 (liAV k o) [I x] ⟨s,liT k o⟩=some (liAV k (o++ [x]),⟨s,liT k (o++ [x])⟩):=
 append_locm (z:=1) (k:=k) I o x s hk (by unfold maxGrow;omega)
theorem index_li1 (o:List Int)(i:Nat)(h:i<o.length):indexSAV 1 (liAV 1 o) (.v (.int .i64 i))=some (.eptr (I (o.getD i 0)) 0):=by
 unfold liAV
 rw [index_loc_if (d:=0) 1 1 I o .i64 i (.inr (by omega)),if_pos (by omega)]
 simp
theorem li_lit (x:Int): .lst .full 1 [I x]=liAV 1 [x]:=by simp [liAV,loc]
theorem liT_lit (x:Int):liT 1 [x]=[]:=rfl
theorem li_start: .v (.slice none 0 0)=liAV 0 []:=rfl
theorem liT_nil:liT 0 []=[]:=rfl
attribute [local go_sem] okRef_li storable_li shaped_li cells_li fin_li1 fin_li0 pub_li1 pub_li0
abbrev txAV (nl:Bool) (w:Int) (ws:List Int):AV:=.agg [I w,sl 1 nl (ws.map I)]
structure TextOk (w:Int) (ws:List Int):Prop where
 w1:1≤w
 w2:w≤40
 n1:0<ws.length
 n2:ws.length≤10
 each: ∀x∈ws,1≤x∧x≤w
abbrev lsum (ws:List Int):List Int:=sums 0 (ws.map (· +1))
theorem lsum_len (ws:List Int):(lsum ws).length=ws.length+1:=by simp [sums_len]
theorem lsum_take (ws:List Int)(i:Nat)(h:i<ws.length):lsum (ws.take (i+1))=lsum (ws.take i)++ [(lsum (ws.take i)).getD i 0+ws[i]+1]:=by
 have ht:ws.take (i+1)=ws.take i++ [ws[i]]:=(List.take_append_getElem h).symm
 unfold lsum
 rw [ht,List.map_append,List.map_cons,List.map_nil,sums_snoc]
 have hl:i<(sums 0 ((ws.take i).map (· +1))).length:=by simp [sums_len];omega
 have e:(sums 0 ((ws.take i).map (· +1))).getD i 0=((ws.take i).map (· +1)).sum:=by
  rw [List.getD_eq_getElem?_getD,List.getElem?_eq_getElem hl,Option.getD_some,sums_get,List.take_of_length_le (l:=(ws.take i).map (· +1)) (by rw [List.length_map,List.length_take];omega)]
  omega
 rw [e]
 congr 2
 omega
theorem lsum_bound {w:Int} {ws:List Int} (h: ∀x∈ws,1≤x∧x≤w)(hw:w≤40): ∀x∈lsum ws,0≤x∧x≤100*ws.length:=by
 intro x hx
 have:=sums_bound (ws.map (· +1)) (by intro y hy;obtain ⟨z,hz,rfl⟩:=List.mem_map.1 hy;have:=h z hz;omega) 0 (by omega) x hx
 simpa using this
theorem getD_bound {l:List Int} {b:Int} (h: ∀x∈l,0≤x∧x≤b)(hb:0≤b)(i:Nat):0≤l.getD i 0∧l.getD i 0≤b:=by
 rw [List.getD_eq_getElem?_getD]
 by_cases hi:i<l.length
 ·rw [List.getElem?_eq_getElem hi];exact h _ (List.getElem_mem hi)
 ·rw [List.getElem?_eq_none (by omega)];simpa using hb
theorem index_ints (nl:Bool)(xs:List Int)(i:Nat)(h:i<xs.length):indexSAV 1 (sl 1 nl (xs.map I)) (.v (.int .i64 i))=some (.eptr (.v (.int .i64 xs[i])) 0):=by
 rw [index_sl _ _ _ _ _ (by omega) (by simpa using h)]
 simp
theorem loop82 (nl:Bool)(w:Int)(ws:List Int)(hT:TextOk w ws)(i:Nat)(hok:i≤ws.length)(env:Env)(st:St)
  (hg:gcAV true 3 0 (canon env [1,2,4,34,35,36]) st=([(1,.ptr 0 0),(2,.ptr 1 0),(4,.ptr 2 0),(34,sl 1 nl (ws.map I)),(35,I ws.length),(36,I i)],⟨[[I w,sl 1 nl (ws.map I)],[I 0,sl 1 true []],[I w,liAV 1 (lsum (ws.take i))]],liT 1 (lsum (ws.take i))⟩)):
  ∃x_1 en s,lim (headed pure (run L) true [1,2,4,34,35,36] lp82_0 3 0) env st=some (x_1,en,s)∧(x_1=.exit 1∧en.get 2=.ptr 1 0∧en.get 4=.ptr 2 0∧s=⟨[[I w,sl 1 nl (ws.map I)],[I 0,sl 1 true []],[I w,liAV 1 (lsum ws)]],liT 1 (lsum ws)⟩):=by
 refine loop_wp (α:=Nat) (fun i=>ws.length-i) (fun i=>i≤ws.length) (fun i=>([(1,.ptr 0 0),(2,.ptr 1 0),(4,.ptr 2 0),(34,sl 1 nl (ws.map I)),(35,I ws.length),(36,I i)],⟨[[I w,sl 1 nl (ws.map I)],[I 0,sl 1 true []],[I w,liAV 1 (lsum (ws.take i))]],liT 1 (lsum (ws.take i))⟩)) (fun i x_1 en s=>x_1=.exit 1∧en.get 2=.ptr 1 0∧en.get 4=.ptr 2 0∧s=⟨[[I w,sl 1 nl (ws.map I)],[I 0,sl 1 true []],[I w,liAV 1 (lsum ws)]],liT 1 (lsum ws)⟩) (fun i hok=> ?_) i hok env st hg
 by_cases h:i<ws.length
 ·have hs:=succ64 i (by have:=hT.n2;omega)
  have hlt:((i:Int)<(ws.length:Int))=True:=eq_true (by omega)
  have hx:=index_ints nl ws i h
  have hb:=hT.each ws[i] (List.getElem_mem h)
  have h12:=hT.n2
  have hlen:(lsum (ws.take i)).length=i+1:=by rw [lsum_len,List.length_take];omega
  have hx2:=index_li1 (lsum (ws.take i)) i (by omega)
  have hbd:=getD_bound (lsum_bound (ws:=ws.take i) (fun x hx=>hT.each x (List.mem_of_mem_take hx)) hT.w2) (by omega) i
  have h10:(ws.take i).length≤10:=by have:=hT.n2;rw [List.length_take];omega
  have hw1:=wrap64 ((lsum (ws.take i)).getD i 0+ws[i]) (by omega) (by have:=hT.w2;omega)
  have hw2:=wrap64 ((lsum (ws.take i)).getD i 0+ws[i]+1) (by omega) (by have:=hT.w2;omega)
  have happ:=fun s=>append_li 1 (lsum (ws.take i)) ((lsum (ws.take i)).getD i 0+ws[i]+1) s (by omega) (by omega)
  rw [←lsum_take ws i h] at happ
  generalize hA:lsum (ws.take i)=A at*
  generalize hB:lsum (ws.take (i+1))=B at*
  have c1:(ws[i]<1)=False:=eq_false (by omega)
  have c2:(w<ws[i])=False:=eq_false (by omega)
  generalize ws[i]=c at*
  have hren: ∀o:List Int,ren1 0 (liT 1 o) [] (liAV 1 o)=(liAV 1 o,liAcc 1 o):=ren1_li 1
  simp only [go_sem,reduceIte,Nat.reduceEqDiff,Nat.reduceAdd,Nat.reduceSub,Nat.reduceLeDiff,Nat.reduceLT,reduceCtorEq,Int.reduceLT,Int.reduceLE,Int.reduceEq,Int.reduceBEq,Int.reduceSub,Int.reduceAdd,Int.reduceMul,Int.reduceNeg,Int.reduceToNat,Nat.reduceMul,Nat.reduceBEq,index_rsl_if,setm,make_ints,condK_dec,wantK_dec,not_dec,and_dec,or_dec,seqK_ite,seqK_none,blockK_ite,blockK_none,opsK_ite,opsK_none,stepK_ite,stepK_none,bodyK_ite,bodyK_none,resK_ite,resK_none,leaveK_ite,leaveK_none,only_ite,only_none,bind_ite,gives_some,gives_none,gives_ite,then_normal,then_ret,then_exit,then_none,then_ite,Option.bind_none,Bool.not_eq_true',decide_eq_false_iff_not,Bool.and_eq_true,Bool.or_eq_true,Option.some.injEq,Int.not_lt,Int.not_le,lp82_0,hlt,hx,c1,c2,hx2,hw1,hw2,happ,hs]
  refine ⟨(i+1),by simp only [go_sem,reduceIte,Nat.reduceEqDiff,Nat.reduceAdd,Nat.reduceSub,Nat.reduceLeDiff,Nat.reduceLT,reduceCtorEq,Int.reduceLT,Int.reduceLE,Int.reduceEq,Int.reduceBEq,Int.reduceSub,Int.reduceAdd,Int.reduceMul,Int.reduceNeg,Int.reduceToNat,Nat.reduceMul,Nat.reduceBEq,ren1_locm,loc_tips,locT_eq,hB,hren,liAcc_snd]<;>rfl,?_,?_,fun x en s hq=> ?_⟩
  all_goals first|exact hq|omega
 ·have hlt:((i:Int)<(ws.length:Int))=False:=eq_false (by omega)
  have ht:ws.take i=ws:=List.take_of_length_le (by omega)
  rw [ht]
  simp only [go_sem,reduceIte,Nat.reduceEqDiff,Nat.reduceAdd,Nat.reduceSub,Nat.reduceLeDiff,Nat.reduceLT,reduceCtorEq,Int.reduceLT,Int.reduceLE,Int.reduceEq,Int.reduceBEq,Int.reduceSub,Int.reduceAdd,Int.reduceMul,Int.reduceNeg,Int.reduceToNat,Nat.reduceMul,Nat.reduceBEq,index_rsl_if,setm,make_ints,condK_dec,wantK_dec,not_dec,and_dec,or_dec,seqK_ite,seqK_none,blockK_ite,blockK_none,opsK_ite,opsK_none,stepK_ite,stepK_none,bodyK_ite,bodyK_none,resK_ite,resK_none,leaveK_ite,leaveK_none,only_ite,only_none,bind_ite,gives_some,gives_none,gives_ite,then_normal,then_ret,then_exit,then_none,then_ite,Option.bind_none,Bool.not_eq_true',decide_eq_false_iff_not,Bool.and_eq_true,Bool.or_eq_true,Option.some.injEq,Int.not_lt,Int.not_le,lp82_0,hlt]
theorem c82 (nl:Bool)(w:Int)(ws:List Int)(hT:TextOk w ws)(st:St):run L 82 [txAV nl w ws] st=some (.tup [.agg [I w,sl 1 false ((lsum ws).map I)],I 0],st):=by
 rw [run_pure (fn:=ir82) rfl rfl]
 have q1:(w<1)=False:=eq_false (by have:=hT.w1;omega)
 have q2:(40<w)=False:=eq_false (by have:=hT.w2;omega)
 have q3:((ws.length:Int)=0)=False:=eq_false (by have:=hT.n1;omega)
 have q4:((10:Int)<(ws.length:Int))=False:=eq_false (by have:=hT.n2;omega)
 simp only [ir82,go_sem,reduceIte,Nat.reduceEqDiff,Nat.reduceAdd,Nat.reduceSub,Nat.reduceLeDiff,Nat.reduceLT,reduceCtorEq,Int.reduceLT,Int.reduceLE,Int.reduceEq,Int.reduceBEq,Int.reduceSub,Int.reduceAdd,Int.reduceMul,Int.reduceNeg,Int.reduceToNat,Nat.reduceMul,Nat.reduceBEq,q1,q2,q3,q4,List.length_map]
 generalize hg:lim (headed pure (run L) true _ lp82_0 _ _) _ _=o
 obtain ⟨x,en,s,rfl,h2⟩: ∃x en s,o=some (x,en,s)∧_:=by rw [←hg];exact loop82 nl w ws hT 0 (Nat.zero_le _) _ _ (by simp only [go_sem,reduceIte,Nat.reduceEqDiff,Nat.reduceAdd,Nat.reduceSub,Nat.reduceLeDiff,Nat.reduceLT,reduceCtorEq,Int.reduceLT,Int.reduceLE,Int.reduceEq,Int.reduceBEq,Int.reduceSub,Int.reduceAdd,Int.reduceMul,Int.reduceNeg,Int.reduceToNat,Nat.reduceMul,Nat.reduceBEq,List.take_zero,lsum,sums,List.map_nil,li_lit,liT_lit,←sl_nil]<;>rfl)
 clear hg
 obtain ⟨rfl,h3,h4,rfl⟩:=h2
 simp only [go_sem,reduceIte,Nat.reduceEqDiff,Nat.reduceAdd,Nat.reduceSub,Nat.reduceLeDiff,Nat.reduceLT,reduceCtorEq,Int.reduceLT,Int.reduceLE,Int.reduceEq,Int.reduceBEq,Int.reduceSub,Int.reduceAdd,Int.reduceMul,Int.reduceNeg,Int.reduceToNat,Nat.reduceMul,Nat.reduceBEq,h3,h4]
abbrev opAV' (w:Int) (l:List Int):AV:=.agg [I w,sl 1 false (l.map I)]
theorem c83 (w:Int)(l:List Int)(h:1≤l.length)(h2:l.length<1000)(st:St):run L 83 [opAV' w l] st=some (I ((l.length-1:Nat):Int),st):=by
 rw [run_pure (fn:=ir83) rfl rfl]
 have hw:IntKind.i64.wrap ((l.length:Int)-1)=((l.length-1:Nat):Int):=by rw [wrap64]<;>omega
 simp only [ir83,go_sem,reduceIte,Nat.reduceEqDiff,Nat.reduceAdd,Nat.reduceSub,Nat.reduceLeDiff,Nat.reduceLT,reduceCtorEq,Int.reduceLT,Int.reduceLE,Int.reduceEq,Int.reduceBEq,Int.reduceSub,Int.reduceAdd,Int.reduceMul,Int.reduceNeg,Int.reduceToNat,Nat.reduceMul,Nat.reduceBEq,List.length_map,hw]
attribute [local go_sem] okRef_li storable_li shaped_li cells_li fin_li1 fin_li0 pub_li1 pub_li0
theorem c142 (w:Int)(hw0:0≤w∧w≤1000)(l:List Int)(hl: ∀x∈l,0≤x∧x≤100000)(b e:Nat)(hb:b<l.length)(he:e<l.length)(st:St):
  run L 142 [opAV' w l,.agg [I b,I e]] st=some (I (w+1-seg l b e),st):=by
 rw [run_pure (fn:=ir142) rfl rfl]
 have h1:=getD_bound hl (by omega) b
 have h2:=getD_bound hl (by omega) e
 have hs:seg l b e=l.getD e 0-l.getD b 0:=by simp [seg]
 have w1:=wrap64 (w+1) (by omega) (by omega)
 have w2:=wrap64 (l.getD e 0-l.getD b 0) (by omega) (by omega)
 have w3:=wrap64 (w+1-(l.getD e 0-l.getD b 0)) (by omega) (by omega)
 have x1:=index_sl_if 1 false I l 0 .i64 b
 have x2:=index_sl_if 1 false I l 0 .i64 e
 rw [if_pos (by omega)] at x1 x2
 simp only [Int.toNat_natCast] at x1 x2
 rw [hs]
 simp only [ir142,go_sem,reduceIte,Nat.reduceEqDiff,Nat.reduceAdd,Nat.reduceSub,Nat.reduceLeDiff,Nat.reduceLT,reduceCtorEq,Int.reduceLT,Int.reduceLE,Int.reduceEq,Int.reduceBEq,Int.reduceSub,Int.reduceAdd,Int.reduceMul,Int.reduceNeg,Int.reduceToNat,Nat.reduceMul,Nat.reduceBEq,x1,x2,w1,w2,w3]
def endD (l:List Int) (w:Int) (b:Nat):Nat→Nat
 |0=>0
 |e+1=>if w+1<seg l b ((e+1:Nat):Int) then endD l w b e else e+1
theorem loop84 (w:Int)(hw0:0≤w∧w≤1000)(l:List Int)(hl: ∀x∈l,0≤x∧x≤100000)(hlen:l.length<1000)(b:Nat)(e:Nat)(hok:b≤e∧e<l.length)(env:Env)(st:St)
  (hg:gcAV true 1 0 (canon env [1,2,3]) st=([(1,I b),(2,I e),(3,.ptr 0 0)],⟨[[I w,sl 1 false (l.map I)]],[]⟩)):
  ∃x_1 en s,lim (headed pure (run L) true [1,2,3] lp84_0 1 0) env st=some (x_1,en,s)∧(x_1=.exit 0∧en.get 2=I ((endD l w b e:Nat):Int)):=by
 refine loop_wp (α:=Nat) (fun e=>e) (fun e=>b≤e∧e<l.length) (fun e=>([(1,I b),(2,I e),(3,.ptr 0 0)],⟨[[I w,sl 1 false (l.map I)]],[]⟩)) (fun e x_1 en s=>x_1=.exit 0∧en.get 2=I ((endD l w b e:Nat):Int)) (fun e hok=> ?_) e hok env st hg
 have hc:=fun st=>c142 w hw0 l hl b e (by omega) (by omega) st
 cases e with
 |zero=>
  have hb0:b=0:=by omega
  subst hb0
  have hs:seg l ((0:Nat):Int) ((0:Nat):Int)=0:=by simp [seg]
  rw [hs] at hc
  have hc: ∀st,run L 142 [opAV' w l,.agg [I 0,I 0]] st=some (I (w+1-0),st):=hc
  have hlt:(w+1-0<0)=False:=eq_false (by omega)
  have he:endD l w 0 0=0:=rfl
  rw [he]
  simp only [go_sem,reduceIte,Nat.reduceEqDiff,Nat.reduceAdd,Nat.reduceSub,Nat.reduceLeDiff,Nat.reduceLT,reduceCtorEq,Int.reduceLT,Int.reduceLE,Int.reduceEq,Int.reduceBEq,Int.reduceSub,Int.reduceAdd,Int.reduceMul,Int.reduceNeg,Int.reduceToNat,Nat.reduceMul,Nat.reduceBEq,index_rsl_if,setm,make_ints,condK_dec,wantK_dec,not_dec,and_dec,or_dec,seqK_ite,seqK_none,blockK_ite,blockK_none,opsK_ite,opsK_none,stepK_ite,stepK_none,bodyK_ite,bodyK_none,resK_ite,resK_none,leaveK_ite,leaveK_none,only_ite,only_none,bind_ite,gives_some,gives_none,gives_ite,then_normal,then_ret,then_exit,then_none,then_ite,Option.bind_none,Bool.not_eq_true',decide_eq_false_iff_not,Bool.and_eq_true,Bool.or_eq_true,Option.some.injEq,Int.not_lt,Int.not_le,lp84_0,hc,hlt,Int.natCast_zero]
 |succ e=>
  have hd:IntKind.i64.wrap (((e+1:Nat):Int)-1)=(e:Int):=by rw [wrap64]<;>omega
  by_cases h:w+1<seg l b ((e+1:Nat):Int)
  ·have hlt:(w+1-seg l b ((e+1:Nat):Int)<0)=True:=eq_true (by omega)
   have hbe:b≠e+1:=by
    rintro rfl
    simp [seg] at h;omega
   simp only [go_sem,reduceIte,Nat.reduceEqDiff,Nat.reduceAdd,Nat.reduceSub,Nat.reduceLeDiff,Nat.reduceLT,reduceCtorEq,Int.reduceLT,Int.reduceLE,Int.reduceEq,Int.reduceBEq,Int.reduceSub,Int.reduceAdd,Int.reduceMul,Int.reduceNeg,Int.reduceToNat,Nat.reduceMul,Nat.reduceBEq,index_rsl_if,setm,make_ints,condK_dec,wantK_dec,not_dec,and_dec,or_dec,seqK_ite,seqK_none,blockK_ite,blockK_none,opsK_ite,opsK_none,stepK_ite,stepK_none,bodyK_ite,bodyK_none,resK_ite,resK_none,leaveK_ite,leaveK_none,only_ite,only_none,bind_ite,gives_some,gives_none,gives_ite,then_normal,then_ret,then_exit,then_none,then_ite,Option.bind_none,Bool.not_eq_true',decide_eq_false_iff_not,Bool.and_eq_true,Bool.or_eq_true,Option.some.injEq,Int.not_lt,Int.not_le,lp84_0,hc,hlt,hd]
   refine ⟨(e),by simp only [go_sem,reduceIte,Nat.reduceEqDiff,Nat.reduceAdd,Nat.reduceSub,Nat.reduceLeDiff,Nat.reduceLT,reduceCtorEq,Int.reduceLT,Int.reduceLE,Int.reduceEq,Int.reduceBEq,Int.reduceSub,Int.reduceAdd,Int.reduceMul,Int.reduceNeg,Int.reduceToNat,Nat.reduceMul,Nat.reduceBEq,ren1_locm,loc_tips,locT_eq]<;>rfl,?_,?_,fun x en s hq=> ?_⟩
   all_goals first|(simp only [endD,if_pos h];exact hq)|omega
  ·have hlt:(w+1-seg l b ((e+1:Nat):Int)<0)=False:=eq_false (by omega)
   have he:endD l w b (e+1)=e+1:=by simp only [endD];rw [if_neg h]
   rw [he]
   simp only [go_sem,reduceIte,Nat.reduceEqDiff,Nat.reduceAdd,Nat.reduceSub,Nat.reduceLeDiff,Nat.reduceLT,reduceCtorEq,Int.reduceLT,Int.reduceLE,Int.reduceEq,Int.reduceBEq,Int.reduceSub,Int.reduceAdd,Int.reduceMul,Int.reduceNeg,Int.reduceToNat,Nat.reduceMul,Nat.reduceBEq,index_rsl_if,setm,make_ints,condK_dec,wantK_dec,not_dec,and_dec,or_dec,seqK_ite,seqK_none,blockK_ite,blockK_none,opsK_ite,opsK_none,stepK_ite,stepK_none,bodyK_ite,bodyK_none,resK_ite,resK_none,leaveK_ite,leaveK_none,only_ite,only_none,bind_ite,gives_some,gives_none,gives_ite,then_normal,then_ret,then_exit,then_none,then_ite,Option.bind_none,Bool.not_eq_true',decide_eq_false_iff_not,Bool.and_eq_true,Bool.or_eq_true,Option.some.injEq,Int.not_lt,Int.not_le,lp84_0,hc,hlt,hd]
theorem c84 (w:Int)(hw0:0≤w∧w≤1000)(l:List Int)(hl: ∀x∈l,0≤x∧x≤100000)(hlen:l.length<1000)(b e:Nat)(hb:b≤e)(he:e<l.length)(st:St):
  run L 84 [opAV' w l,I b,I e] st=some (I ((endD l w b e:Nat):Int),st):=by
 rw [run_pure (fn:=ir84) rfl rfl]
 simp only [ir84,go_sem,reduceIte,Nat.reduceEqDiff,Nat.reduceAdd,Nat.reduceSub,Nat.reduceLeDiff,Nat.reduceLT,reduceCtorEq,Int.reduceLT,Int.reduceLE,Int.reduceEq,Int.reduceBEq,Int.reduceSub,Int.reduceAdd,Int.reduceMul,Int.reduceNeg,Int.reduceToNat,Nat.reduceMul,Nat.reduceBEq]
 generalize hg:lim (headed pure (run L) true _ lp84_0 _ _) _ _=o
 obtain ⟨x,en,s,rfl,h2⟩: ∃x en s,o=some (x,en,s)∧_:=by rw [←hg];exact loop84 w hw0 l hl hlen b e ⟨hb,he⟩ _ _ (by simp only [go_sem,reduceIte,Nat.reduceEqDiff,Nat.reduceAdd,Nat.reduceSub,Nat.reduceLeDiff,Nat.reduceLT,reduceCtorEq,Int.reduceLT,Int.reduceLE,Int.reduceEq,Int.reduceBEq,Int.reduceSub,Int.reduceAdd,Int.reduceMul,Int.reduceNeg,Int.reduceToNat,Nat.reduceMul,Nat.reduceBEq]<;>rfl)
 clear hg
 obtain ⟨rfl,h3⟩:=h2
 simp only [go_sem,reduceIte,Nat.reduceEqDiff,Nat.reduceAdd,Nat.reduceSub,Nat.reduceLeDiff,Nat.reduceLT,reduceCtorEq,Int.reduceLT,Int.reduceLE,Int.reduceEq,Int.reduceBEq,Int.reduceSub,Int.reduceAdd,Int.reduceMul,Int.reduceNeg,Int.reduceToNat,Nat.reduceMul,Nat.reduceBEq,h3]
def fullF (l:List Int) (w:Int) (n:Nat):Nat→Nat→List Int
 |0,_=> []
 |k+1,at_=>if at_<n then ((endD l w at_ n:Nat):Int)::fullF l w n k (endD l w at_ n) else []
theorem endD_le (l:List Int)(w:Int)(b:Nat): ∀e,endD l w b e≤e
 |0=>Nat.le_refl _
 |e+1=>by
  simp only [endD]
  split
  ·have:=endD_le l w b e;omega
  ·exact Nat.le_refl _
theorem endD_ge {l:List Int} {w:Int} {b m:Nat} (hm: ¬w+1<seg l b m): ∀e,m≤e→m≤endD l w b e
 |0,h=>h
 |e+1,h=>by
  simp only [endD]
  split
  ·next h2=>
   have:m≠e+1:=by rintro rfl;exact hm h2
   exact endD_ge hm e (by omega)
  ·exact h
def Steps1 (l:List Int) (w:Int) (n:Nat):Prop:=∀b:Nat,b<n→seg l b ((b+1:Nat):Int)≤w+1
theorem loop32 (w:Int)(hw0:0≤w∧w≤1000)(l:List Int)(hl: ∀x∈l,0≤x∧x≤100000)(hlen:1≤l.length∧l.length<1000)(hst:Steps1 l w (l.length-1))(tx:List AV)(htx:okRefs 2 tx=true)(hrc: ∀T A,renCells 0 T A tx=(tx,A))(k:Nat)(b:Nat)(out:List Int)(hok:b≤l.length-1∧l.length-1≤b+k∧out.length≤b)(env:Env)(st:St)
  (hg:gcAV true 2 0 (canon env [4,6,7]) st=([(4,.ptr 1 0),(6,liAV 0 out),(7,I b)],⟨[tx,[I w,sl 1 false (l.map I)]],liT 0 out⟩)):
  ∃x_1 en s,lim (headed pure (run L) true [4,6,7] lp32_0 2 0) env st=some (x_1,en,s)∧(x_1=.exit 0∧en.get 6=liAV 0 (out++fullF l w (l.length-1) k b)∧s=⟨[tx,[I w,sl 1 false (l.map I)]],liT 0 (out++fullF l w (l.length-1) k b)⟩):=by
 refine loop_wp (α:=Nat×Nat×List Int) (fun ⟨k,b,out⟩=>k) (fun ⟨k,b,out⟩=>b≤l.length-1∧l.length-1≤b+k∧out.length≤b) (fun ⟨k,b,out⟩=>([(4,.ptr 1 0),(6,liAV 0 out),(7,I b)],⟨[tx,[I w,sl 1 false (l.map I)]],liT 0 out⟩)) (fun ⟨k,b,out⟩ x_1 en s=>x_1=.exit 0∧en.get 6=liAV 0 (out++fullF l w (l.length-1) k b)∧s=⟨[tx,[I w,sl 1 false (l.map I)]],liT 0 (out++fullF l w (l.length-1) k b)⟩) (fun ⟨k,b,out⟩ hok=> ?_) ⟨k,b,out⟩ hok env st hg
 simp only at hok
 have h83:=fun st=>c83 w l hlen.1 hlen.2 st
 by_cases h:b<l.length-1
 ·obtain ⟨k',rfl⟩: ∃k',k=k'+1:=⟨k-1,by omega⟩
  have h84:=fun st=>c84 w hw0 l hl hlen.2 b (l.length-1) (by omega) (by omega) st
  have e1:=endD_le l w b (l.length-1)
  have e2:=endD_ge (l:=l) (w:=w) (b:=b) (m:=b+1) (by have:=hst b h;omega) (l.length-1) (by omega)
  have happ:=fun s=>append_li 0 out ((endD l w b (l.length-1):Nat):Int) s (by omega) (by omega)
  have hlt:((b:Int)<((l.length-1:Nat):Int))=True:=eq_true (by omega)
  have hf:fullF l w (l.length-1) (k'+1) b=((endD l w b (l.length-1):Nat):Int)::fullF l w (l.length-1) k' (endD l w b (l.length-1)):=by simp only [fullF,if_pos h]
  dsimp only
  rw [hf]
  generalize endD l w b (l.length-1)=c at*
  have hren: ∀o:List Int,ren1 0 (liT 0 o) [] (liAV 0 o)=(liAV 0 o,liAcc 0 o):=ren1_li 0
  simp only [go_sem,reduceIte,Nat.reduceEqDiff,Nat.reduceAdd,Nat.reduceSub,Nat.reduceLeDiff,Nat.reduceLT,reduceCtorEq,Int.reduceLT,Int.reduceLE,Int.reduceEq,Int.reduceBEq,Int.reduceSub,Int.reduceAdd,Int.reduceMul,Int.reduceNeg,Int.reduceToNat,Nat.reduceMul,Nat.reduceBEq,index_rsl_if,setm,make_ints,condK_dec,wantK_dec,not_dec,and_dec,or_dec,seqK_ite,seqK_none,blockK_ite,blockK_none,opsK_ite,opsK_none,stepK_ite,stepK_none,bodyK_ite,bodyK_none,resK_ite,resK_none,leaveK_ite,leaveK_none,only_ite,only_none,bind_ite,gives_some,gives_none,gives_ite,then_normal,then_ret,then_exit,then_none,then_ite,Option.bind_none,Bool.not_eq_true',decide_eq_false_iff_not,Bool.and_eq_true,Bool.or_eq_true,Option.some.injEq,Int.not_lt,Int.not_le,lp32_0,hlt,h83,h84,happ]
  refine ⟨(k',c,out++ [(c:Int)]),by simp only [go_sem,reduceIte,Nat.reduceEqDiff,Nat.reduceAdd,Nat.reduceSub,Nat.reduceLeDiff,Nat.reduceLT,reduceCtorEq,Int.reduceLT,Int.reduceLE,Int.reduceEq,Int.reduceBEq,Int.reduceSub,Int.reduceAdd,Int.reduceMul,Int.reduceNeg,Int.reduceToNat,Nat.reduceMul,Nat.reduceBEq,ren1_locm,loc_tips,locT_eq,hren,liAcc_snd,htx,hrc]<;>rfl,?_,?_,fun x en s hq=> ?_⟩
  all_goals first|(simp only [List.append_assoc,List.singleton_append] at hq;exact hq)|(simp;omega)|omega
 ·have hlt:((b:Int)<((l.length-1:Nat):Int))=False:=eq_false (by omega)
  have hf:fullF l w (l.length-1) k b=[]:=by cases k<;>simp [fullF,h]
  dsimp only
  rw [hf,List.append_nil]
  simp only [go_sem,reduceIte,Nat.reduceEqDiff,Nat.reduceAdd,Nat.reduceSub,Nat.reduceLeDiff,Nat.reduceLT,reduceCtorEq,Int.reduceLT,Int.reduceLE,Int.reduceEq,Int.reduceBEq,Int.reduceSub,Int.reduceAdd,Int.reduceMul,Int.reduceNeg,Int.reduceToNat,Nat.reduceMul,Nat.reduceBEq,index_rsl_if,setm,make_ints,condK_dec,wantK_dec,not_dec,and_dec,or_dec,seqK_ite,seqK_none,blockK_ite,blockK_none,opsK_ite,opsK_none,stepK_ite,stepK_none,bodyK_ite,bodyK_none,resK_ite,resK_none,leaveK_ite,leaveK_none,only_ite,only_none,bind_ite,gives_some,gives_none,gives_ite,then_normal,then_ret,then_exit,then_none,then_ite,Option.bind_none,Bool.not_eq_true',decide_eq_false_iff_not,Bool.and_eq_true,Bool.or_eq_true,Option.some.injEq,Int.not_lt,Int.not_le,lp32_0,hlt,h83]
theorem lsum_getD (ws:List Int)(i:Nat)(h:i≤ws.length):(lsum ws).getD i 0=((ws.take i).map (· +1)).sum:=by
 have hl:i<(lsum ws).length:=by rw [lsum_len];omega
 rw [List.getD_eq_getElem?_getD,List.getElem?_eq_getElem hl,Option.getD_some,sums_get,←List.map_take]
 omega
theorem lsum_seg (ws:List Int)(b:Nat)(h:b<ws.length):seg (lsum ws) b ((b+1:Nat):Int)=ws[b]+1:=by
 simp only [seg,Int.toNat_natCast]
 rw [lsum_getD ws (b+1) (by omega),lsum_getD ws b (by omega),←List.take_append_getElem h,List.map_append,List.sum_append]
 simp only [List.map_cons,List.map_nil,List.sum_cons,List.sum_nil]
 omega
theorem steps1_ok {w:Int} {ws:List Int} (h:TextOk w ws):Steps1 (lsum ws) w ((lsum ws).length-1):=by
 intro b hb
 rw [lsum_len] at hb
 have hb':b<ws.length:=by omega
 rw [lsum_seg ws b hb']
 have:=h.each _ (List.getElem_mem hb')
 omega
def fullL (w:Int) (ws:List Int):List Int:=fullF (lsum ws) w ws.length ws.length 0
theorem c32 (nl:Bool)(w:Int)(ws:List Int)(hT:TextOk w ws)(st:St):run L 32 [txAV nl w ws] st=some (.tup [sl 1 true ((fullL w ws).map I),I 0],st):=by
 rw [run_pure (fn:=ir32) rfl rfl]
 have h82:=fun st=>c82 nl w ws hT st
 have hb: ∀x∈lsum ws,0≤x∧x≤100000:=fun x hx=>by
  have:=lsum_bound hT.each hT.w2 x hx
  have:=hT.n2
  omega
 have hl:(lsum ws).length-1=ws.length:=by rw [lsum_len];omega
 have hlen:1≤(lsum ws).length∧(lsum ws).length<1000:=by rw [lsum_len];have:=hT.n2;omega
 simp only [ir32,go_sem,reduceIte,Nat.reduceEqDiff,Nat.reduceAdd,Nat.reduceSub,Nat.reduceLeDiff,Nat.reduceLT,reduceCtorEq,Int.reduceLT,Int.reduceLE,Int.reduceEq,Int.reduceBEq,Int.reduceSub,Int.reduceAdd,Int.reduceMul,Int.reduceNeg,Int.reduceToNat,Nat.reduceMul,Nat.reduceBEq,h82]
 generalize hg:lim (headed pure (run L) true _ lp32_0 _ _) _ _=o
 obtain ⟨x,en,s,rfl,h2⟩: ∃x en s,o=some (x,en,s)∧_:=by rw [←hg];exact loop32 w (by have:=hT.w1;have:=hT.w2;omega) (lsum ws) hb hlen (steps1_ok hT) [I w,sl 1 nl (ws.map I)] (by simp only [go_sem,reduceIte,Nat.reduceEqDiff,Nat.reduceAdd,Nat.reduceSub,Nat.reduceLeDiff,Nat.reduceLT,reduceCtorEq,Int.reduceLT,Int.reduceLE,Int.reduceEq,Int.reduceBEq,Int.reduceSub,Int.reduceAdd,Int.reduceMul,Int.reduceNeg,Int.reduceToNat,Nat.reduceMul,Nat.reduceBEq]) (fun T A=>by simp only [go_sem,reduceIte,Nat.reduceEqDiff,Nat.reduceAdd,Nat.reduceSub,Nat.reduceLeDiff,Nat.reduceLT,reduceCtorEq,Int.reduceLT,Int.reduceLE,Int.reduceEq,Int.reduceBEq,Int.reduceSub,Int.reduceAdd,Int.reduceMul,Int.reduceNeg,Int.reduceToNat,Nat.reduceMul,Nat.reduceBEq]) ws.length 0 [] ⟨by omega,by omega,by simp⟩ _ _ (by simp only [go_sem,reduceIte,Nat.reduceEqDiff,Nat.reduceAdd,Nat.reduceSub,Nat.reduceLeDiff,Nat.reduceLT,reduceCtorEq,Int.reduceLT,Int.reduceLE,Int.reduceEq,Int.reduceBEq,Int.reduceSub,Int.reduceAdd,Int.reduceMul,Int.reduceNeg,Int.reduceToNat,Nat.reduceMul,Nat.reduceBEq,li_start,liT_nil,Int.natCast_zero]<;>rfl)
 clear hg
 rw [hl,List.nil_append] at h2
 obtain ⟨rfl,h3,rfl⟩:=h2
 simp only [go_sem,reduceIte,Nat.reduceEqDiff,Nat.reduceAdd,Nat.reduceSub,Nat.reduceLeDiff,Nat.reduceLT,reduceCtorEq,Int.reduceLT,Int.reduceLE,Int.reduceEq,Int.reduceBEq,Int.reduceSub,Int.reduceAdd,Int.reduceMul,Int.reduceNeg,Int.reduceToNat,Nat.reduceMul,Nat.reduceBEq,h3,fullL]
attribute [local go_sem] okRef_li storable_li shaped_li cells_li fin_li1 fin_li0 pub_li1 pub_li0
abbrev B8 (n:Int):AV:=.v (.int .u8 n)
def Byte (n:Int):Prop:=0≤n∧n≤255
theorem mod_range (a b:Int)(hb:0<b):0≤a % b∧a % b<b:=⟨Int.emod_nonneg a (by omega),Int.emod_lt_of_pos a hb⟩
theorem tmod8 {a n:Int} (h:0≤a):a.tmod n=a % n:=Int.tmod_eq_emod_of_nonneg h
end Go.Proofs.YtdnjagnechibhaaGreatDoor.Vm
namespace Go.Proofs.YtdnjagnechibhaaGreatDoor.Vm
open Go Go.Ev Go.ChangeShapes Go.WideShapes Go.ChangeAt Go.RowKit
set_option maxRecDepth 100000
attribute [local go_sem] cells_any storable_any ren1_any shaped_ptr cells_ptr storable_ptr ren1_ptr shaped_eptr cells_eptr storable_eptr ren1_eptr shaped_rsl cells_rsl storable_rsl ren1_rsl shaped_int cells_int storable_int ren1_int shaped_bool cells_bool storable_bool ren1_bool shaped_nils cells_nils storable_nils ren1_nils shaped_lst cells_lst storable_lst shaped_fn cells_fn storable_fn ren1_fn shaped_ifc cells_ifc storable_ifc ren1_ifc shaped_agg cells_agg storable_agg ren1_agg shaped_tup cells_tup storable_tup ren1_tup shaped_nif cells_nif storable_nif ren1_nif ren1_lany ren1_lfull ren1_lown len_lst len_rsl len_nil load_ptr load_eptr isRsl_lst isRsl_nil isRsl_rsl elems_nil elems_lst elems_sl isRsl_sl body_eq bodyK_normal bodyK_ret resK_some leaveK_some only_some code_skip code_exit code_ret code_ops code_seq code_cond code_block seqK_normal seqK_ret seqK_exit condK_true condK_false blockK_normal blockK_ret blockK_exit opsK_some ops_nil ops_cons wantK_true wantK_false stepK_some pubs pub pub_sl params okRef_loc storable_loc shaped_loc cells_loc isRsl_loc elems_loc len_loc untips untip untip_sl wantedAV setElems withO isAgg_v isAgg_agg isAgg_lst isAgg_ptr isAgg_fn isAgg_ifc isAgg_rsl isAgg_sl isAgg_loc List.replicate_succ List.replicate_zero opAV valAV aval avals ofVal Env.get setD canon gcAV renAll renEnv renStore renCells ren1_sl cutSt okEnv okStore okRefs okRef okRef_sl bin_int bin_bool bin_lst bin_rsl bin_nil bin_agg cellsEq cellEq isShift intOp boolOp min_int max_int beq_int bne resAV tupAV leave_eq fin_sl fin_loc fins fin_v fin_lst fin_agg fin_tup fin_fn storeAV readCells putCells cells_sl shaped_sl storable_sl fieldAddrAV len_sl goI List.getElem?_cons_zero List.getElem?_cons_succ List.getElem?_nil Option.bind_some Option.map_some List.length_cons List.length_nil List.all_cons List.all_nil Bool.and_true Bool.true_and Bool.and_false Bool.false_and and_true true_and and_false false_and Bool.false_eq_true List.set_cons_zero List.set_cons_succ List.append_nil List.nil_append List.cons_append List.take_zero List.take_succ_cons List.take_nil List.drop_zero List.drop_succ_cons List.map_cons List.map_nil decide_true decide_false beq_self_eq_true Bool.not_true Bool.not_false or_true true_or or_false false_or Nat.zero_add Nat.add_zero Nat.le_refl Nat.lt_irrefl decide_eq_true_eq eq_self_iff_true not_true_eq_false not_false_eq_true List.getD_cons_zero code_loop Nat.zero_le Nat.not_lt_zero Bool.true_beq Bool.false_beq beq_true beq_false ge_iff_le gt_iff_lt keepR keepT ownTop Lpure pus Option.map_none assert_ifc assert_nil idxA_ptr idxA_eptr idxV_agg Int.cast_ofNat_Int Nat.mul_one Nat.zero_mul Int.toNat_natCast Int.toNat_zero setParts withO2 hasKey eqnil_sl nenil_sl eqnil_loc nenil_loc map_nil_iff okRefs_ints renCells_ints
theorem one_byte {d:Nat} {bs:List AV} (h:Sh Tryz.prog (d+1) 5 bs): ∃n:Int,bs=[B8 n]∧Byte n:=by
 simp only [Sh,Tryz.underlying5] at h
 obtain ⟨n,h1,h2⟩:=h
 have hb:=bounds_u8 h2
 exact ⟨n,h1,by unfold Byte;omega⟩
theorem sh_byte {a:AV} (h:ShV Tryz.prog 8 5 a): ∃n:Int,a=B8 n∧Byte n:=by
 unfold ShV at h
 rw [if_neg (by unfold aggB;rw [Tryz.underlying5];simp)] at h
 obtain ⟨n,h1,h2⟩:=one_byte h
 simp only [List.cons.injEq,and_true] at h1
 exact ⟨n,h1,h2⟩
end Go.Proofs.YtdnjagnechibhaaGreatDoor.Vm
namespace Go.Proofs.YtdnjagnechibhaaGreatDoor.Vm
open Go Go.Ev
set_option maxRecDepth 100000
attribute [local go_sem] cells_any storable_any ren1_any shaped_ptr cells_ptr storable_ptr ren1_ptr shaped_eptr cells_eptr storable_eptr ren1_eptr shaped_rsl cells_rsl storable_rsl ren1_rsl shaped_int cells_int storable_int ren1_int shaped_bool cells_bool storable_bool ren1_bool shaped_nils cells_nils storable_nils ren1_nils shaped_lst cells_lst storable_lst shaped_fn cells_fn storable_fn ren1_fn shaped_ifc cells_ifc storable_ifc ren1_ifc shaped_agg cells_agg storable_agg ren1_agg shaped_tup cells_tup storable_tup ren1_tup shaped_nif cells_nif storable_nif ren1_nif ren1_lany ren1_lfull ren1_lown len_lst len_rsl len_nil load_ptr load_eptr isRsl_lst isRsl_nil isRsl_rsl elems_nil elems_lst elems_sl isRsl_sl body_eq bodyK_normal bodyK_ret resK_some leaveK_some only_some code_skip code_exit code_ret code_ops code_seq code_cond code_block seqK_normal seqK_ret seqK_exit condK_true condK_false blockK_normal blockK_ret blockK_exit opsK_some ops_nil ops_cons wantK_true wantK_false stepK_some pubs pub pub_sl params okRef_loc storable_loc shaped_loc cells_loc isRsl_loc elems_loc len_loc untips untip untip_sl wantedAV setElems withO isAgg_v isAgg_agg isAgg_lst isAgg_ptr isAgg_fn isAgg_ifc isAgg_rsl isAgg_sl isAgg_loc List.replicate_succ List.replicate_zero opAV valAV aval avals ofVal Env.get setD canon gcAV renAll renEnv renStore renCells ren1_sl cutSt okEnv okStore okRefs okRef okRef_sl bin_int bin_bool bin_lst bin_rsl bin_nil bin_agg cellsEq cellEq isShift intOp boolOp min_int max_int beq_int bne resAV tupAV leave_eq fin_sl fin_loc fins fin_v fin_lst fin_agg fin_tup fin_fn storeAV readCells putCells cells_sl shaped_sl storable_sl fieldAddrAV len_sl goI List.getElem?_cons_zero List.getElem?_cons_succ List.getElem?_nil Option.bind_some Option.map_some List.length_cons List.length_nil List.all_cons List.all_nil Bool.and_true Bool.true_and Bool.and_false Bool.false_and and_true true_and and_false false_and Bool.false_eq_true List.set_cons_zero List.set_cons_succ List.append_nil List.nil_append List.cons_append List.take_zero List.take_succ_cons List.take_nil List.drop_zero List.drop_succ_cons List.map_cons List.map_nil decide_true decide_false beq_self_eq_true Bool.not_true Bool.not_false or_true true_or or_false false_or Nat.zero_add Nat.add_zero Nat.le_refl Nat.lt_irrefl decide_eq_true_eq eq_self_iff_true not_true_eq_false not_false_eq_true List.getD_cons_zero code_loop Nat.zero_le Nat.not_lt_zero Bool.true_beq Bool.false_beq beq_true beq_false ge_iff_le gt_iff_lt keepR keepT ownTop Lpure pus Option.map_none assert_ifc assert_nil idxA_ptr idxA_eptr idxV_agg Int.cast_ofNat_Int Nat.mul_one Nat.zero_mul Int.toNat_natCast Int.toNat_zero setParts withO2 hasKey eqnil_sl nenil_sl eqnil_loc nenil_loc map_nil_iff okRefs_ints renCells_ints
def pickS (size p:Int) (Lf:List Int):Nat→Nat→Option Nat
 |0,_=>none
 |f+1,s=>if 0<s∧Lf.getD (s-1) 0=size then none else if p≤Lf.getD s 0 then some s else pickS size p Lf f (s+1)
theorem pickS_some {size p:Int} {Lf:List Int}: ∀{f s t:Nat},pickS size p Lf f s=some t→s≤t∧t<s+f∧p≤Lf.getD t 0
 |0,s,t,h=>by simp [pickS] at h
 |f+1,s,t,h=>by
  simp only [pickS] at h
  split at h
  ·simp at h
  ·split at h
   ·next h2=>
    simp only [Option.some.injEq] at h
    subst h
    exact ⟨Nat.le_refl _,by omega,h2⟩
   ·have:=pickS_some h;omega
def leftL (size p:Int) (m:Nat) (pre:List Nat):List Int:=(List.range m).map fun s=>size-p*(pre.count s:Int)
theorem leftL_len (size p:Int)(m:Nat)(pre:List Nat):(leftL size p m pre).length=m:=by simp [leftL]
theorem leftL_get (size p:Int)(m:Nat)(pre:List Nat)(s:Nat)(h:s<m):(leftL size p m pre).getD s 0=size-p*(pre.count s:Int):=by
 simp [leftL,List.getD_eq_getElem?_getD,h]
theorem count_snoc (pre:List Nat)(t s:Nat):(pre++ [t]).count s=pre.count s+if t=s then 1 else 0:=by
 rw [List.count_append,List.count_singleton]
 congr 1
 simp
theorem leftL_put (size p:Int)(m:Nat)(pre:List Nat)(t:Nat)(h:t<m):(leftL size p m pre).set t ((leftL size p m pre).getD t 0-p)=leftL size p m (pre++ [t]):=by
 rw [leftL_get _ _ _ _ _ h]
 apply List.ext_getElem
 ·simp [leftL]
 ·intro i h1 h2
  rw [List.getElem_set]
  simp only [leftL,List.getElem_map,List.getElem_range]
  rw [count_snoc]
  by_cases e:t=i
  ·subst e
   simp only [if_true]
   rw [Int.natCast_add,Int.mul_add];omega
  ·rw [if_neg e,if_neg e,Nat.add_zero]
theorem leftL_back (size p:Int)(m:Nat)(pre:List Nat)(t:Nat)(h:t<m):(leftL size p m (pre++ [t])).set t ((leftL size p m (pre++ [t])).getD t 0+p)=leftL size p m pre:=by
 rw [leftL_get _ _ _ _ _ h,←leftL_put _ _ _ _ _ h,List.set_set]
 have e:size-p*(((pre++ [t]).count t:Nat):Int)+p=(leftL size p m pre).getD t 0:=by
  rw [leftL_get _ _ _ _ _ h,count_snoc,if_pos rfl,Int.natCast_add,Int.mul_add];omega
 rw [e]
 apply List.ext_getElem
 ·simp
 ·intro i h1 h2
  rw [List.getElem_set]
  split
  ·next e=>subst e;simp [List.getD_eq_getElem?_getD,h2]
  ·rfl
theorem count_sum (m:Nat): ∀pre:List Nat,(∀x∈pre,x<m)→pre.length=((List.range m).map fun s=>pre.count s).sum
 | [],_=>by
  have: ∀l:List Nat,(l.map fun _=>0).sum=0:=by
   intro l;induction l with
   |nil=>rfl
   |cons a r ih=>simp [ih]
  simp [this]
 |x::r,h=>by
  have ih:=count_sum m r (fun y hy=>h y (by simp [hy]))
  have hx:=h x (by simp)
  have key: ∀l:List Nat,l.Nodup→(l.map fun s=>(x::r).count s).sum=(l.map fun s=>r.count s).sum+if x∈l then 1 else 0:=by
   intro l
   induction l with
   |nil=>intro _;simp
   |cons a t iht=>
    intro hn
    obtain ⟨h1,h2⟩:=List.nodup_cons.1 hn
    rw [List.map_cons,List.sum_cons,List.map_cons,List.sum_cons,iht h2,List.count_cons]
    by_cases e:x=a
    ·subst e
     rw [if_neg h1,if_pos (by simp)]
     simp;omega
    ·have e': ¬(x==a)=true:=by simpa using e
     rw [if_neg e']
     by_cases e2:x∈t
     ·rw [if_pos e2,if_pos (by simp [e2])];omega
     ·rw [if_neg e2,if_neg (by simp [e,e2])];omega
  rw [key _ List.nodup_range,←ih,if_pos (List.mem_range.2 hx)]
  rfl
theorem sum_le_mul (b:Nat): ∀l:List Nat,(∀x∈l,x≤b)→l.sum≤l.length*b
 | [],_=>by simp
 |a::r,h=>by
  have h1:=h a (by simp)
  have h2:=sum_le_mul b r (fun x hx=>h x (by simp [hx]))
  simp only [List.sum_cons,List.length_cons]
  rw [Nat.succ_mul];omega
theorem cap_le {m fit:Nat} {pre:List Nat} (h: ∀x∈pre,x<m)(hc: ∀s,s<m→pre.count s≤fit):pre.length≤m*fit:=by
 rw [count_sum m pre h]
 have:=sum_le_mul fit ((List.range m).map fun s=>pre.count s) (fun x hx=>by
  obtain ⟨s,hs,rfl⟩:=List.mem_map.1 hx
  exact hc s (List.mem_range.1 hs))
 rwa [List.length_map,List.length_range] at this
def keyN (b:Nat) (pre:List Nat):Nat:=pre.foldl (fun a x=>a*b+(x+1)) 0
theorem keyN_snoc (b:Nat)(pre:List Nat)(c:Nat):keyN b (pre++ [c])=keyN b pre*b+(c+1):=by simp [keyN]
theorem rev_indT {α:Type} {P:List α→Prop} (h0:P [])(h1: ∀l a,P l→P (l++ [a])): ∀l,P l:=by
 have: ∀l:List α,P l.reverse:=by
  intro l
  induction l with
  |nil=>exact h0
  |cons a r ih=>rw [List.reverse_cons];exact h1 _ _ ih
 intro l
 have:=this l.reverse
 rwa [List.reverse_reverse] at this
theorem keyN_lt (b:Nat): ∀pre:List Nat,(∀x∈pre,x+1<b)→keyN b pre+1≤b^pre.length:=by
 refine rev_indT ?_ ?_
 ·intro _;simp [keyN]
 ·intro pre c ih h
  have h1:=ih (fun x hx=>h x (by simp [hx]))
  have h2:=h c (by simp)
  rw [keyN_snoc,List.length_append,List.length_singleton,Nat.pow_succ]
  have:(keyN b pre+1)*b≤b^pre.length*b:=Nat.mul_le_mul_right b h1
  rw [Nat.succ_mul] at this
  omega
def valN (b n:Nat) (pre:List Nat) (cur:Int):Nat:=if cur<0 then keyN b pre*b^(n-pre.length) else (keyN b pre*b+(cur.toNat+2))*b^(n-1-pre.length)-1
theorem val_next {b n:Nat} {pre:List Nat} {cur:Int} {t:Nat} (hb:1≤b)(hn:pre.length<n)(ht:cur<(t:Int)):valN b n pre cur<valN b n (pre++ [t]) (-1):=by
 have hB:1≤b^(n-1-pre.length):=Nat.one_le_pow _ _ hb
 have e1:n-(pre++ [t]).length=n-1-pre.length:=by rw [List.length_append,List.length_singleton];omega
 have e2:b^(n-pre.length)=b*b^(n-1-pre.length):=by
  rw [←Nat.pow_succ'];congr 1;omega
 unfold valN
 rw [if_pos (show (-1:Int)<0 by omega),e1,keyN_snoc,e2]
 generalize b^(n-1-pre.length)=B at*
 generalize keyN b pre=k at*
 split
 ·rw [←Nat.mul_assoc]
  have:(k*b+1)*B≤(k*b+(t+1))*B:=Nat.mul_le_mul_right B (by omega)
  rw [Nat.succ_mul] at this
  omega
 ·have:(k*b+(cur.toNat+2))*B≤(k*b+(t+1))*B:=Nat.mul_le_mul_right B (by omega)
  have h2:1≤(k*b+(cur.toNat+2))*B:=Nat.mul_pos (by omega) (by omega)
  omega
theorem val_back {b n:Nat} {pre:List Nat} {c:Nat} {cur:Int} (hb:2≤b)(hn:pre.length+1<n)(hcur:cur+2<(b:Int)):valN b n (pre++ [c]) cur<valN b n pre c:=by
 have hB:1≤b^(n-2-pre.length):=Nat.one_le_pow _ _ (by omega)
 have l1:(pre++ [c]).length=pre.length+1:=by simp
 have e1:b^(n-1-pre.length)=b*b^(n-2-pre.length):=by
  rw [←Nat.pow_succ'];congr 1;omega
 have e2:n-(pre++ [c]).length=n-1-pre.length:=by rw [l1];omega
 have e3:n-1-(pre++ [c]).length=n-2-pre.length:=by rw [l1];omega
 unfold valN
 rw [if_neg (show ¬((c:Nat):Int)<0 by omega),e2,e3,keyN_snoc,e1,Int.toNat_natCast]
 generalize b^(n-2-pre.length)=B at*
 have hkk:keyN b pre*b+(c+2)=(keyN b pre*b+(c+1))+1:=by omega
 rw [hkk]
 generalize keyN b pre*b+(c+1)=k at*
 have hbB:2≤b*B:=by
  have:=Nat.mul_le_mul hb hB;omega
 rw [Nat.succ_mul]
 split
 ·omega
 ·next h0=>
  have h1:(k*b+(cur.toNat+2))*B≤(k*b+b)*B:=Nat.mul_le_mul_right B (by omega)
  have h2:(k*b+b)*B=k*(b*B)+b*B:=by rw [Nat.add_mul,Nat.mul_assoc]
  have h3:(k*b+(cur.toNat+2))*B+B≤(k*b+b)*B:=by
   rw [←Nat.succ_mul];exact Nat.mul_le_mul_right B (by omega)
  omega
theorem val_lt {b n:Nat} {pre:List Nat} {cur:Int} (hb:2≤b)(hn:pre.length<n)(hp: ∀x∈pre,x+1<b)(hcur:cur+2<(b:Int)):valN b n pre cur<b^n:=by
 have hk:=keyN_lt b pre hp
 have hB:1≤b^(n-1-pre.length):=Nat.one_le_pow _ _ (by omega)
 have e1:b^(n-pre.length)=b*b^(n-1-pre.length):=by
  rw [←Nat.pow_succ'];congr 1;omega
 have e2:b^n=b^pre.length*b^(n-pre.length):=by rw [←Nat.pow_add];congr 1;omega
 have h1:(keyN b pre+1)*b^(n-pre.length)≤b^pre.length*b^(n-pre.length):=Nat.mul_le_mul_right _ hk
 rw [←e2,e1] at h1
 unfold valN
 rw [e1]
 generalize b^(n-1-pre.length)=B at*
 generalize keyN b pre=k at*
 have hbB:2≤b*B:=by
  have:=Nat.mul_le_mul hb hB;omega
 rw [Nat.succ_mul] at h1
 split
 ·omega
 ·have h2:(k*b+(cur.toNat+2))*B≤(k*b+b)*B:=Nat.mul_le_mul_right B (by omega)
  have h3:(k*b+b)*B=k*(b*B)+b*B:=by rw [Nat.add_mul,Nat.mul_assoc]
  omega
theorem getMI (o:List Int)(a:Nat)(h:a<o.length):(o.map I)[a]? =some (I (o.getD a 0)):=by
 rw [getm I o 0 a,if_pos h]
theorem getD_setI (o:List Int)(a:Nat)(x:Int)(h:a<o.length):(o.set a x).getD a 0=x:=by
 simp [List.getD_eq_getElem?_getD,h]
def visF:AV:=.fn (.func 119) [] [.ptr 0 0]
set_option maxHeartbeats 2000000 in
theorem loop118_0 (size:Int)(hsz:1≤size∧size≤1000)(ps:List Int)(n:Nat)(hn:ps.length=n)(hn8:n≤8)(hps: ∀x∈ps,0≤x∧x≤1000)(m:Nat)(hm:m≤8)(vf:AV)(i:Nat)(hi:i<n)(F:List AV)(P:List Int)(hP:P.length=n)(Lf:List Int)(hL:Lf.length=m)(hLb: ∀x∈Lf,-100000≤x∧x≤100000)(T:List Nat)(lo hi2:Nat)(u:Nat)(hok:u≤m)(env:Env)(st:St)
  (hg:gcAV false lo hi2 (canon env [0,1,2,3,8,9,10]) st=([(0,I size),(1,sl 1 true (ps.map I)),(2,I m),(3,vf),(8,.rsl 1 0 n n 1 false),(9,.rsl 2 0 m m 1 false),(10,I i)],⟨[F,(P.set i ((u:Int)-1)).map I,Lf.map I],T⟩)):
  ∃x_1 en s,lim (headed pure (run L) false [0,1,2,3,8,9,10] lp118_0 lo hi2) env st=some (x_1,en,s)∧(en.get 0=I size∧en.get 1=sl 1 true (ps.map I)∧en.get 2=I m∧en.get 3=vf∧en.get 8=.rsl 1 0 n n 1 false∧en.get 9=.rsl 2 0 m m 1 false∧(match pickS size (ps.getD i 0) Lf (m-u) u with|none=>x_1=.exit 7000000∧en.get 10=I i∧s=⟨[F,(P.set i (-1)).map I,Lf.map I],T⟩ |some t=>x_1=.exit 7000001∧en.get 10=I (i+1:Nat)∧s=⟨[F,(P.set i (t:Int)).map I,(Lf.set t (Lf.getD t 0-ps.getD i 0)).map I],T⟩)):=by
 refine loop_wp (α:=Nat) (fun u=>m-u) (fun u=>u≤m) (fun u=>([(0,I size),(1,sl 1 true (ps.map I)),(2,I m),(3,vf),(8,.rsl 1 0 n n 1 false),(9,.rsl 2 0 m m 1 false),(10,I i)],⟨[F,(P.set i ((u:Int)-1)).map I,Lf.map I],T⟩)) (fun u x_1 en s=>en.get 0=I size∧en.get 1=sl 1 true (ps.map I)∧en.get 2=I m∧en.get 3=vf∧en.get 8=.rsl 1 0 n n 1 false∧en.get 9=.rsl 2 0 m m 1 false∧(match pickS size (ps.getD i 0) Lf (m-u) u with|none=>x_1=.exit 7000000∧en.get 10=I i∧s=⟨[F,(P.set i (-1)).map I,Lf.map I],T⟩ |some t=>x_1=.exit 7000001∧en.get 10=I (i+1:Nat)∧s=⟨[F,(P.set i (t:Int)).map I,(Lf.set t (Lf.getD t 0-ps.getD i 0)).map I],T⟩)) (fun u hok=> ?_) u hok env st hg
 have hlP: ∀x:Int,(P.set i x).length=n:=fun x=>by rw [List.length_set];exact hP
 have g0:=getMI (P.set i ((u:Int)-1)) i (by rw [hlP];exact hi)
 rw [getD_setI P i _ (by omega)] at g0
 have s0:((P.set i ((u:Int)-1)).map I).set i (I u)=(P.set i (u:Int)).map I:=by rw [←List.map_set,List.set_set]
 have g1:=getMI (P.set i (u:Int)) i (by rw [hlP];exact hi)
 rw [getD_setI P i _ (by omega)] at g1
 have s1:((P.set i (u:Int)).map I).set i (I (-1))=(P.set i (-1)).map I:=by rw [←List.map_set,List.set_set]
 have w1:IntKind.i64.wrap ((u:Int)-1+1)=(u:Int):=by rw [wrap64]<;>omega
 have w2:IntKind.i64.wrap ((i:Int)+1)=((i+1:Nat):Int):=succ64 i (by omega)
 have gp:=index_ints true ps i (by omega)
 have hge:ps[i]'(by omega)=ps.getD i 0:=by simp [List.getD_eq_getElem?_getD,show i<ps.length by omega]
 have hpb:=hps _ (List.getElem_mem (show i<ps.length by omega))
 rw [hge] at gp hpb
 have b0:((i:Int)<(n:Int))=True:=eq_true (by omega)
 have b6:(i+1≤n)=True:=eq_true (by omega)
 generalize ps.getD i 0=p at*
 by_cases hum:u<m
 ·have c1:((m:Int)≤(u:Int))=False:=eq_false (by omega)
  have b1:((u:Int)<(m:Int))=True:=eq_true (by omega)
  have b7:(u+1≤m)=True:=eq_true (by omega)
  have hf:m-u=(m-(u+1))+1:=by omega
  have hpick:pickS size p Lf (m-u) u=if 0<u∧Lf.getD (u-1) 0=size then none else if p≤Lf.getD u 0 then some u else pickS size p Lf (m-(u+1)) (u+1):=by rw [hf];rfl
  rw [hpick]
  have gL:=getMI Lf u (by omega)
  have hLu: -100000≤Lf.getD u 0∧Lf.getD u 0≤100000:=by
   rw [List.getD_eq_getElem?_getD,List.getElem?_eq_getElem (by omega)];exact hLb _ (List.getElem_mem _)
  have w4:=wrap64 (Lf.getD u 0-p) (by omega) (by omega)
  have sL:(Lf.map I).set u (I (Lf.getD u 0-p))=(Lf.set u (Lf.getD u 0-p)).map I:=by rw [List.map_set]
  have hnx:((u+1:Nat):Int)-1=(u:Int):=by omega
  by_cases hu0:u=0
  ·have z0:((0:Int)<(u:Int))=False:=eq_false (by omega)
   rw [if_neg (by omega)]
   by_cases q:p≤Lf.getD u 0
   ·rw [if_pos q]
    simp only [go_sem,reduceIte,Nat.reduceEqDiff,Nat.reduceAdd,Nat.reduceSub,Nat.reduceLeDiff,Nat.reduceLT,reduceCtorEq,Int.reduceLT,Int.reduceLE,Int.reduceEq,Int.reduceBEq,Int.reduceSub,Int.reduceAdd,Int.reduceMul,Int.reduceNeg,Int.reduceToNat,Nat.reduceMul,Nat.reduceBEq,index_rsl_if,setm,make_ints,condK_dec,wantK_dec,not_dec,and_dec,or_dec,seqK_ite,seqK_none,blockK_ite,blockK_none,opsK_ite,opsK_none,stepK_ite,stepK_none,bodyK_ite,bodyK_none,resK_ite,resK_none,leaveK_ite,leaveK_none,only_ite,only_none,bind_ite,gives_some,gives_none,gives_ite,then_normal,then_ret,then_exit,then_none,then_ite,Option.bind_none,Bool.not_eq_true',decide_eq_false_iff_not,Bool.and_eq_true,Bool.or_eq_true,Option.some.injEq,Int.not_lt,Int.not_le,lp118_0,hlP,hL,b6,g0,s0,g1,w1,w2,gp,b0,b1,c1,b7,z0,gL,w4,sL,q,Int.natCast_nonneg,List.length_map]
   ·rw [if_neg q]
    simp only [go_sem,reduceIte,Nat.reduceEqDiff,Nat.reduceAdd,Nat.reduceSub,Nat.reduceLeDiff,Nat.reduceLT,reduceCtorEq,Int.reduceLT,Int.reduceLE,Int.reduceEq,Int.reduceBEq,Int.reduceSub,Int.reduceAdd,Int.reduceMul,Int.reduceNeg,Int.reduceToNat,Nat.reduceMul,Nat.reduceBEq,index_rsl_if,setm,make_ints,condK_dec,wantK_dec,not_dec,and_dec,or_dec,seqK_ite,seqK_none,blockK_ite,blockK_none,opsK_ite,opsK_none,stepK_ite,stepK_none,bodyK_ite,bodyK_none,resK_ite,resK_none,leaveK_ite,leaveK_none,only_ite,only_none,bind_ite,gives_some,gives_none,gives_ite,then_normal,then_ret,then_exit,then_none,then_ite,Option.bind_none,Bool.not_eq_true',decide_eq_false_iff_not,Bool.and_eq_true,Bool.or_eq_true,Option.some.injEq,Int.not_lt,Int.not_le,lp118_0,hlP,hL,b6,g0,s0,g1,w1,w2,gp,b0,b1,c1,b7,z0,gL,w4,q,Int.natCast_nonneg,List.length_map]
    refine ⟨(u+1),by simp only [go_sem,reduceIte,Nat.reduceEqDiff,Nat.reduceAdd,Nat.reduceSub,Nat.reduceLeDiff,Nat.reduceLT,reduceCtorEq,Int.reduceLT,Int.reduceLE,Int.reduceEq,Int.reduceBEq,Int.reduceSub,Int.reduceAdd,Int.reduceMul,Int.reduceNeg,Int.reduceToNat,Nat.reduceMul,Nat.reduceBEq,ren1_locm,loc_tips,locT_eq,hnx]<;>rfl,?_,?_,fun x en s hq=> ?_⟩
    ·omega
    ·omega
    ·exact hq
  ·have z0:((0:Int)<(u:Int))=True:=eq_true (by omega)
   have w5:IntKind.i64.wrap ((u:Int)-1)=((u-1:Nat):Int):=by rw [wrap64]<;>omega
   have gL1:=getMI Lf (u-1) (by omega)
   have b2:(((u-1:Nat):Int)<(m:Int))=True:=eq_true (by omega)
   by_cases q0:Lf.getD (u-1) 0=size
   ·rw [if_pos ⟨by omega,q0⟩]
    simp only [go_sem,reduceIte,Nat.reduceEqDiff,Nat.reduceAdd,Nat.reduceSub,Nat.reduceLeDiff,Nat.reduceLT,reduceCtorEq,Int.reduceLT,Int.reduceLE,Int.reduceEq,Int.reduceBEq,Int.reduceSub,Int.reduceAdd,Int.reduceMul,Int.reduceNeg,Int.reduceToNat,Nat.reduceMul,Nat.reduceBEq,index_rsl_if,setm,make_ints,condK_dec,wantK_dec,not_dec,and_dec,or_dec,seqK_ite,seqK_none,blockK_ite,blockK_none,opsK_ite,opsK_none,stepK_ite,stepK_none,bodyK_ite,bodyK_none,resK_ite,resK_none,leaveK_ite,leaveK_none,only_ite,only_none,bind_ite,gives_some,gives_none,gives_ite,then_normal,then_ret,then_exit,then_none,then_ite,Option.bind_none,Bool.not_eq_true',decide_eq_false_iff_not,Bool.and_eq_true,Bool.or_eq_true,Option.some.injEq,Int.not_lt,Int.not_le,lp118_0,hlP,hL,b6,g0,s0,s1,g1,w1,w2,gp,b0,b1,b2,c1,b7,z0,w5,gL,gL1,q0,w4,Int.natCast_nonneg,List.length_map]
   ·rw [if_neg (fun h=>q0 h.2)]
    by_cases q:p≤Lf.getD u 0
    ·rw [if_pos q]
     simp only [go_sem,reduceIte,Nat.reduceEqDiff,Nat.reduceAdd,Nat.reduceSub,Nat.reduceLeDiff,Nat.reduceLT,reduceCtorEq,Int.reduceLT,Int.reduceLE,Int.reduceEq,Int.reduceBEq,Int.reduceSub,Int.reduceAdd,Int.reduceMul,Int.reduceNeg,Int.reduceToNat,Nat.reduceMul,Nat.reduceBEq,index_rsl_if,setm,make_ints,condK_dec,wantK_dec,not_dec,and_dec,or_dec,seqK_ite,seqK_none,blockK_ite,blockK_none,opsK_ite,opsK_none,stepK_ite,stepK_none,bodyK_ite,bodyK_none,resK_ite,resK_none,leaveK_ite,leaveK_none,only_ite,only_none,bind_ite,gives_some,gives_none,gives_ite,then_normal,then_ret,then_exit,then_none,then_ite,Option.bind_none,Bool.not_eq_true',decide_eq_false_iff_not,Bool.and_eq_true,Bool.or_eq_true,Option.some.injEq,Int.not_lt,Int.not_le,lp118_0,hlP,hL,b6,g0,s0,g1,w1,w2,gp,b0,b1,b2,c1,b7,z0,w5,gL,gL1,q0,w4,sL,q,Int.natCast_nonneg,List.length_map]
    ·rw [if_neg q]
     simp only [go_sem,reduceIte,Nat.reduceEqDiff,Nat.reduceAdd,Nat.reduceSub,Nat.reduceLeDiff,Nat.reduceLT,reduceCtorEq,Int.reduceLT,Int.reduceLE,Int.reduceEq,Int.reduceBEq,Int.reduceSub,Int.reduceAdd,Int.reduceMul,Int.reduceNeg,Int.reduceToNat,Nat.reduceMul,Nat.reduceBEq,index_rsl_if,setm,make_ints,condK_dec,wantK_dec,not_dec,and_dec,or_dec,seqK_ite,seqK_none,blockK_ite,blockK_none,opsK_ite,opsK_none,stepK_ite,stepK_none,bodyK_ite,bodyK_none,resK_ite,resK_none,leaveK_ite,leaveK_none,only_ite,only_none,bind_ite,gives_some,gives_none,gives_ite,then_normal,then_ret,then_exit,then_none,then_ite,Option.bind_none,Bool.not_eq_true',decide_eq_false_iff_not,Bool.and_eq_true,Bool.or_eq_true,Option.some.injEq,Int.not_lt,Int.not_le,lp118_0,hlP,hL,b6,g0,s0,g1,w1,w2,gp,b0,b1,b2,c1,b7,z0,w5,gL,gL1,q0,w4,q,Int.natCast_nonneg,List.length_map]
     refine ⟨(u+1),by simp only [go_sem,reduceIte,Nat.reduceEqDiff,Nat.reduceAdd,Nat.reduceSub,Nat.reduceLeDiff,Nat.reduceLT,reduceCtorEq,Int.reduceLT,Int.reduceLE,Int.reduceEq,Int.reduceBEq,Int.reduceSub,Int.reduceAdd,Int.reduceMul,Int.reduceNeg,Int.reduceToNat,Nat.reduceMul,Nat.reduceBEq,ren1_locm,loc_tips,locT_eq,hnx]<;>rfl,?_,?_,fun x en s hq=> ?_⟩
     ·omega
     ·omega
     ·exact hq
 ·have c1:((m:Int)≤(u:Int))=True:=eq_true (by omega)
  have hpick:pickS size p Lf (m-u) u=none:=by rw [show m-u=0 by omega];rfl
  rw [hpick]
  simp only [go_sem,reduceIte,Nat.reduceEqDiff,Nat.reduceAdd,Nat.reduceSub,Nat.reduceLeDiff,Nat.reduceLT,reduceCtorEq,Int.reduceLT,Int.reduceLE,Int.reduceEq,Int.reduceBEq,Int.reduceSub,Int.reduceAdd,Int.reduceMul,Int.reduceNeg,Int.reduceToNat,Nat.reduceMul,Nat.reduceBEq,index_rsl_if,setm,make_ints,condK_dec,wantK_dec,not_dec,and_dec,or_dec,seqK_ite,seqK_none,blockK_ite,blockK_none,opsK_ite,opsK_none,stepK_ite,stepK_none,bodyK_ite,bodyK_none,resK_ite,resK_none,leaveK_ite,leaveK_none,only_ite,only_none,bind_ite,gives_some,gives_none,gives_ite,then_normal,then_ret,then_exit,then_none,then_ite,Option.bind_none,Bool.not_eq_true',decide_eq_false_iff_not,Bool.and_eq_true,Bool.or_eq_true,Option.some.injEq,Int.not_lt,Int.not_le,lp118_0,hlP,hL,b6,g0,s0,s1,g1,w1,b0,c1,Int.natCast_nonneg,List.length_map]
theorem c119 (X:AV)(f:Bool)(R:List (List AV))(T:List Nat):run L 119 [X,.ptr 0 0] ⟨[B f]::R,T⟩=some (B false,⟨[B true]::R,T⟩):=by
 rw [run_shared (fn:=ir119) rfl rfl]
 simp only [ir119,go_sem,reduceIte,Nat.reduceEqDiff,Nat.reduceAdd,Nat.reduceSub,Nat.reduceLeDiff,Nat.reduceLT,reduceCtorEq,Int.reduceLT,Int.reduceLE,Int.reduceEq,Int.reduceBEq,Int.reduceSub,Int.reduceAdd,Int.reduceMul,Int.reduceNeg,Int.reduceToNat,Nat.reduceMul,Nat.reduceBEq]
def planF (n:Nat) (sf:Nat→Nat) (i:Nat):List Int:=(List.range n).map fun j=>if j<i then (sf j:Int) else -1
theorem planF_len (n:Nat)(sf:Nat→Nat)(i:Nat):(planF n sf i).length=n:=by simp [planF]
theorem planF_same (n:Nat)(sf:Nat→Nat)(i:Nat)(h:i<n):(planF n sf i).set i (-1)=planF n sf i:=by
 apply List.ext_getElem
 ·simp
 ·intro k h1 h2
  rw [List.getElem_set]
  split
  ·next e=>subst e;simp [planF]
  ·rfl
theorem planF_next (n:Nat)(sf:Nat→Nat)(i:Nat)(h:i<n):(planF n sf i).set i (sf i:Int)=planF n sf (i+1):=by
 apply List.ext_getElem
 ·simp [planF]
 ·intro k h1 h2
  rw [List.getElem_set]
  split
  ·next e=>subst e;simp [planF]
  ·next e=>
   simp only [planF,List.getElem_map,List.getElem_range]
   by_cases q:k<i
   ·rw [if_pos q,if_pos (by omega)]
   ·rw [if_neg q,if_neg (by omega)]
set_option maxHeartbeats 2000000 in
theorem loop118f (size:Int)(hsz:1≤size∧size≤1000)(ps:List Int)(n:Nat)(hn:ps.length=n)(hn8:n≤8)(hps: ∀x∈ps,0≤x∧x≤1000)(m:Nat)(hm:m≤8)(sf:Nat→Nat)(Lf:Nat→List Int)(hL: ∀i,i≤n→(Lf i).length=m)(hLb: ∀i,i≤n→∀x∈Lf i,-100000≤x∧x≤100000)(hpick: ∀i,i<n→pickS size (ps.getD i 0) (Lf i) m 0=some (sf i))(hstep: ∀i,i<n→(Lf i).set (sf i) ((Lf i).getD (sf i) 0-ps.getD i 0)=Lf (i+1))(T:List Nat)(lo hi2:Nat)(i:Nat)(hok:i≤n)(env:Env)(st:St)
  (hg:gcAV false lo hi2 (canon env [0,1,2,3,8,9,10]) st=([(0,I size),(1,sl 1 true (ps.map I)),(2,I m),(3,visF),(8,.rsl 1 0 n n 1 false),(9,.rsl 2 0 m m 1 false),(10,I i)],⟨[[B false],(planF n sf i).map I,(Lf i).map I],T⟩)):
  ∃x_1 en s,lim (headed pure (run L) false [0,1,2,3,8,9,10] lp118_1 lo hi2) env st=some (x_1,en,s)∧(x_1=.ret∧(∃A C,s=⟨[[B true],A,C],T⟩)):=by
 refine loop_wp (α:=Nat) (fun i=>n-i) (fun i=>i≤n) (fun i=>([(0,I size),(1,sl 1 true (ps.map I)),(2,I m),(3,visF),(8,.rsl 1 0 n n 1 false),(9,.rsl 2 0 m m 1 false),(10,I i)],⟨[[B false],(planF n sf i).map I,(Lf i).map I],T⟩)) (fun i x_1 en s=>x_1=.ret∧(∃A C,s=⟨[[B true],A,C],T⟩)) (fun i hok=> ?_) i hok env st hg
 by_cases h:i<n
 ·have hne:((i:Int)=(n:Int))=False:=eq_false (by omega)
  have hs0:=planF_same n sf i h
  have hs1:=planF_next n sf i h
  have hp:=hpick i h
  have hst:=hstep i h
  have e0:((0:Nat):Int)-1= -1:=by omega
  simp only [go_sem,reduceIte,Nat.reduceEqDiff,Nat.reduceAdd,Nat.reduceSub,Nat.reduceLeDiff,Nat.reduceLT,reduceCtorEq,Int.reduceLT,Int.reduceLE,Int.reduceEq,Int.reduceBEq,Int.reduceSub,Int.reduceAdd,Int.reduceMul,Int.reduceNeg,Int.reduceToNat,Nat.reduceMul,Nat.reduceBEq,index_rsl_if,setm,make_ints,condK_dec,wantK_dec,not_dec,and_dec,or_dec,seqK_ite,seqK_none,blockK_ite,blockK_none,opsK_ite,opsK_none,stepK_ite,stepK_none,bodyK_ite,bodyK_none,resK_ite,resK_none,leaveK_ite,leaveK_none,only_ite,only_none,bind_ite,gives_some,gives_none,gives_ite,then_normal,then_ret,then_exit,then_none,then_ite,Option.bind_none,Bool.not_eq_true',decide_eq_false_iff_not,Bool.and_eq_true,Bool.or_eq_true,Option.some.injEq,Int.not_lt,Int.not_le,lp118_1,hne,List.length_map,hn]
  generalize hg:lim (headed pure (run L) false _ lp118_0 _ _) _ _=o
  obtain ⟨x,en,s,rfl,h2⟩: ∃x en s,o=some (x,en,s)∧_:=by rw [←hg];exact loop118_0 size hsz ps n hn hn8 hps m hm visF i h [B false] (planF n sf i) (planF_len n sf i) (Lf i) (hL i (by omega)) (hLb i (by omega)) T _ _ 0 (Nat.zero_le _) _ _ (by simp only [go_sem,reduceIte,Nat.reduceEqDiff,Nat.reduceAdd,Nat.reduceSub,Nat.reduceLeDiff,Nat.reduceLT,reduceCtorEq,Int.reduceLT,Int.reduceLE,Int.reduceEq,Int.reduceBEq,Int.reduceSub,Int.reduceAdd,Int.reduceMul,Int.reduceNeg,Int.reduceToNat,Nat.reduceMul,Nat.reduceBEq,e0,hs0]<;>rfl)
  clear hg
  rw [Nat.sub_zero,hp] at h2
  simp only [hs1,hst] at h2
  obtain ⟨g0,g1,g2,g3,g8,g9,rfl,g10,rfl⟩:=h2
  simp only [go_sem,reduceIte,Nat.reduceEqDiff,Nat.reduceAdd,Nat.reduceSub,Nat.reduceLeDiff,Nat.reduceLT,reduceCtorEq,Int.reduceLT,Int.reduceLE,Int.reduceEq,Int.reduceBEq,Int.reduceSub,Int.reduceAdd,Int.reduceMul,Int.reduceNeg,Int.reduceToNat,Nat.reduceMul,Nat.reduceBEq,index_rsl_if,setm,make_ints,condK_dec,wantK_dec,not_dec,and_dec,or_dec,seqK_ite,seqK_none,blockK_ite,blockK_none,opsK_ite,opsK_none,stepK_ite,stepK_none,bodyK_ite,bodyK_none,resK_ite,resK_none,leaveK_ite,leaveK_none,only_ite,only_none,bind_ite,gives_some,gives_none,gives_ite,then_normal,then_ret,then_exit,then_none,then_ite,Option.bind_none,Bool.not_eq_true',decide_eq_false_iff_not,Bool.and_eq_true,Bool.or_eq_true,Option.some.injEq,Int.not_lt,Int.not_le,lp118_1,g0,g1,g2,g3,g8,g9,g10]
  refine ⟨(i+1),by simp only [go_sem,reduceIte,Nat.reduceEqDiff,Nat.reduceAdd,Nat.reduceSub,Nat.reduceLeDiff,Nat.reduceLT,reduceCtorEq,Int.reduceLT,Int.reduceLE,Int.reduceEq,Int.reduceBEq,Int.reduceSub,Int.reduceAdd,Int.reduceMul,Int.reduceNeg,Int.reduceToNat,Nat.reduceMul,Nat.reduceBEq,ren1_locm,loc_tips,locT_eq,g0,g1,g2,g3,g8,g9,g10]<;>rfl,?_,?_,fun x en s hq=> ?_⟩
  ·omega
  ·omega
  ·exact hq
 ·obtain rfl:i=n:=by omega
  have h119:=fun X R T=>c119 X false R T
  have hk:pure 119=false:=rfl
  simp only [go_sem,reduceIte,Nat.reduceEqDiff,Nat.reduceAdd,Nat.reduceSub,Nat.reduceLeDiff,Nat.reduceLT,reduceCtorEq,Int.reduceLT,Int.reduceLE,Int.reduceEq,Int.reduceBEq,Int.reduceSub,Int.reduceAdd,Int.reduceMul,Int.reduceNeg,Int.reduceToNat,Nat.reduceMul,Nat.reduceBEq,index_rsl_if,setm,make_ints,condK_dec,wantK_dec,not_dec,and_dec,or_dec,seqK_ite,seqK_none,blockK_ite,blockK_none,opsK_ite,opsK_none,stepK_ite,stepK_none,bodyK_ite,bodyK_none,resK_ite,resK_none,leaveK_ite,leaveK_none,only_ite,only_none,bind_ite,gives_some,gives_none,gives_ite,then_normal,then_ret,then_exit,then_none,then_ite,Option.bind_none,Bool.not_eq_true',decide_eq_false_iff_not,Bool.and_eq_true,Bool.or_eq_true,Option.some.injEq,Int.not_lt,Int.not_le,lp118_1,List.length_map,hn,visF,hk,h119]
  exact ⟨_,_,rfl⟩
def plN (n:Nat) (pre:List Nat) (cur:Int):List Int:=pre.map (fun (x:Nat)=>(x:Int))++cur::List.replicate (n-1-pre.length) (-1)
theorem plN_len (n:Nat)(pre:List Nat)(cur:Int)(h:pre.length<n):(plN n pre cur).length=n:=by simp [plN];omega
theorem plN_set (n:Nat)(pre:List Nat)(cur x:Int):(plN n pre cur).set pre.length x=plN n pre x:=by
 unfold plN
 rw [List.set_append_right _ _ (by simp),List.length_map,Nat.sub_self,List.set_cons_zero]
theorem plN_next (n:Nat)(pre:List Nat)(t:Nat)(h:pre.length+1<n):plN n pre (t:Int)=plN n (pre++ [t]) (-1):=by
 unfold plN
 rw [List.map_append,List.append_assoc,List.length_append,List.length_singleton]
 congr 1
 simp only [List.map_cons,List.map_nil,List.singleton_append,List.cons.injEq,true_and]
 rw [show n-1-pre.length=(n-1-(pre.length+1))+1 by omega,List.replicate_succ]
theorem plN_get (n:Nat)(pre:List Nat)(c:Nat)(cur:Int):(plN n (pre++ [c]) cur).getD pre.length 0=(c:Int):=by
 unfold plN
 simp [List.getD_eq_getElem?_getD]
theorem getD_in {α:Type} (L:List α)(i:Nat)(d:α)(h:i<L.length):L.getD i d∈L:=by
 rw [List.getD_eq_getElem?_getD,List.getElem?_eq_getElem h];exact List.getElem_mem h
theorem snoc_cases (l:List Nat):l=[]∨∃r c,l=r++ [c]:=by
 refine rev_indT (P:=fun l=>l=[]∨∃r c,l=r++ [c]) (.inl rfl) (fun l a _=> .inr ⟨l,a,rfl⟩) l
set_option maxHeartbeats 4000000 in
theorem loop118n (size:Int)(hsz:1≤size∧size≤1000)(p:Int)(hp:1≤p∧p≤1000)(n:Nat)(hn8:n≤8)(m:Nat)(hm:m≤8)(fit:Nat)(hfit: ∀k:Nat,p*(k:Int)≤size→k≤fit)(hcap:m*fit<n)(T:List Nat)(lo hi2:Nat)(pre:List Nat)(cu:Nat)(hok:pre.length<n∧(∀x∈pre,x<m)∧cu≤m∧(∀s,s<m→p*(pre.count s:Int)≤size))(env:Env)(st:St)
  (hg:gcAV false lo hi2 (canon env [0,1,2,3,8,9,10]) st=([(0,I size),(1,sl 1 true ((List.replicate n p).map I)),(2,I m),(3,visF),(8,.rsl 1 0 n n 1 false),(9,.rsl 2 0 m m 1 false),(10,I pre.length)],⟨[[B false],(plN n pre ((cu:Int)-1)).map I,(leftL size p m pre).map I],T⟩)):
  ∃x_1 en s,lim (headed pure (run L) false [0,1,2,3,8,9,10] lp118_1 lo hi2) env st=some (x_1,en,s)∧(x_1=.ret∧(∃A C,s=⟨[[B false],A,C],T⟩)):=by
 refine loop_wp (α:=List Nat×Nat) (fun ⟨pre,cu⟩=>(m+2)^n-valN (m+2) n pre ((cu:Int)-1)) (fun ⟨pre,cu⟩=>pre.length<n∧(∀x∈pre,x<m)∧cu≤m∧(∀s,s<m→p*(pre.count s:Int)≤size)) (fun ⟨pre,cu⟩=>([(0,I size),(1,sl 1 true ((List.replicate n p).map I)),(2,I m),(3,visF),(8,.rsl 1 0 n n 1 false),(9,.rsl 2 0 m m 1 false),(10,I pre.length)],⟨[[B false],(plN n pre ((cu:Int)-1)).map I,(leftL size p m pre).map I],T⟩)) (fun ⟨pre,cu⟩ x_1 en s=>x_1=.ret∧(∃A C,s=⟨[[B false],A,C],T⟩)) (fun ⟨pre,cu⟩ hok=> ?_) ⟨pre,cu⟩ hok env st hg
 simp only at hok
 obtain ⟨h1,hpre,h3,h4⟩:=hok
 dsimp only at h1 hpre h3 h4⊢
 have hnl:(List.replicate n p).length=n:=List.length_replicate
 have hps: ∀x∈List.replicate n p,0≤x∧x≤1000:=fun x hx=>by
  have:=List.eq_of_mem_replicate hx;omega
 have hpg:(List.replicate n p).getD pre.length 0=p:=by simp [List.getD_eq_getElem?_getD,h1]
 have hLb: ∀x∈leftL size p m pre,-100000≤x∧x≤100000:=fun x hx=>by
  obtain ⟨s,hs,rfl⟩:=List.mem_map.1 hx
  have a1:=h4 s (List.mem_range.1 hs)
  have a2:0≤p*(pre.count s:Int):=Int.mul_nonneg (by omega) (by omega)
  omega
 have hne:((pre.length:Int)=(n:Int))=False:=eq_false (by omega)
 have hs0: ∀x:Int,(plN n pre ((cu:Int)-1)).set pre.length x=plN n pre x:=fun x=>plN_set n pre _ x
 have hvl:valN (m+2) n pre ((cu:Int)-1)<(m+2)^n:=val_lt (by omega) h1 (fun x hx=>by have:=hpre x hx;omega) (by omega)
 simp only [go_sem,reduceIte,Nat.reduceEqDiff,Nat.reduceAdd,Nat.reduceSub,Nat.reduceLeDiff,Nat.reduceLT,reduceCtorEq,Int.reduceLT,Int.reduceLE,Int.reduceEq,Int.reduceBEq,Int.reduceSub,Int.reduceAdd,Int.reduceMul,Int.reduceNeg,Int.reduceToNat,Nat.reduceMul,Nat.reduceBEq,index_rsl_if,setm,make_ints,condK_dec,wantK_dec,not_dec,and_dec,or_dec,seqK_ite,seqK_none,blockK_ite,blockK_none,opsK_ite,opsK_none,stepK_ite,stepK_none,bodyK_ite,bodyK_none,resK_ite,resK_none,leaveK_ite,leaveK_none,only_ite,only_none,bind_ite,gives_some,gives_none,gives_ite,then_normal,then_ret,then_exit,then_none,then_ite,Option.bind_none,Bool.not_eq_true',decide_eq_false_iff_not,Bool.and_eq_true,Bool.or_eq_true,Option.some.injEq,Int.not_lt,Int.not_le,lp118_1,hne,List.length_map,hnl]
 generalize hg:lim (headed pure (run L) false _ lp118_0 _ _) _ _=o
 obtain ⟨x,en,s,rfl,h2⟩: ∃x en s,o=some (x,en,s)∧_:=by rw [←hg];exact loop118_0 size hsz (List.replicate n p) n hnl hn8 hps m hm visF pre.length h1 [B false] (plN n pre ((cu:Int)-1)) (plN_len n pre _ h1) (leftL size p m pre) (leftL_len size p m pre) hLb T _ _ cu h3 _ _ (by simp only [go_sem,reduceIte,Nat.reduceEqDiff,Nat.reduceAdd,Nat.reduceSub,Nat.reduceLeDiff,Nat.reduceLT,reduceCtorEq,Int.reduceLT,Int.reduceLE,Int.reduceEq,Int.reduceBEq,Int.reduceSub,Int.reduceAdd,Int.reduceMul,Int.reduceNeg,Int.reduceToNat,Nat.reduceMul,Nat.reduceBEq,hs0]<;>rfl)
 clear hg
 rw [hpg] at h2
 cases hpk:pickS size p (leftL size p m pre) (m-cu) cu with
 |some t=>
  rw [hpk] at h2
  simp only [hs0] at h2
  obtain ⟨g0,g1,g2,g3,g8,g9,rfl,g10,rfl⟩:=h2
  obtain ⟨q1,q2,q3⟩:=pickS_some hpk
  have htm:t<m:=by omega
  rw [leftL_get _ _ _ _ _ htm] at q3
  have hput:=leftL_put size p m pre t htm
  have hpre2: ∀x∈pre++ [t],x<m:=fun x hx=>by
   rcases List.mem_append.1 hx with hx|hx
   ·exact hpre x hx
   ·rw [List.mem_singleton] at hx;omega
  have hval2: ∀s,s<m→p*(((pre++ [t]).count s:Nat):Int)≤size:=fun s hs=>by
   rw [count_snoc]
   have:=h4 s hs
   by_cases e:t=s
   ·subst e
    rw [if_pos rfl,Int.natCast_add,Int.mul_add];omega
   ·rw [if_neg e,Nat.add_zero];exact this
  have hlen2:(pre++ [t]).length<n:=by
   have:=cap_le hpre2 (fun s hs=>hfit _ (hval2 s hs))
   omega
  have hl1:(pre++ [t]).length=pre.length+1:=by simp
  have hnx:=plN_next n pre t (by omega)
  have hvn:=val_next (b:=m+2) (n:=n) (pre:=pre) (cur:=(cu:Int)-1) (t:=t) (by omega) h1 (by omega)
  have e0:((0:Nat):Int)-1= -1:=by omega
  simp only [go_sem,reduceIte,Nat.reduceEqDiff,Nat.reduceAdd,Nat.reduceSub,Nat.reduceLeDiff,Nat.reduceLT,reduceCtorEq,Int.reduceLT,Int.reduceLE,Int.reduceEq,Int.reduceBEq,Int.reduceSub,Int.reduceAdd,Int.reduceMul,Int.reduceNeg,Int.reduceToNat,Nat.reduceMul,Nat.reduceBEq,index_rsl_if,setm,make_ints,condK_dec,wantK_dec,not_dec,and_dec,or_dec,seqK_ite,seqK_none,blockK_ite,blockK_none,opsK_ite,opsK_none,stepK_ite,stepK_none,bodyK_ite,bodyK_none,resK_ite,resK_none,leaveK_ite,leaveK_none,only_ite,only_none,bind_ite,gives_some,gives_none,gives_ite,then_normal,then_ret,then_exit,then_none,then_ite,Option.bind_none,Bool.not_eq_true',decide_eq_false_iff_not,Bool.and_eq_true,Bool.or_eq_true,Option.some.injEq,Int.not_lt,Int.not_le,lp118_1,g0,g1,g2,g3,g8,g9,g10]
  refine ⟨(pre++ [t],0),by simp only [go_sem,reduceIte,Nat.reduceEqDiff,Nat.reduceAdd,Nat.reduceSub,Nat.reduceLeDiff,Nat.reduceLT,reduceCtorEq,Int.reduceLT,Int.reduceLE,Int.reduceEq,Int.reduceBEq,Int.reduceSub,Int.reduceAdd,Int.reduceMul,Int.reduceNeg,Int.reduceToNat,Nat.reduceMul,Nat.reduceBEq,ren1_locm,loc_tips,locT_eq,g0,g1,g2,g3,g8,g9,g10,hl1,e0,hnx,hput]<;>rfl,?_,?_,fun x en s hq=> ?_⟩
  ·dsimp only;exact ⟨hlen2,hpre2,Nat.zero_le _,hval2⟩
  ·dsimp only;rw [e0];omega
  ·exact hq
 |none=>
  rw [hpk] at h2
  simp only [hs0] at h2
  obtain ⟨g0,g1,g2,g3,g8,g9,rfl,g10,rfl⟩:=h2
  rcases snoc_cases pre with rfl| ⟨r,c,rfl⟩
  ·have w0:IntKind.i64.wrap (-1)= -1:=by decide
   simp only [go_sem,reduceIte,Nat.reduceEqDiff,Nat.reduceAdd,Nat.reduceSub,Nat.reduceLeDiff,Nat.reduceLT,reduceCtorEq,Int.reduceLT,Int.reduceLE,Int.reduceEq,Int.reduceBEq,Int.reduceSub,Int.reduceAdd,Int.reduceMul,Int.reduceNeg,Int.reduceToNat,Nat.reduceMul,Nat.reduceBEq,index_rsl_if,setm,make_ints,condK_dec,wantK_dec,not_dec,and_dec,or_dec,seqK_ite,seqK_none,blockK_ite,blockK_none,opsK_ite,opsK_none,stepK_ite,stepK_none,bodyK_ite,bodyK_none,resK_ite,resK_none,leaveK_ite,leaveK_none,only_ite,only_none,bind_ite,gives_some,gives_none,gives_ite,then_normal,then_ret,then_exit,then_none,then_ite,Option.bind_none,Bool.not_eq_true',decide_eq_false_iff_not,Bool.and_eq_true,Bool.or_eq_true,Option.some.injEq,Int.not_lt,Int.not_le,lp118_1,g0,g1,g2,g3,g8,g9,g10,w0]
   exact ⟨_,_,rfl⟩
  ·have hl1:(r++ [c]).length=r.length+1:=by simp
   have w0:IntKind.i64.wrap (((r.length+1:Nat):Int)-1)=(r.length:Int):=by rw [wrap64]<;>omega
   have l0:((r.length:Int)<0)=False:=eq_false (by omega)
   have hcm:c<m:=hpre c (by simp)
   have gP:=getMI (plN n (r++ [c]) (-1)) r.length (by rw [plN_len n (r++ [c]) _ h1];omega)
   rw [plN_get] at gP
   have gL:=getMI (leftL size p m (r++ [c])) c (by rw [leftL_len];exact hcm)
   have gp:=index_ints true (List.replicate n p) r.length (by rw [hnl];omega)
   have hgp:(List.replicate n p)[r.length]'(by rw [hnl];omega)=p:=by simp
   rw [hgp] at gp
   have hbk:=leftL_back size p m r c hcm
   have hlb:=hLb ((leftL size p m (r++ [c])).getD c 0) (getD_in _ _ _ (by rw [leftL_len];exact hcm))
   have w2:=wrap64 ((leftL size p m (r++ [c])).getD c 0+p) (by omega) (by omega)
   have hst:((leftL size p m (r++ [c])).map I).set c (I ((leftL size p m (r++ [c])).getD c 0+p))=(leftL size p m r).map I:=by rw [←List.map_set,hbk]
   have b1:((r.length:Int)<(n:Int))=True:=eq_true (by omega)
   have b2:((c:Int)<(m:Int))=True:=eq_true (by omega)
   have b3:(c+1≤m)=True:=eq_true (by omega)
   have hLl:=leftL_len size p m (r++ [c])
   have hnx:=plN_next n r c (by omega)
   have e1:((c+1:Nat):Int)-1=(c:Int):=by omega
   have hvb:=val_back (b:=m+2) (n:=n) (pre:=r) (c:=c) (cur:=(cu:Int)-1) (by omega) (by omega) (by omega)
   have hvl2:valN (m+2) n r (c:Int)<(m+2)^n:=val_lt (by omega) (by omega) (fun x hx=>by have:=hpre x (by simp [hx]);omega) (by omega)
   have h4': ∀s,s<m→p*(r.count s:Int)≤size:=fun s hs=>by
    have:=h4 s hs
    rw [count_snoc,Int.natCast_add,Int.mul_add] at this
    have:0≤p*(((if c=s then 1 else 0:Nat)):Int):=Int.mul_nonneg (by omega) (by omega)
    omega
   rw [hl1] at g10
   simp only [go_sem,reduceIte,Nat.reduceEqDiff,Nat.reduceAdd,Nat.reduceSub,Nat.reduceLeDiff,Nat.reduceLT,reduceCtorEq,Int.reduceLT,Int.reduceLE,Int.reduceEq,Int.reduceBEq,Int.reduceSub,Int.reduceAdd,Int.reduceMul,Int.reduceNeg,Int.reduceToNat,Nat.reduceMul,Nat.reduceBEq,index_rsl_if,setm,make_ints,condK_dec,wantK_dec,not_dec,and_dec,or_dec,seqK_ite,seqK_none,blockK_ite,blockK_none,opsK_ite,opsK_none,stepK_ite,stepK_none,bodyK_ite,bodyK_none,resK_ite,resK_none,leaveK_ite,leaveK_none,only_ite,only_none,bind_ite,gives_some,gives_none,gives_ite,then_normal,then_ret,then_exit,then_none,then_ite,Option.bind_none,Bool.not_eq_true',decide_eq_false_iff_not,Bool.and_eq_true,Bool.or_eq_true,Option.some.injEq,Int.not_lt,Int.not_le,lp118_1,g0,g1,g2,g3,g8,g9,g10,w0,l0,gP,gL,gp,w2,hst,b1,b2,b3,hLl,Int.natCast_nonneg,List.length_map,hnl]
   refine ⟨(r,c+1),by simp only [go_sem,reduceIte,Nat.reduceEqDiff,Nat.reduceAdd,Nat.reduceSub,Nat.reduceLeDiff,Nat.reduceLT,reduceCtorEq,Int.reduceLT,Int.reduceLE,Int.reduceEq,Int.reduceBEq,Int.reduceSub,Int.reduceAdd,Int.reduceMul,Int.reduceNeg,Int.reduceToNat,Nat.reduceMul,Nat.reduceBEq,ren1_locm,loc_tips,locT_eq,g0,g1,g2,g3,g8,g9,g10,hnx,e1]<;>rfl,?_,?_,fun x en s hq=> ?_⟩
   ·dsimp only;exact ⟨by omega,fun x hx=>hpre x (by simp [hx]),by omega,h4'⟩
   ·dsimp only;rw [e1];omega
   ·exact hq
theorem all_of {α:Type} {f g:Nat→α} {k:Nat} (h:(List.range k).map f=(List.range k).map g)(m:Nat)(hm:m<k):f m=g m:=by
 have:=congrArg (fun l=>l[m]?) h
 simpa [hm] using this
theorem all92a:(List.range 9).map (fun (n:Nat)=>callAV L 100 92 [.lst .any 1 [I (-1)],I n] ⟨[],[]⟩)=(List.range 9).map (fun (n:Nat)=>some (.rsl 0 0 n n 1 false,(⟨[(List.replicate n (-1)).map I],[]⟩:St))):=by kernel_rfl
theorem all92b:(List.range 25).map (fun (s:Nat)=>(List.range 9).map fun (m:Nat)=>callAV L 100 92 [.lst .any 1 [I s],I m] ⟨[],[]⟩)=(List.range 25).map (fun (s:Nat)=>(List.range 9).map fun (m:Nat)=>some (.rsl 0 0 m m 1 false,(⟨[(List.replicate m (s:Int)).map I],[]⟩:St))):=by kernel_rfl
theorem c92a (n:Nat)(hn:n≤8):run L 92 [.lst .any 1 [I (-1)],I n] ⟨[],[]⟩=some (.rsl 0 0 n n 1 false,⟨[(List.replicate n (-1)).map I],[]⟩):=
 callAV_run L 100 _ _ _ _ (all_of all92a n (by omega))
theorem c92b (s m:Nat)(hs:s≤24)(hm:m≤8):run L 92 [.lst .any 1 [I s],I m] ⟨[],[]⟩=some (.rsl 0 0 m m 1 false,⟨[(List.replicate m (s:Int)).map I],[]⟩):=
 callAV_run L 100 _ _ _ _ (all_of (all_of all92b s (by omega)) m (by omega))
theorem planF_zero (n:Nat)(sf:Nat→Nat):planF n sf 0=List.replicate n (-1):=by
 apply List.ext_getElem
 ·simp [planF]
 ·intro i h1 h2;simp [planF]
theorem plN_zero (n:Nat)(h:1≤n):plN n [] (((0:Nat):Int)-1)=List.replicate n (-1):=by
 obtain ⟨k,rfl⟩: ∃k,n=k+1:=⟨n-1,by omega⟩
 simp [plN,List.replicate_succ]
theorem leftL_zero (size p:Int)(m:Nat):leftL size p m []=List.replicate m size:=by
 apply List.ext_getElem
 ·simp [leftL]
 ·intro i h1 h2;simp [leftL]
theorem shVs_I (m:Nat)(O:List Int):shVs m (O.map I)=O.map I:=by
 induction O with
 |nil=>rfl
 |cons x r ih=>simp only [List.map_cons,shVs,shV,ih]
theorem c118f (size:Nat)(hsz:1≤size∧size≤24)(ps:List Int)(n:Nat)(hn:ps.length=n)(hn8:n≤8)(hps: ∀x∈ps,0≤x∧x≤1000)(m:Nat)(hm:m≤8)(sf:Nat→Nat)(Lf:Nat→List Int)(hL: ∀i,i≤n→(Lf i).length=m)(hLb: ∀i,i≤n→∀x∈Lf i,-100000≤x∧x≤100000)(hpick: ∀i,i<n→pickS size (ps.getD i 0) (Lf i) m 0=some (sf i))(hstep: ∀i,i<n→(Lf i).set (sf i) ((Lf i).getD (sf i) 0-ps.getD i 0)=Lf (i+1))(hL0:Lf 0=List.replicate m (size:Int))(T:List Nat):
  ∃A C,run L 118 [I size,sl 1 true (ps.map I),I m,visF] ⟨[[B false]],T⟩=some (.tup [],⟨[[B true],A,C],T⟩):=by
 have h92a:=c92a n hn8
 have h92b:=c92b size m hsz.2 hm
 rw [run_shared (fn:=ir118) rfl rfl]
 have hp0:=planF_zero n sf
 simp only [ir118,go_sem,reduceIte,Nat.reduceEqDiff,Nat.reduceAdd,Nat.reduceSub,Nat.reduceLeDiff,Nat.reduceLT,reduceCtorEq,Int.reduceLT,Int.reduceLE,Int.reduceEq,Int.reduceBEq,Int.reduceSub,Int.reduceAdd,Int.reduceMul,Int.reduceNeg,Int.reduceToNat,Nat.reduceMul,Nat.reduceBEq,List.length_map,hn,show pure 92=false from rfl,h92a,h92b,shStore,shV,shVs_I,←hp0,←hL0]
 generalize hg:lim (headed pure (run L) false _ lp118_1 _ _) _ _=o
 obtain ⟨x,en,s,rfl,h2⟩: ∃x en s,o=some (x,en,s)∧_:=by rw [←hg];exact loop118f size (by omega) ps n hn hn8 hps m hm sf Lf hL hLb hpick hstep T _ _ 0 (Nat.zero_le _) _ _ (by simp only [go_sem,reduceIte,Nat.reduceEqDiff,Nat.reduceAdd,Nat.reduceSub,Nat.reduceLeDiff,Nat.reduceLT,reduceCtorEq,Int.reduceLT,Int.reduceLE,Int.reduceEq,Int.reduceBEq,Int.reduceSub,Int.reduceAdd,Int.reduceMul,Int.reduceNeg,Int.reduceToNat,Nat.reduceMul,Nat.reduceBEq]<;>rfl)
 clear hg
 obtain ⟨rfl,A,C,rfl⟩:=h2
 refine ⟨A,C,?_⟩
 simp only [go_sem,reduceIte,Nat.reduceEqDiff,Nat.reduceAdd,Nat.reduceSub,Nat.reduceLeDiff,Nat.reduceLT,reduceCtorEq,Int.reduceLT,Int.reduceLE,Int.reduceEq,Int.reduceBEq,Int.reduceSub,Int.reduceAdd,Int.reduceMul,Int.reduceNeg,Int.reduceToNat,Nat.reduceMul,Nat.reduceBEq]
theorem c118n (size:Nat)(hsz:1≤size∧size≤24)(p:Int)(hp:1≤p∧p≤1000)(n:Nat)(hn1:1≤n)(hn8:n≤8)(m:Nat)(hm:m≤8)(fit:Nat)(hfit: ∀k:Nat,p*(k:Int)≤(size:Int)→k≤fit)(hcap:m*fit<n)(T:List Nat):
  ∃A C,run L 118 [I size,sl 1 true ((List.replicate n p).map I),I m,visF] ⟨[[B false]],T⟩=some (.tup [],⟨[[B false],A,C],T⟩):=by
 have h92a:=c92a n hn8
 have h92b:=c92b size m hsz.2 hm
 rw [run_shared (fn:=ir118) rfl rfl]
 have hp0:=plN_zero n hn1
 have hL0:=leftL_zero size p m
 have hnl:(List.replicate n p).length=n:=List.length_replicate
 simp only [ir118,go_sem,reduceIte,Nat.reduceEqDiff,Nat.reduceAdd,Nat.reduceSub,Nat.reduceLeDiff,Nat.reduceLT,reduceCtorEq,Int.reduceLT,Int.reduceLE,Int.reduceEq,Int.reduceBEq,Int.reduceSub,Int.reduceAdd,Int.reduceMul,Int.reduceNeg,Int.reduceToNat,Nat.reduceMul,Nat.reduceBEq,List.length_map,hnl,show pure 92=false from rfl,h92a,h92b,shStore,shV,shVs_I,←hp0,←hL0]
 generalize hg:lim (headed pure (run L) false _ lp118_1 _ _) _ _=o
 obtain ⟨x,en,s,rfl,h2⟩: ∃x en s,o=some (x,en,s)∧_:=by rw [←hg];exact loop118n size (by omega) p hp n hn8 m hm fit hfit hcap T _ _ [] 0 ⟨by simp;omega,by simp,Nat.zero_le _,fun s hs=>by simp⟩ _ _ (by simp only [go_sem,reduceIte,Nat.reduceEqDiff,Nat.reduceAdd,Nat.reduceSub,Nat.reduceLeDiff,Nat.reduceLT,reduceCtorEq,Int.reduceLT,Int.reduceLE,Int.reduceEq,Int.reduceBEq,Int.reduceSub,Int.reduceAdd,Int.reduceMul,Int.reduceNeg,Int.reduceToNat,Nat.reduceMul,Nat.reduceBEq,Int.natCast_zero]<;>rfl)
 clear hg
 obtain ⟨rfl,A,C,rfl⟩:=h2
 refine ⟨A,C,?_⟩
 simp only [go_sem,reduceIte,Nat.reduceEqDiff,Nat.reduceAdd,Nat.reduceSub,Nat.reduceLeDiff,Nat.reduceLT,reduceCtorEq,Int.reduceLT,Int.reduceLE,Int.reduceEq,Int.reduceBEq,Int.reduceSub,Int.reduceAdd,Int.reduceMul,Int.reduceNeg,Int.reduceToNat,Nat.reduceMul,Nat.reduceBEq]
def preG (fit i:Nat):List Nat:=(List.range i).map fun j=>j / fit
theorem preG_succ (fit i:Nat):preG fit (i+1)=preG fit i++ [i / fit]:=by simp [preG,List.range_succ]
theorem preG_count (fit:Nat)(hf:1≤fit)(s:Nat): ∀i,(preG fit i).count s=if s<i / fit then fit else if s=i / fit then i % fit else 0
 |0=>by
  rw [Nat.zero_div,if_neg (by omega)]
  split<;>simp [preG]
 |i+1=>by
  rw [preG_succ,count_snoc,preG_count fit hf s i]
  have h1:=Nat.div_add_mod i fit
  have h2:=Nat.mod_lt i (show 0<fit by omega)
  have h3:=Nat.div_add_mod (i+1) fit
  generalize hq:i / fit=q at*
  generalize hr:i % fit=r at*
  by_cases h:r+1<fit
  ·have e:(i+1) / fit=q:=by
    apply Nat.div_eq_of_lt_le
    ·rw [Nat.mul_comm];omega
    ·rw [Nat.succ_mul,Nat.mul_comm];omega
   rw [e] at h3⊢
   have e2:(i+1) % fit=r+1:=by omega
   rw [e2]
   by_cases a:s<q
   ·rw [if_pos a,if_neg (by omega),if_pos a,Nat.add_zero]
   ·by_cases b:s=q
    ·rw [if_neg a,if_pos b,if_pos b.symm,if_neg a,if_pos b]
    ·rw [if_neg a,if_neg b,if_neg (by omega),if_neg a,if_neg b]
  ·have e:(i+1) / fit=q+1:=by
    apply Nat.div_eq_of_lt_le
    ·rw [Nat.succ_mul,Nat.mul_comm];omega
    ·rw [Nat.succ_mul,Nat.succ_mul,Nat.mul_comm];omega
   rw [e] at h3⊢
   have e2:(i+1) % fit=0:=by rw [Nat.mul_succ] at h3;omega
   rw [e2]
   by_cases a:s<q
   ·rw [if_pos a,if_neg (by omega),if_pos (by omega),Nat.add_zero]
   ·by_cases b:s=q
    ·rw [if_neg a,if_pos b,if_pos b.symm,if_pos (by omega)];omega
    ·rw [if_neg a,if_neg b,if_neg (by omega),if_neg (by omega)];split<;>rfl
theorem pick_go {size p:Int} {Lf:List Int} {t:Nat} (h1: ∀s,s≤t→0<s→Lf.getD (s-1) 0≠size)(h2: ∀s,s<t→Lf.getD s 0<p)(h3:p≤Lf.getD t 0): ∀(f s:Nat),s≤t→t<s+f→pickS size p Lf f s=some t
 |0,s,a,b=>by omega
 |f+1,s,a,b=>by
  simp only [pickS]
  rw [if_neg (fun h=>h1 s a h.1 h.2)]
  by_cases e:s=t
  ·subst e;rw [if_pos h3]
  ·rw [if_neg (by have:=h2 s (by omega);omega)]
   exact pick_go h1 h2 h3 f (s+1) (by omega) (by omega)
theorem greedy_pick {size p:Int} {m fit n:Nat} (hp:1≤p)(hf1:1≤fit)(hfit: ∀k:Nat,p*(k:Int)≤size→k≤fit)(hfit2:p*(fit:Int)≤size)(hmf:n≤m*fit) {i:Nat} (hi:i<n):
  i / fit<m∧pickS size p (leftL size p m (preG fit i)) m 0=some (i / fit):=by
 have hm:i / fit<m:=by
  rw [Nat.div_lt_iff_lt_mul (by omega)];omega
 have hmax:size<p*((fit:Int)+1):=by
  rcases Int.lt_or_le size (p*((fit:Int)+1)) with h|h
  ·exact h
  ·exfalso
   have:=hfit (fit+1) (by rw [Int.natCast_add];exact h)
   omega
 rw [Int.mul_add,Int.mul_one] at hmax
 have hg: ∀s,s<m→(leftL size p m (preG fit i)).getD s 0=size-p*(((if s<i / fit then fit else if s=i / fit then i % fit else 0):Nat):Int):=fun s hs=>by
  rw [leftL_get _ _ _ _ _ hs,preG_count fit hf1]
 refine ⟨hm,pick_go (fun s hs h0=> ?_) (fun s hs=> ?_) ?_ m 0 (Nat.zero_le _) (by omega)⟩
 ·rw [hg (s-1) (by omega),if_pos (by omega)]
  have:0<p*(fit:Int):=Int.mul_pos (by omega) (by omega)
  omega
 ·rw [hg s (by omega),if_pos hs];omega
 ·rw [hg _ hm,if_neg (by omega),if_pos rfl]
  have h2:=Nat.mod_lt i (show 0<fit by omega)
  have:p*((i % fit:Nat):Int)+p≤p*(fit:Int):=by
   have:p*(((i % fit:Nat):Int)+1)≤p*(fit:Int):=Int.mul_le_mul_of_nonneg_left (by omega) (by omega)
   rwa [Int.mul_add,Int.mul_one] at this
  omega
theorem loop57 (size:Nat)(hsz:1≤size∧size≤24)(p:Int)(hp:1≤p∧p≤1000)(n:Nat)(hn1:1≤n)(hn8:n≤8)(fit:Nat)(hf1:1≤fit)(hfit: ∀k:Nat,p*(k:Int)≤(size:Int)→k≤fit)(hfit2:p*(fit:Int)≤(size:Int))(N:Nat)(hN:N≤n)(hN1:n≤N*fit)(hN2: ∀m,m<N→m*fit<n)(m:Nat)(hok:m≤N)(env:Env)(st:St)
  (hg:gcAV true 0 0 (canon env [0,1,5]) st=([(0,I size),(1,sl 1 true ((List.replicate n p).map I)),(5,I m)],⟨[],[]⟩)):
  ∃x_1 en s,lim (headed pure (run L) true [0,1,5] lp57_0 0 0) env st=some (x_1,en,s)∧(x_1=.ret∧en.get 4=I N):=by
 refine loop_wp (α:=Nat) (fun m=>N-m) (fun m=>m≤N) (fun m=>([(0,I size),(1,sl 1 true ((List.replicate n p).map I)),(5,I m)],⟨[],[]⟩)) (fun m x_1 en s=>x_1=.ret∧en.get 4=I N) (fun m hok=> ?_) m hok env st hg
 have hnl:(List.replicate n p).length=n:=List.length_replicate
 have hvis:AV.fn (.func 119) [] [.ptr 0 0]=visF:=rfl
 have hs:=succ64 m (by omega)
 by_cases h:m<N
 ·obtain ⟨A,C,hcall⟩:=c118n size hsz p hp n hn1 hn8 m (by omega) fit hfit (hN2 m h) []
  have hne:((m:Int)=(n:Int))=False:=eq_false (by omega)
  simp only [go_sem,reduceIte,Nat.reduceEqDiff,Nat.reduceAdd,Nat.reduceSub,Nat.reduceLeDiff,Nat.reduceLT,reduceCtorEq,Int.reduceLT,Int.reduceLE,Int.reduceEq,Int.reduceBEq,Int.reduceSub,Int.reduceAdd,Int.reduceMul,Int.reduceNeg,Int.reduceToNat,Nat.reduceMul,Nat.reduceBEq,index_rsl_if,setm,make_ints,condK_dec,wantK_dec,not_dec,and_dec,or_dec,seqK_ite,seqK_none,blockK_ite,blockK_none,opsK_ite,opsK_none,stepK_ite,stepK_none,bodyK_ite,bodyK_none,resK_ite,resK_none,leaveK_ite,leaveK_none,only_ite,only_none,bind_ite,gives_some,gives_none,gives_ite,then_normal,then_ret,then_exit,then_none,then_ite,Option.bind_none,Bool.not_eq_true',decide_eq_false_iff_not,Bool.and_eq_true,Bool.or_eq_true,Option.some.injEq,Int.not_lt,Int.not_le,lp57_0,hvis,hcall,hne,hnl,List.length_map,hs]
  refine ⟨(m+1),by simp only [go_sem,reduceIte,Nat.reduceEqDiff,Nat.reduceAdd,Nat.reduceSub,Nat.reduceLeDiff,Nat.reduceLT,reduceCtorEq,Int.reduceLT,Int.reduceLE,Int.reduceEq,Int.reduceBEq,Int.reduceSub,Int.reduceAdd,Int.reduceMul,Int.reduceNeg,Int.reduceToNat,Nat.reduceMul,Nat.reduceBEq,ren1_locm,loc_tips,locT_eq]<;>rfl,?_,?_,fun x en s hq=> ?_⟩
  all_goals first|exact hq|omega
 ·obtain rfl:m=N:=by omega
  have hps: ∀x∈List.replicate n p,0≤x∧x≤1000:=fun x hx=>by
   have:=List.eq_of_mem_replicate hx;omega
  have hpg: ∀i,i<n→(List.replicate n p).getD i 0=p:=fun i hi=>by simp [List.getD_eq_getElem?_getD,hi]
  have hgp:=fun i (hi:i<n)=>greedy_pick (m:=m) hp.1 hf1 hfit hfit2 hN1 hi
  have hLb: ∀i,i≤n→∀x∈leftL (size:Int) p m (preG fit i),-100000≤x∧x≤100000:=fun i hi x hx=>by
   obtain ⟨s,hs,rfl⟩:=List.mem_map.1 hx
   have a1:(preG fit i).count s≤8:=by
    have:=List.count_le_length (a:=s) (l:=preG fit i)
    simp [preG] at this⊢;omega
   have a2:0≤p*((preG fit i).count s:Int):=Int.mul_nonneg (by omega) (by omega)
   have a3:p*((preG fit i).count s:Int)≤1000*8:=Int.mul_le_mul hp.2 (by omega) (by omega) (by omega)
   omega
  obtain ⟨A,C,hcall⟩:=c118f size hsz (List.replicate n p) n hnl hn8 hps m (by omega) (fun i=>i / fit) (fun i=>leftL (size:Int) p m (preG fit i)) (fun i _=>leftL_len _ _ _ _) hLb (fun i hi=>by rw [hpg i hi];exact (hgp i hi).2) (fun i hi=>by
   rw [hpg i hi]
   show (leftL (size:Int) p m (preG fit i)).set (i / fit) _=leftL (size:Int) p m (preG fit (i+1))
   rw [preG_succ]
   exact leftL_put _ _ _ _ _ (hgp i hi).1) (leftL_zero _ _ _) []
  simp only [go_sem,reduceIte,Nat.reduceEqDiff,Nat.reduceAdd,Nat.reduceSub,Nat.reduceLeDiff,Nat.reduceLT,reduceCtorEq,Int.reduceLT,Int.reduceLE,Int.reduceEq,Int.reduceBEq,Int.reduceSub,Int.reduceAdd,Int.reduceMul,Int.reduceNeg,Int.reduceToNat,Nat.reduceMul,Nat.reduceBEq,index_rsl_if,setm,make_ints,condK_dec,wantK_dec,not_dec,and_dec,or_dec,seqK_ite,seqK_none,blockK_ite,blockK_none,opsK_ite,opsK_none,stepK_ite,stepK_none,bodyK_ite,bodyK_none,resK_ite,resK_none,leaveK_ite,leaveK_none,only_ite,only_none,bind_ite,gives_some,gives_none,gives_ite,then_normal,then_ret,then_exit,then_none,then_ite,Option.bind_none,Bool.not_eq_true',decide_eq_false_iff_not,Bool.and_eq_true,Bool.or_eq_true,Option.some.injEq,Int.not_lt,Int.not_le,lp57_0,hvis,hcall,hnl,List.length_map]
theorem c57 (size:Nat)(hsz:1≤size∧size≤24)(p:Int)(hp:1≤p∧p≤1000)(n:Nat)(hn1:1≤n)(hn8:n≤8)(fit:Nat)(hf1:1≤fit)(hfit: ∀k:Nat,p*(k:Int)≤(size:Int)→k≤fit)(hfit2:p*(fit:Int)≤(size:Int))(N:Nat)(hN:N≤n)(hN1:n≤N*fit)(hN2: ∀m,m<N→m*fit<n)(st:St):
  run L 57 [I size,sl 1 true ((List.replicate n p).map I)] st=some (I N,st):=by
 rw [run_pure (fn:=ir57) rfl rfl]
 simp only [ir57,go_sem,reduceIte,Nat.reduceEqDiff,Nat.reduceAdd,Nat.reduceSub,Nat.reduceLeDiff,Nat.reduceLT,reduceCtorEq,Int.reduceLT,Int.reduceLE,Int.reduceEq,Int.reduceBEq,Int.reduceSub,Int.reduceAdd,Int.reduceMul,Int.reduceNeg,Int.reduceToNat,Nat.reduceMul,Nat.reduceBEq]
 generalize hg:lim (headed pure (run L) true _ lp57_0 _ _) _ _=o
 obtain ⟨x,en,s,rfl,h2⟩: ∃x en s,o=some (x,en,s)∧_:=by rw [←hg];exact loop57 size hsz p hp n hn1 hn8 fit hf1 hfit hfit2 N hN hN1 hN2 0 (Nat.zero_le _) _ _ (by simp only [go_sem,reduceIte,Nat.reduceEqDiff,Nat.reduceAdd,Nat.reduceSub,Nat.reduceLeDiff,Nat.reduceLT,reduceCtorEq,Int.reduceLT,Int.reduceLE,Int.reduceEq,Int.reduceBEq,Int.reduceSub,Int.reduceAdd,Int.reduceMul,Int.reduceNeg,Int.reduceToNat,Nat.reduceMul,Nat.reduceBEq,Int.natCast_zero]<;>rfl)
 clear hg
 obtain ⟨rfl,g4⟩:=h2
 simp only [go_sem,reduceIte,Nat.reduceEqDiff,Nat.reduceAdd,Nat.reduceSub,Nat.reduceLeDiff,Nat.reduceLT,reduceCtorEq,Int.reduceLT,Int.reduceLE,Int.reduceEq,Int.reduceBEq,Int.reduceSub,Int.reduceAdd,Int.reduceMul,Int.reduceNeg,Int.reduceToNat,Nat.reduceMul,Nat.reduceBEq,g4]
theorem run_args {f:FuncId} {fn:IF} (hf:L.fns f=some fn)(hp:L.pure f=true) {args args':List AV} (st:St)(h:pubs args=pubs args'):run L f args st=run L f args' st:=by
 rw [run_pure hf hp,run_pure hf hp,h]
theorem c117 (x size:Int)(h:1≤x∧x≤size)(R:List (List AV))(T:List Nat):run L 117 [I x,.ptr 0 0] ⟨[I size]::R,T⟩=some (B false,⟨[I size]::R,T⟩):=by
 rw [run_shared (fn:=ir117) rfl rfl]
 have p:(x<1)=False:=eq_false (by omega)
 have q:(size<x)=False:=eq_false (by omega)
 simp only [ir117,go_sem,reduceIte,Nat.reduceEqDiff,Nat.reduceAdd,Nat.reduceSub,Nat.reduceLeDiff,Nat.reduceLT,reduceCtorEq,Int.reduceLT,Int.reduceLE,Int.reduceEq,Int.reduceBEq,Int.reduceSub,Int.reduceAdd,Int.reduceMul,Int.reduceNeg,Int.reduceToNat,Nat.reduceMul,Nat.reduceBEq,p,q]
theorem loop93 (k:Nat)(hk:pure k=false)(caps:List AV)(nl:Bool)(l:List Int)(hlen:l.length<1000000)(st0:St)(hc: ∀x∈l,run L k (I x::caps) st0=some (B false,st0))(lo hi:Nat)(i:Nat)(hok:i≤l.length)(env:Env)(st:St)
  (hg:gcAV false lo hi (canon env [0,1,7,8]) st=([(0,sl 1 nl (l.map I)),(1,.fn (.func k) [] caps),(7,I l.length),(8,I i)],st0)):
  ∃x_1 en s,lim (headed pure (run L) false [0,1,7,8] lp93_0 lo hi) env st=some (x_1,en,s)∧(x_1=.exit 0∧s=st0):=by
 refine loop_wp (α:=Nat) (fun i=>l.length-i) (fun i=>i≤l.length) (fun i=>([(0,sl 1 nl (l.map I)),(1,.fn (.func k) [] caps),(7,I l.length),(8,I i)],st0)) (fun i x_1 en s=>x_1=.exit 0∧s=st0) (fun i hok=> ?_) i hok env st hg
 by_cases h:i<l.length
 ·have hx:=index_ints nl l i h
  have hs:=succ64 i (by omega)
  have hlt:((i:Int)<(l.length:Int))=True:=eq_true (by omega)
  have hcall:=hc l[i] (List.getElem_mem h)
  generalize l[i]=b at*
  simp only [go_sem,reduceIte,Nat.reduceEqDiff,Nat.reduceAdd,Nat.reduceSub,Nat.reduceLeDiff,Nat.reduceLT,reduceCtorEq,Int.reduceLT,Int.reduceLE,Int.reduceEq,Int.reduceBEq,Int.reduceSub,Int.reduceAdd,Int.reduceMul,Int.reduceNeg,Int.reduceToNat,Nat.reduceMul,Nat.reduceBEq,index_rsl_if,setm,make_ints,condK_dec,wantK_dec,not_dec,and_dec,or_dec,seqK_ite,seqK_none,blockK_ite,blockK_none,opsK_ite,opsK_none,stepK_ite,stepK_none,bodyK_ite,bodyK_none,resK_ite,resK_none,leaveK_ite,leaveK_none,only_ite,only_none,bind_ite,gives_some,gives_none,gives_ite,then_normal,then_ret,then_exit,then_none,then_ite,Option.bind_none,Bool.not_eq_true',decide_eq_false_iff_not,Bool.and_eq_true,Bool.or_eq_true,Option.some.injEq,Int.not_lt,Int.not_le,lp93_0,hx,hlt,hk,hcall,hs]
  refine ⟨i+1,by simp only [go_sem,reduceIte,Nat.reduceEqDiff,Nat.reduceAdd,Nat.reduceSub,Nat.reduceLeDiff,Nat.reduceLT,reduceCtorEq,Int.reduceLT,Int.reduceLE,Int.reduceEq,Int.reduceBEq,Int.reduceSub,Int.reduceAdd,Int.reduceMul,Int.reduceNeg,Int.reduceToNat,Nat.reduceMul,Nat.reduceBEq,ren1_locm,loc_tips,locT_eq]<;>rfl,?_,?_,fun x en s hq=> ?_⟩
  all_goals first|exact hq|omega
 ·have hlt:((i:Int)<(l.length:Int))=False:=eq_false (by omega)
  simp only [go_sem,reduceIte,Nat.reduceEqDiff,Nat.reduceAdd,Nat.reduceSub,Nat.reduceLeDiff,Nat.reduceLT,reduceCtorEq,Int.reduceLT,Int.reduceLE,Int.reduceEq,Int.reduceBEq,Int.reduceSub,Int.reduceAdd,Int.reduceMul,Int.reduceNeg,Int.reduceToNat,Nat.reduceMul,Nat.reduceBEq,index_rsl_if,setm,make_ints,condK_dec,wantK_dec,not_dec,and_dec,or_dec,seqK_ite,seqK_none,blockK_ite,blockK_none,opsK_ite,opsK_none,stepK_ite,stepK_none,bodyK_ite,bodyK_none,resK_ite,resK_none,leaveK_ite,leaveK_none,only_ite,only_none,bind_ite,gives_some,gives_none,gives_ite,then_normal,then_ret,then_exit,then_none,then_ite,Option.bind_none,Bool.not_eq_true',decide_eq_false_iff_not,Bool.and_eq_true,Bool.or_eq_true,Option.some.injEq,Int.not_lt,Int.not_le,lp93_0,hlt]
theorem c93 (k:Nat)(hk:pure k=false)(caps:List AV)(nl:Bool)(l:List Int)(hlen:l.length<1000000)(st:St)(hc: ∀x∈l,run L k (I x::caps) st=some (B false,st)):run L 93 [sl 1 nl (l.map I),.fn (.func k) [] caps] st=some (I (-1),st):=by
 rw [run_shared (fn:=ir93) rfl rfl]
 simp only [ir93,go_sem,reduceIte,Nat.reduceEqDiff,Nat.reduceAdd,Nat.reduceSub,Nat.reduceLeDiff,Nat.reduceLT,reduceCtorEq,Int.reduceLT,Int.reduceLE,Int.reduceEq,Int.reduceBEq,Int.reduceSub,Int.reduceAdd,Int.reduceMul,Int.reduceNeg,Int.reduceToNat,Nat.reduceMul,Nat.reduceBEq,List.length_map]
 generalize hg:lim (headed pure (run L) false _ lp93_0 _ _) _ _=o
 obtain ⟨x,en,s,rfl,h2⟩: ∃x en s,o=some (x,en,s)∧_:=by rw [←hg];exact loop93 k hk caps nl l hlen st hc _ _ 0 (by omega) _ _ (by simp only [go_sem,reduceIte,Nat.reduceEqDiff,Nat.reduceAdd,Nat.reduceSub,Nat.reduceLeDiff,Nat.reduceLT,reduceCtorEq,Int.reduceLT,Int.reduceLE,Int.reduceEq,Int.reduceBEq,Int.reduceSub,Int.reduceAdd,Int.reduceMul,Int.reduceNeg,Int.reduceToNat,Nat.reduceMul,Nat.reduceBEq]<;>rfl)
 clear hg
 obtain ⟨rfl,rfl⟩:=h2
 simp only [go_sem,reduceIte,Nat.reduceEqDiff,Nat.reduceAdd,Nat.reduceSub,Nat.reduceLeDiff,Nat.reduceLT,reduceCtorEq,Int.reduceLT,Int.reduceLE,Int.reduceEq,Int.reduceBEq,Int.reduceSub,Int.reduceAdd,Int.reduceMul,Int.reduceNeg,Int.reduceToNat,Nat.reduceMul,Nat.reduceBEq]
theorem c112 (k:Nat)(hk:pure k=false)(caps:List AV)(nl:Bool)(l:List Int)(hlen:l.length<1000000)(st:St)(hc: ∀x∈l,run L k (I x::caps) st=some (B false,st)):run L 112 [sl 1 nl (l.map I),.fn (.func k) [] caps] st=some (B false,st):=by
 rw [run_shared (fn:=ir112) rfl rfl]
 have h93:=c93 k hk caps nl l hlen st hc
 simp only [ir112,go_sem,reduceIte,Nat.reduceEqDiff,Nat.reduceAdd,Nat.reduceSub,Nat.reduceLeDiff,Nat.reduceLT,reduceCtorEq,Int.reduceLT,Int.reduceLE,Int.reduceEq,Int.reduceBEq,Int.reduceSub,Int.reduceAdd,Int.reduceMul,Int.reduceNeg,Int.reduceToNat,Nat.reduceMul,Nat.reduceBEq,h93]
theorem c56 (size:Int)(hs:1≤size∧size≤24)(nl:Bool)(l:List Int)(hl:l.length≤8)(hx: ∀x∈l,1≤x∧x≤size)(st:St):run L 56 [I size,sl 1 nl (l.map I)] st=some (I 0,st):=by
 rw [run_pure (fn:=ir56) rfl rfl]
 have p:(size<1)=False:=eq_false (by omega)
 have q:(24<size)=False:=eq_false (by omega)
 have r:((8:Int)<(l.length:Int))=False:=eq_false (by omega)
 have h112:=c112 117 rfl [.ptr 0 0] nl l (by omega) ⟨[[I size]],[]⟩ (fun x h=>c117 x size (hx x h) [] [])
 simp only [ir56,go_sem,reduceIte,Nat.reduceEqDiff,Nat.reduceAdd,Nat.reduceSub,Nat.reduceLeDiff,Nat.reduceLT,reduceCtorEq,Int.reduceLT,Int.reduceLE,Int.reduceEq,Int.reduceBEq,Int.reduceSub,Int.reduceAdd,Int.reduceMul,Int.reduceNeg,Int.reduceToNat,Nat.reduceMul,Nat.reduceBEq,p,q,r,h112,List.length_map]
theorem c12 (size:Nat)(hsz:1≤size∧size≤24)(p:Int)(hp:1≤p∧p≤size)(n:Nat)(hn1:1≤n)(hn8:n≤8)(fit:Nat)(hf1:1≤fit)(hfit: ∀k:Nat,p*(k:Int)≤(size:Int)→k≤fit)(hfit2:p*(fit:Int)≤(size:Int))(N:Nat)(hN:N≤n)(hN1:n≤N*fit)(hN2: ∀m,m<N→m*fit<n)(st:St):
  run L 12 [I size,sl 1 true ((List.replicate n p).map I)] st=some (.tup [I N,I 0],st):=by
 rw [run_pure (fn:=ir12) rfl rfl]
 have h56:=fun st=>c56 size (by omega) true (List.replicate n p) (by simp;omega) (fun x hx=>by have:=List.eq_of_mem_replicate hx;omega) st
 have h57:=fun st=>c57 size hsz p (by omega) n hn1 hn8 fit hf1 hfit hfit2 N hN hN1 hN2 st
 simp only [ir12,go_sem,reduceIte,Nat.reduceEqDiff,Nat.reduceAdd,Nat.reduceSub,Nat.reduceLeDiff,Nat.reduceLT,reduceCtorEq,Int.reduceLT,Int.reduceLE,Int.reduceEq,Int.reduceBEq,Int.reduceSub,Int.reduceAdd,Int.reduceMul,Int.reduceNeg,Int.reduceToNat,Nat.reduceMul,Nat.reduceBEq,h56,h57]
theorem c15 (nl:Bool)(l:List Int)(st:St):run L 15 [sl 1 nl (l.map I)] st=some (sl 1 nl (l.map I),st):=by
 rw [run_pure (fn:=ir15) rfl rfl]
 simp only [ir15,go_sem,reduceIte,Nat.reduceEqDiff,Nat.reduceAdd,Nat.reduceSub,Nat.reduceLeDiff,Nat.reduceLT,reduceCtorEq,Int.reduceLT,Int.reduceLE,Int.reduceEq,Int.reduceBEq,Int.reduceSub,Int.reduceAdd,Int.reduceMul,Int.reduceNeg,Int.reduceToNat,Nat.reduceMul,Nat.reduceBEq]
theorem all158:(List.range 23).map (fun (f:Nat)=>callAV L 100 158 [.lst .any 1 [I 1,I ((f+2:Nat):Int)]] ⟨[],[]⟩)=(List.range 23).map (fun (_:Nat)=>some (I 0,(⟨[],[]⟩:St))):=by kernel_rfl
theorem run_anyE {f:FuncId} {fn:IF} (hf:L.fns f=some fn)(hp:L.pure f=true) {args:List AV} {st0 st1:St} {r:AV} (h:run L f args st0=some (r,st1))(st:St):run L f args st=some (r,st):=by
 rw [run_pure hf hp] at h⊢
 unfold leaveK at h⊢
 split at h
 ·simp only [leave,Option.some.injEq,Prod.mk.injEq] at h⊢
  exact ⟨h.1,trivial⟩
 ·exact absurd h (by simp)
theorem c158 (f:Nat)(hf:2≤f∧f≤24)(st:St):run L 158 [.lst .any 1 [I 1,I f]] st=some (I 0,st):=by
 have:=callAV_run L 100 _ _ _ _ (all_of all158 (f-2) (by omega))
 rw [show f-2+2=f by omega] at this
 exact run_anyE (fn:=ir158) rfl rfl this st
theorem c107 (f n:Nat)(hf:2≤f∧f≤24)(hn:n≤8)(st:St):run L 107 [.lst .any 1 [I 1,I f],I n] st=some (I 0,st):=by
 rw [run_pure (fn:=ir107) rfl rfl]
 have h:=fun st=>c158 f hf st
 have p:((n:Int)<0)=False:=eq_false (by omega)
 have q:((200:Int)<(n:Int))=False:=eq_false (by omega)
 simp only [ir107,go_sem,reduceIte,Nat.reduceEqDiff,Nat.reduceAdd,Nat.reduceSub,Nat.reduceLeDiff,Nat.reduceLT,reduceCtorEq,Int.reduceLT,Int.reduceLE,Int.reduceEq,Int.reduceBEq,Int.reduceSub,Int.reduceAdd,Int.reduceMul,Int.reduceNeg,Int.reduceToNat,Nat.reduceMul,Nat.reduceBEq,h,p,q]
def LeastN (fit x N:Nat):Prop:=x≤N*fit∧∀m,m<N→m*fit<x
theorem LeastN.uniq {fit x N M:Nat} (h:LeastN fit x N)(g:LeastN fit x M):N=M:=by
 rcases Nat.lt_trichotomy N M with q|q|q
 ·have:=g.2 N q;have:=h.1;omega
 ·exact q
 ·have:=h.2 M q;have:=g.1;omega
theorem least_div {fit x:Nat} (hf:1≤fit):LeastN fit x (x / fit+min 1 (x % fit)):=by
 have hd:=Nat.div_add_mod x fit
 have hm:=Nat.mod_lt x (show 0<fit by omega)
 generalize hq:x / fit=q at*
 generalize hr:x % fit=r at*
 have hqf:fit*q=q*fit:=Nat.mul_comm _ _
 refine ⟨?_,fun m hm2=> ?_⟩
 ·rw [Nat.add_mul]
  by_cases h:r=0
  ·subst h;simp;omega
  ·rw [show min 1 r=1 by omega];omega
 ·by_cases h:r=0
  ·subst h
   have hlt:m<q:=by simpa using hm2
   have:m*fit<q*fit:=Nat.mul_lt_mul_of_pos_right hlt (by omega)
   omega
  ·have hle:m≤q:=by omega
   have:m*fit≤q*fit:=Nat.mul_le_mul_right _ hle
   omega
theorem least_le {fit x N:Nat} (hf:1≤fit)(h:LeastN fit x N):N≤x:=by
 apply Classical.byContradiction
 intro hc
 have:=h.2 x (by omega)
 have:x*1≤x*fit:=Nat.mul_le_mul_left _ hf
 omega
theorem segN' (l:List Int)(b e:Nat):seg l b e=l.getD e 0-l.getD b 0:=by simp [seg]
theorem endE {l:List Int} {w:Int} {b m:Nat} (h1:seg l b m≤w+1): ∀N,m≤N→(∀e:Nat,m<e→e≤N→w+1<seg l b e)→endD l w b N=m
 |0,h,_=>by simp only [endD];omega
 |N+1,h,h2=>by
  simp only [endD]
  by_cases hm:m=N+1
  ·subst hm;rw [if_neg (by omega)]
  ·rw [if_pos (h2 (N+1) (by omega) (by omega)),endE h1 N (by omega) (fun e a c=>h2 e a (by omega))]
theorem segR (p:Int)(n b e:Nat)(hb:b≤n)(he:e≤n):seg (lsum (List.replicate n p)) (b:Int) (e:Int)=((e:Int)-b)*(p+1):=by
 have hs: ∀i,i≤n→(lsum (List.replicate n p)).getD i 0=(i:Int)*(p+1):=fun i hi=>by
  rw [lsum_getD _ _ (by simpa using hi),List.take_replicate,Nat.min_eq_left hi,List.map_replicate]
  clear hi
  induction i with
  |zero=>simp
  |succ i ih=>rw [List.replicate_succ,List.sum_cons,ih,Int.natCast_add,Int.natCast_one,Int.add_mul];omega
 rw [segN',hs e he,hs b hb,Int.sub_mul]
theorem endR {w p:Int} {n fit:Nat} (hp:1≤p)(hf2:(fit:Int)*(p+1)≤w+1)(hf:w+1<((fit:Int)+1)*(p+1)) {b:Nat} (hb:b≤n):
  endD (lsum (List.replicate n p)) w b n=min n (b+fit):=by
 refine endE ?_ n (by omega) fun e h1 h2=> ?_
 ·rw [segR p n b _ hb (by omega)]
  have h:((min n (b+fit):Nat):Int)-b≤fit:=by omega
  have:=Int.mul_le_mul_of_nonneg_right h (show 0≤p+1 by omega)
  omega
 ·rw [segR p n b e hb h2]
  have h:(fit:Int)+1≤(e:Int)-b:=by omega
  have:=Int.mul_le_mul_of_nonneg_right h (show 0≤p+1 by omega)
  omega
theorem fullR {w p:Int} {n fit:Nat} (hp:1≤p)(hf1:1≤fit)(hf2:(fit:Int)*(p+1)≤w+1)(hf:w+1<((fit:Int)+1)*(p+1)):
  ∀k b,b≤n→n-b≤k→LeastN fit (n-b) (fullF (lsum (List.replicate n p)) w n k b).length
 |0,b,hb,hk=>by
  have:n-b=0:=by omega
  simp [fullF,this,LeastN]
 |k+1,b,hb,hk=>by
  simp only [fullF]
  split
  ·next h=>
   have ih:=fullR (n:=n) hp hf1 hf2 hf k (min n (b+fit)) (by omega) (by omega)
   rw [endR hp hf2 hf hb]
   rw [List.length_cons]
   obtain ⟨i1,i2⟩:=ih
   refine ⟨?_,fun m hm=> ?_⟩
   ·rw [Nat.add_mul,Nat.one_mul];omega
   ·cases m with
    |zero=>omega
    |succ m=>
     have:=i2 m (by omega)
     rw [Nat.add_mul,Nat.one_mul];omega
  ·have:n-b=0:=by omega
   simp [this,LeastN]
def qB (a n:Nat) (v:Int):AV:=.lst (.own a n) 1 ((List.replicate n v).map I)
def qA (a i:Nat) (v:Int):AV:=if i=0 then .v (.slice none 0 0) else qB a i v
def qT (i:Nat):List Nat:=if i=0 then [] else [i,i]
theorem okRef_qA (n a i:Nat)(v:Int):okRef n (qA a i v)=true:=by unfold qA;split<;>rfl
theorem storable_qA (a i:Nat)(v:Int):storable (qA a i v)=true:=by unfold qA;split<;>rfl
theorem shaped_qA (a i:Nat)(v:Int):(qA a i v).shaped=true:=by unfold qA;split<;>rfl
theorem cells_qA (a i:Nat)(v:Int):(qA a i v).cells=[qA a i v]:=by unfold qA;split<;>rfl
theorem isAgg_qA (a i:Nat)(v:Int):Go.Ev.isAgg (qA a i v)=false:=by unfold qA;split<;>rfl
theorem okRef_qB (n a i:Nat)(v:Int):okRef n (qB a i v)=true:=rfl
theorem storable_qB (a i:Nat)(v:Int):storable (qB a i v)=true:=rfl
theorem shaped_qB (a i:Nat)(v:Int):(qB a i v).shaped=true:=rfl
theorem cells_qB (a i:Nat)(v:Int):(qB a i v).cells=[qB a i v]:=rfl
theorem isAgg_qB (a i:Nat)(v:Int):Go.Ev.isAgg (qB a i v)=false:=rfl
theorem pub_qA (a i:Nat)(v:Int):pub (qA a i v)=sl 1 true ((List.replicate i v).map I):=by
 unfold qA
 split
 ·next h=>subst h;rfl
 ·next h=>
  have:(List.replicate i v).map I≠[]:=by
   intro e
   have:=congrArg List.length e
   simp at this;omega
  rw [sl_ne this];rfl
theorem q_steps (i:Nat)(u v:Int)(hi:i<1000): ∃a b T1,(∀S,appendAV 1 (qA 1 i u) [I u] ⟨S,qT i⟩=some (qB a (i+1) u,⟨S,T1⟩))∧(∀S,appendAV 1 (qA 0 i v) [I v] ⟨S,T1⟩=some (qB b (i+1) v,⟨S,qT (i+1)⟩))∧
  ren1 0 (qT (i+1)) [] (qB b (i+1) v)=(qA 0 (i+1) v,[(b,i+1)])∧ren1 0 (qT (i+1)) [(b,i+1)] (qB a (i+1) u)=(qA 1 (i+1) u,[(b,i+1),(a,i+1)]):=by
 cases i with
 |zero=>exact ⟨0,1,[1],fun S=>rfl,fun S=>rfl,rfl,rfl⟩
 |succ i=>
  have hg:i+1+1≤maxGrow:=by unfold maxGrow;omega
  refine ⟨1,0,[i+1,i+1+1],fun S=> ?_,fun S=> ?_,?_,?_⟩
  ·simp [qA,qB,qT,appendAV,hg,List.replicate_succ' (n:=i+1)]
  ·simp [qA,qB,qT,appendAV,hg,List.replicate_succ' (n:=i+1)]
  ·simp [qA,qB,qT,ren1]
  ·simp [qA,qB,qT,ren1]
theorem qT_succ (i:Nat):qT (i+1)=[i+1,i+1]:=rfl
theorem q_start (a:Nat)(v:Int): .v (.slice none 0 0)=qA a 0 v:=rfl
attribute [local go_sem] okRef_qA storable_qA shaped_qA cells_qA isAgg_qA okRef_qB storable_qB shaped_qB cells_qB isAgg_qB
theorem loop8_0 (w wd:Int)(hwd:1≤wd∧wd≤40)(n:Nat)(hn:n≤8)(i:Nat)(hok:i≤n)(env:Env)(st:St)
  (hg:gcAV true 1 0 (canon env [7,8,9,10,34,35]) st=([(7,.ptr 0 0),(8,I wd),(9,I n),(10,qA 0 i (wd+1)),(34,I n),(35,I i)],⟨[[I w,qA 1 i wd]],qT i⟩)):
  ∃x_1 en s,lim (headed pure (run L) true [7,8,9,10,34,35] lp8_0 1 0) env st=some (x_1,en,s)∧(x_1=.exit 0∧en.get 7=.ptr 0 0∧en.get 8=I wd∧en.get 9=I n∧en.get 10=qA 0 n (wd+1)∧s=⟨[[I w,qA 1 n wd]],qT n⟩):=by
 refine loop_wp (α:=Nat) (fun i=>n-i) (fun i=>i≤n) (fun i=>([(7,.ptr 0 0),(8,I wd),(9,I n),(10,qA 0 i (wd+1)),(34,I n),(35,I i)],⟨[[I w,qA 1 i wd]],qT i⟩)) (fun i x_1 en s=>x_1=.exit 0∧en.get 7=.ptr 0 0∧en.get 8=I wd∧en.get 9=I n∧en.get 10=qA 0 n (wd+1)∧s=⟨[[I w,qA 1 n wd]],qT n⟩) (fun i hok=> ?_) i hok env st hg
 by_cases h:i<n
 ·have hs:=succ64 i (by omega)
  have hlt:((i:Int)<(n:Int))=True:=eq_true (by omega)
  have hw:=wrap64 (wd+1) (by omega) (by omega)
  obtain ⟨a,b,T1,happ1,happ2,hr1,hr2⟩:=q_steps i wd (wd+1) (by omega)
  have hqT:=qT_succ i
  simp only [go_sem,reduceIte,Nat.reduceEqDiff,Nat.reduceAdd,Nat.reduceSub,Nat.reduceLeDiff,Nat.reduceLT,reduceCtorEq,Int.reduceLT,Int.reduceLE,Int.reduceEq,Int.reduceBEq,Int.reduceSub,Int.reduceAdd,Int.reduceMul,Int.reduceNeg,Int.reduceToNat,Nat.reduceMul,Nat.reduceBEq,index_rsl_if,setm,make_ints,condK_dec,wantK_dec,not_dec,and_dec,or_dec,seqK_ite,seqK_none,blockK_ite,blockK_none,opsK_ite,opsK_none,stepK_ite,stepK_none,bodyK_ite,bodyK_none,resK_ite,resK_none,leaveK_ite,leaveK_none,only_ite,only_none,bind_ite,gives_some,gives_none,gives_ite,then_normal,then_ret,then_exit,then_none,then_ite,Option.bind_none,Bool.not_eq_true',decide_eq_false_iff_not,Bool.and_eq_true,Bool.or_eq_true,Option.some.injEq,Int.not_lt,Int.not_le,lp8_0,hlt,hs,hw,happ1,happ2]
  refine ⟨(i+1),by simp only [go_sem,reduceIte,Nat.reduceEqDiff,Nat.reduceAdd,Nat.reduceSub,Nat.reduceLeDiff,Nat.reduceLT,reduceCtorEq,Int.reduceLT,Int.reduceLE,Int.reduceEq,Int.reduceBEq,Int.reduceSub,Int.reduceAdd,Int.reduceMul,Int.reduceNeg,Int.reduceToNat,Nat.reduceMul,Nat.reduceBEq,ren1_locm,loc_tips,locT_eq,hr1,hr2,←hqT]<;>rfl,?_,?_,fun x en s hq=> ?_⟩
  all_goals first|exact hq|omega
 ·have hlt:((i:Int)<(n:Int))=False:=eq_false (by omega)
  obtain rfl:i=n:=by omega
  simp only [go_sem,reduceIte,Nat.reduceEqDiff,Nat.reduceAdd,Nat.reduceSub,Nat.reduceLeDiff,Nat.reduceLT,reduceCtorEq,Int.reduceLT,Int.reduceLE,Int.reduceEq,Int.reduceBEq,Int.reduceSub,Int.reduceAdd,Int.reduceMul,Int.reduceNeg,Int.reduceToNat,Nat.reduceMul,Nat.reduceBEq,index_rsl_if,setm,make_ints,condK_dec,wantK_dec,not_dec,and_dec,or_dec,seqK_ite,seqK_none,blockK_ite,blockK_none,opsK_ite,opsK_none,stepK_ite,stepK_none,bodyK_ite,bodyK_none,resK_ite,resK_none,leaveK_ite,leaveK_none,only_ite,only_none,bind_ite,gives_some,gives_none,gives_ite,then_normal,then_ret,then_exit,then_none,then_ite,Option.bind_none,Bool.not_eq_true',decide_eq_false_iff_not,Bool.and_eq_true,Bool.or_eq_true,Option.some.injEq,Int.not_lt,Int.not_le,lp8_0,hlt]
theorem c108 (f n:Nat)(hf:2≤f∧f≤24)(hn:n≤8)(st:St):run L 108 [.lst .any 1 [I 1,I f],I n] st=some (.tup [.rsl st.store.length 0 2 2 1 false,I ((n:Int) / f+(n:Int) % f)],⟨st.store++ [[I ((n:Int) % f),I ((n:Int) / f)]],st.tips⟩):=
 run_prim rfl rfl (by
  rw [show L.prim=primGreat 108 from rfl]
  have hc:((2:Int)≤(f:Int)∧(f:Int)≤1000)∧(0:Int)≤(n:Int)∧(n:Int)≤1000:=by omega
  simp only [primGreat,if_true,if_pos hc]) (by simp) (Nat.le_refl _)
theorem c45 (f n:Nat)(hf:2≤f∧f≤24)(hn:n≤8)(st:St):run L 45 [.lst .any 1 [I 1,I f],I n] st=some (.tup [.lst .any 1 [I ((n:Int) % f),I ((n:Int) / f)],I 0],st):=by
 rw [run_pure (fn:=ir45) rfl rfl]
 have h1:=fun st=>c107 f n hf hn st
 have h2:=fun st=>c108 f n hf hn st
 have hp:pure 108=false:=rfl
 simp only [ir45,go_sem,reduceIte,Nat.reduceEqDiff,Nat.reduceAdd,Nat.reduceSub,Nat.reduceLeDiff,Nat.reduceLT,reduceCtorEq,Int.reduceLT,Int.reduceLE,Int.reduceEq,Int.reduceBEq,Int.reduceSub,Int.reduceAdd,Int.reduceMul,Int.reduceNeg,Int.reduceToNat,Nat.reduceMul,Nat.reduceBEq,h1,h2,hp]
 rfl
attribute [local go_sem] okRef_qA storable_qA shaped_qA cells_qA isAgg_qA okRef_qB storable_qB shaped_qB cells_qB isAgg_qB
theorem c15f (f:Int)(st:St):run L 15 [.lst .full 1 [I 1,I f]] st=some (.lst .any 1 [I 1,I f],st):=by
 have h:=c15 false [1,f] st
 rw [sl_ne (by simp)] at h
 simp only [List.map_cons,List.map_nil] at h
 exact (run_args (fn:=ir15) (args:=[.lst .full 1 [I 1,I f]]) (args':=[.lst .any 1 [I 1,I f]]) rfl rfl st rfl).trans h
theorem c32q (W D n:Nat)(hW:1≤W∧W≤23)(hD:1≤D∧D≤W)(hn:1≤n∧n≤8)(st:St):run L 32 [.agg [I W,qA 1 n D]] st=some (.tup [sl 1 true ((fullL W (List.replicate n (D:Int))).map I),I 0],st):=by
 have hT:TextOk (W:Int) (List.replicate n (D:Int)):=⟨by omega,by omega,by simp;omega,by simp;omega,fun x hx=>by have:=List.eq_of_mem_replicate hx;omega⟩
 exact (run_args (fn:=ir32) rfl rfl st (by simp only [pubs,pub,pub_qA,pub_sl])).trans (c32 true W _ hT st)
theorem c12q (W D n fit N:Nat)(hW:1≤W∧W≤23)(hD:1≤D∧D≤W)(hn:1≤n∧n≤8)(hf1:1≤fit)(h1:fit*(D+1)≤W+1)(h2:W+1<(fit+1)*(D+1))(hN:LeastN fit n N)(st:St):run L 12 [I ((W:Int)+1),qA 0 n ((D:Int)+1)] st=some (.tup [I N,I 0],st):=by
 have e:(W:Int)+1=((W+1:Nat):Int):=by omega
 have ed:(D:Int)+1=((D+1:Nat):Int):=by omega
 rw [e]
 refine (run_args (fn:=ir12) rfl rfl st (by simp only [pubs,pub,pub_qA,pub_sl])).trans (c12 (W+1) (by omega) ((D:Int)+1) (by omega) n hn.1 hn.2 fit hf1 (fun k hk=> ?_) ?_ N (least_le hf1 hN) hN.1 hN.2 st)
 ·rw [ed] at hk
  have hk:(D+1)*k≤W+1:=by exact_mod_cast hk
  apply Classical.byContradiction
  intro hc
  have:(fit+1)*(D+1)≤k*(D+1):=Nat.mul_le_mul_right _ (by omega)
  rw [Nat.mul_comm k] at this
  omega
 ·rw [ed]
  rw [Nat.mul_comm] at h1
  exact_mod_cast h1
theorem c8 (a b c:Int)(ha:Byte a)(hb:Byte b)(hc:Byte c)(st:St):run L 8 [B8 a,B8 b,B8 c] st=some (B true,st):=by
 rw [run_pure (fn:=ir8) rfl rfl]
 unfold Byte at ha hb hc
 have m1:=mod_range a 23 (by omega)
 have m3:=mod_range c 8 (by omega)
 have wa:=wrap64 a (by omega) (by omega)
 have wb:=wrap64 b (by omega) (by omega)
 have wc:=wrap64 c (by omega) (by omega)
 have ta:=tmod8 (n:=23) ha.1
 have tc:=tmod8 (n:=8) hc.1
 obtain ⟨W,hW⟩: ∃W:Nat,1+a % 23=(W:Int):=⟨(1+a % 23).toNat,by omega⟩
 obtain ⟨n,hn⟩: ∃n:Nat,1+c % 8=(n:Int):=⟨(1+c % 8).toNat,by omega⟩
 have tb:=tmod8 (n:=(W:Int)) hb.1
 have m2:=mod_range b (W:Int) (by omega)
 obtain ⟨D,hD⟩: ∃D:Nat,1+b % (W:Int)=(D:Int):=⟨(1+b % (W:Int)).toNat,by omega⟩
 have rW:1≤W∧W≤23:=by omega
 have rD:1≤D∧D≤W:=by omega
 have rn:1≤n∧n≤8:=by omega
 have w1:=wrap64 (W:Int) (by omega) (by omega)
 have w2:=wrap64 (D:Int) (by omega) (by omega)
 have w3:=wrap64 (n:Int) (by omega) (by omega)
 have w4:=wrap64 ((W:Int)+1) (by omega) (by omega)
 have w5:=wrap64 ((D:Int)+1) (by omega) (by omega)
 have z1:((W:Int)=0)=False:=eq_false (by omega)
 have z2:((D:Int)+1=0)=False:=eq_false (by omega)
 have hf1:1≤(W+1) / (D+1):=(Nat.le_div_iff_mul_le (by omega)).2 (by omega)
 have hf2:(W+1) / (D+1)*(D+1)≤W+1:=Nat.div_mul_le_self _ _
 have hf3:W+1<((W+1) / (D+1)+1)*(D+1):=by
  have h1:=Nat.div_add_mod (W+1) (D+1)
  have h2:=Nat.mod_lt (W+1) (show 0<D+1 by omega)
  rw [Nat.mul_comm] at h1
  rw [Nat.add_mul,Nat.one_mul];omega
 have hf4:(W+1) / (D+1)≤W+1:=Nat.div_le_self _ _
 have hq:((W:Int)+1).tdiv ((D:Int)+1)=(((W+1) / (D+1):Nat):Int):=by
  rw [show (W:Int)+1=((W+1:Nat):Int) by omega,show (D:Int)+1=((D+1:Nat):Int) by omega]
  exact (Int.ofNat_tdiv _ _).symm
 generalize (W+1) / (D+1)=fit at*
 have w6:=wrap64 (fit:Int) (by omega) (by omega)
 have hN:=least_div (fit:=fit) (x:=n) hf1
 have hNn:=least_le hf1 hN
 have hF:(fullL (W:Int) (List.replicate n (D:Int))).length=n / fit+min 1 (n % fit):=by
  have h:=fullR (w:=(W:Int)) (p:=(D:Int)) (n:=n) (fit:=fit) (by omega) hf1 (by exact_mod_cast hf2) (by exact_mod_cast hf3) n 0 (by omega) (by omega)
  unfold fullL
  rw [List.length_replicate]
  rw [Nat.sub_zero] at h
  exact h.uniq hN
 have h32:=fun st=>c32q W D n rW rD rn st
 have h12:=fun st=>c12q W D n fit _ rW rD rn hf1 hf2 hf3 hN st
 simp only [ir8,go_sem,reduceIte,Nat.reduceEqDiff,Nat.reduceAdd,Nat.reduceSub,Nat.reduceLeDiff,Nat.reduceLT,reduceCtorEq,Int.reduceLT,Int.reduceLE,Int.reduceEq,Int.reduceBEq,Int.reduceSub,Int.reduceAdd,Int.reduceMul,Int.reduceNeg,Int.reduceToNat,Nat.reduceMul,Nat.reduceBEq,wa,wb,wc,ta,tb,tc,hW,hn,hD,w1,w2,w3,z1]
 generalize hg:lim (headed pure (run L) true _ lp8_0 _ _) _ _=o
 obtain ⟨x,en,s,rfl,h2⟩: ∃x en s,o=some (x,en,s)∧_:=by rw [←hg];exact loop8_0 W D (by omega) n (by omega) 0 (Nat.zero_le _) _ _ (by simp only [go_sem,reduceIte,Nat.reduceEqDiff,Nat.reduceAdd,Nat.reduceSub,Nat.reduceLeDiff,Nat.reduceLT,reduceCtorEq,Int.reduceLT,Int.reduceLE,Int.reduceEq,Int.reduceBEq,Int.reduceSub,Int.reduceAdd,Int.reduceMul,Int.reduceNeg,Int.reduceToNat,Nat.reduceMul,Nat.reduceBEq,←q_start,Int.natCast_zero,qT,if_true]<;>rfl)
 clear hg
 obtain ⟨rfl,g7,g8,g9,g10,rfl⟩:=h2
 by_cases q:1<fit
 ·have hi1: ∀x y:AV,indexSAV 1 (.lst .any 1 [x,y]) (.v (.int .i64 1))=some (.eptr y 0):=fun _ _=>rfl
  have hi0: ∀x y:AV,indexSAV 1 (.lst .any 1 [x,y]) (.v (.int .i64 0))=some (.eptr x 0):=fun _ _=>rfl
  have h15:=fun st=>c15f fit st
  have h45:=fun st=>c45 fit n (by omega) rn.2 st
  have b1:((1:Int)<(fit:Int))=True:=eq_true (by omega)
  have hs:(n:Int) / (fit:Int)+min 1 ((n:Int) % (fit:Int))=((n / fit+min 1 (n % fit):Nat):Int):=by omega
  generalize n / fit+min 1 (n % fit)=N at*
  have w7:=wrap64 (N:Int) (by omega) (by omega)
  simp only [go_sem,reduceIte,Nat.reduceEqDiff,Nat.reduceAdd,Nat.reduceSub,Nat.reduceLeDiff,Nat.reduceLT,reduceCtorEq,Int.reduceLT,Int.reduceLE,Int.reduceEq,Int.reduceBEq,Int.reduceSub,Int.reduceAdd,Int.reduceMul,Int.reduceNeg,Int.reduceToNat,Nat.reduceMul,Nat.reduceBEq,g7,g8,g9,g10,h32,h12,h15,h45,hi0,hi1,b1,w4,w5,w6,w7,z2,hq,hs,hF,List.length_map,c35]
 ·have hN1:n / fit+min 1 (n % fit)=n:=by
   have e:fit=1:=by omega
   rw [e,Nat.div_one,Nat.mod_one];omega
  rw [hN1] at hF h12
  have b1:((1:Int)<(fit:Int))=False:=eq_false (by omega)
  simp only [go_sem,reduceIte,Nat.reduceEqDiff,Nat.reduceAdd,Nat.reduceSub,Nat.reduceLeDiff,Nat.reduceLT,reduceCtorEq,Int.reduceLT,Int.reduceLE,Int.reduceEq,Int.reduceBEq,Int.reduceSub,Int.reduceAdd,Int.reduceMul,Int.reduceNeg,Int.reduceToNat,Nat.reduceMul,Nat.reduceBEq,g7,g8,g9,g10,h32,h12,b1,w4,w5,w6,z2,hq,hF,List.length_map,c35]
end Go.Proofs.YtdnjagnechibhaaGreatDoor.Vm
