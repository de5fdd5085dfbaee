/- What is proved: what each function of this program computes, as equations on the evaluator. No condition. -/
import Derived.Test.YtdnjagnechibhaaGreatDoorLib
import Derived.Test.YtdnjagnechibhaaGreatDoorSy
import Derived.WalkKit
import Derived.ProofKit
import Derived.OpenShut
import Derived.Test.YtdnjagnechibhaaGreatDoorT0
set_option linter.all false
namespace Go.Proofs.YtdnjagnechibhaaGreatDoor.Vm
open Go Go.Ev
set_option maxRecDepth 100000
attribute [local go_sem] cells_any storable_any ren1_any shaped_ptr cells_ptr storable_ptr ren1_ptr shaped_eptr cells_eptr storable_eptr ren1_eptr shaped_rsl cells_rsl storable_rsl ren1_rsl shaped_int cells_int storable_int ren1_int shaped_bool cells_bool storable_bool ren1_bool shaped_nils cells_nils storable_nils ren1_nils shaped_lst cells_lst storable_lst shaped_fn cells_fn storable_fn ren1_fn shaped_ifc cells_ifc storable_ifc ren1_ifc shaped_agg cells_agg storable_agg ren1_agg shaped_tup cells_tup storable_tup ren1_tup shaped_nif cells_nif storable_nif ren1_nif ren1_lany ren1_lfull ren1_lown len_lst len_rsl len_nil load_ptr load_eptr isRsl_lst isRsl_nil isRsl_rsl elems_nil elems_lst elems_sl isRsl_sl body_eq bodyK_normal bodyK_ret resK_some leaveK_some only_some code_skip code_exit code_ret code_ops code_seq code_cond code_block seqK_normal seqK_ret seqK_exit condK_true condK_false blockK_normal blockK_ret blockK_exit opsK_some ops_nil ops_cons wantK_true wantK_false stepK_some pubs pub pub_sl params okRef_loc storable_loc shaped_loc cells_loc isRsl_loc elems_loc len_loc untips untip untip_sl wantedAV setElems withO isAgg_v isAgg_agg isAgg_lst isAgg_ptr isAgg_fn isAgg_ifc isAgg_rsl isAgg_sl isAgg_loc List.replicate_succ List.replicate_zero opAV valAV aval avals ofVal Env.get setD canon gcAV renAll renEnv renStore renCells ren1_sl cutSt okEnv okStore okRefs okRef okRef_sl bin_int bin_bool bin_lst bin_rsl bin_nil bin_agg cellsEq cellEq isShift intOp boolOp min_int max_int beq_int bne resAV tupAV leave_eq fin_sl fin_loc fins fin_v fin_lst fin_agg fin_tup fin_fn storeAV readCells putCells cells_sl shaped_sl storable_sl fieldAddrAV len_sl goI List.getElem?_cons_zero List.getElem?_cons_succ List.getElem?_nil Option.bind_some Option.map_some List.length_cons List.length_nil List.all_cons List.all_nil Bool.and_true Bool.true_and Bool.and_false Bool.false_and and_true true_and and_false false_and Bool.false_eq_true List.set_cons_zero List.set_cons_succ List.append_nil List.nil_append List.cons_append List.take_zero List.take_succ_cons List.take_nil List.drop_zero List.drop_succ_cons List.map_cons List.map_nil decide_true decide_false beq_self_eq_true Bool.not_true Bool.not_false or_true true_or or_false false_or Nat.zero_add Nat.add_zero Nat.le_refl Nat.lt_irrefl decide_eq_true_eq eq_self_iff_true not_true_eq_false not_false_eq_true List.getD_cons_zero code_loop Nat.zero_le Nat.not_lt_zero Bool.true_beq Bool.false_beq beq_true beq_false ge_iff_le gt_iff_lt keepR keepT ownTop Lpure pus Option.map_none assert_ifc assert_nil idxA_ptr idxA_eptr idxV_agg Int.cast_ofNat_Int Nat.mul_one Nat.zero_mul Int.toNat_natCast Int.toNat_zero setParts withO2 hasKey eqnil_sl nenil_sl eqnil_loc nenil_loc map_nil_iff okRefs_ints renCells_ints
theorem succ64 (i:Nat)(h:i<1000000):IntKind.i64.wrap ((i:Int)+1)=((i+1:Nat):Int):=by
 rw [wrap64]<;>omega
def sums:Int→List Int→List Int
 |s,[]=> [s]
 |s,x::r=>s::sums (s+x) r
theorem sums_len (s:Int)(l:List Int):(sums s l).length=l.length+1:=by
 induction l generalizing s with
 |nil=>rfl
 |cons x r ih=>simp [sums,ih]
theorem sums_get (s:Int)(l:List Int)(i:Nat)(h:i<(sums s l).length):(sums s l)[i]=s+(l.take i).sum:=by
 induction l generalizing s i with
 |nil=>simp [sums] at h;subst h;simp [sums]
 |cons x r ih=>
  cases i with
  |zero=>simp [sums]
  |succ i=>simp [sums];rw [ih];omega
theorem sums_snoc (s:Int)(l:List Int)(x:Int):sums s (l++ [x])=sums s l++ [s+l.sum+x]:=by
 induction l generalizing s with
 |nil=>simp [sums]
 |cons y r ih=>simp [sums,ih,Int.add_assoc]
def seg (l:List Int) (b e:Int):Int:=l.getD e.toNat 0-l.getD b.toNat 0
theorem sums_bound (l:List Int)(hl: ∀x∈l,0≤x∧x≤100): ∀(s:Int),0≤s→∀x∈sums s l,0≤x∧x≤s+100*l.length:=by
 induction l with
 |nil=>intro s hs x hx;simp [sums] at hx;subst hx;simp;exact hs
 |cons y r ih=>
  intro s hs x hx
  have hy:=hl y (by simp)
  simp only [sums,List.mem_cons] at hx
  rcases hx with rfl|hx
  ·simp only [List.length_cons];omega
  ·have:=ih (fun z hz=>hl z (by simp [hz])) (s+y) (by omega) x hx
   simp only [List.length_cons];omega
def fillFrom (l:List Int) (room:Int):Nat→Nat→Nat→List Int→Option (List Int)
 |0,_,_,out=>some out
 |k+1,b,e,out=>if room<seg l ((e:Int)-1) e then none else if room<seg l b e then fillFrom l room k (e-1) (e+1) (out++ [(e:Int)-1]) else fillFrom l room k b (e+1) out
def filled (l:List Int) (room:Int):List Int:=
 match fillFrom l room (l.length-1) 0 1 [] with
 |none=> []
 |some r=>r++ [(l.length:Int)-1]
abbrev fits (l:List Int) (v:Int) (room:Int):Prop:=filled l room≠[]∧((filled l room).length:Int)≤v
def liAV (k:Nat) (o:List Int):AV:=loc 1 k (o.map I)
def liT (k:Nat) (o:List Int):List Nat:=locT k (o.map I)
def liAcc (k:Nat) (o:List Int):List (Nat×Nat):=if (o.map I).length=k then [] else [(0,(o.map I).length)]
theorem okRef_li (n k:Nat)(o:List Int):okRef n (liAV k o)=true:=okRef_loc _ _ _ _
theorem storable_li (k:Nat)(o:List Int):storable (liAV k o)=true:=storable_loc _ _ _
theorem shaped_li (k:Nat)(o:List Int):(liAV k o).shaped=true:=shaped_loc _ _ _
theorem cells_li (k:Nat)(o:List Int):(liAV k o).cells=[liAV k o]:=cells_loc _ _ _
theorem ren1_li (k:Nat)(o:List Int):ren1 0 (liT k o) [] (liAV k o)=(liAV k o,liAcc k o):=ren1_loc (k:=k) 1 (o.map I)
theorem liAcc_snd (k:Nat)(o:List Int):(liAcc k o).map (fun x=>x.2)=liT k o:=by
 unfold liAcc liT locT;split<;>rfl
theorem fin_li1 (st:St)(o:List Int):fin st (liAV 1 o)=sl 1 false (o.map I):=fin_loc st 1 1 _
theorem fin_li0 (st:St)(o:List Int):fin st (liAV 0 o)=sl 1 true (o.map I):=fin_loc st 1 0 _
theorem pub_li1 (o:List Int):pub (liAV 1 o)=sl 1 false (o.map I):=pub_loc 1 1 _
theorem pub_li0 (o:List Int):pub (liAV 0 o)=sl 1 true (o.map I):=pub_loc 1 0 _
theorem append_li (k:Nat)(o:List Int)(x:Int)(s:List (List AV))(hk:k≤o.length)(h:o.length<1000000):appendAV 1 (liAV k o) [I x] ⟨s,liT k o⟩=some (liAV k (o++ [x]),⟨s,liT k (o++ [x])⟩):=
 append_locm (z:=1) (k:=k) I o x s hk (by unfold maxGrow;omega)
theorem index_li1 (o:List Int)(i:Nat)(h:i<o.length):indexSAV 1 (liAV 1 o) (.v (.int .i64 i))=some (.eptr (I (o.getD i 0)) 0):=by
 unfold liAV
 rw [index_loc_if (d:=0) 1 1 I o .i64 i (.inr (by omega)),if_pos (by omega)]
 simp
theorem li_lit (x:Int): .lst .full 1 [I x]=liAV 1 [x]:=by simp [liAV,loc]
theorem liT_lit (x:Int):liT 1 [x]=[]:=rfl
theorem li_start: .v (.slice none 0 0)=liAV 0 []:=rfl
theorem liT_nil:liT 0 []=[]:=rfl
attribute [local go_sem] okRef_li storable_li shaped_li cells_li fin_li1 fin_li0 pub_li1 pub_li0
abbrev txAV (nl:Bool) (w:Int) (ws:List Int):AV:=.agg [I w,sl 1 nl (ws.map I)]
structure TextOk (w:Int) (ws:List Int):Prop where
 w1:1≤w
 w2:w≤40
 n1:0<ws.length
 n2:ws.length≤10
 each: ∀x∈ws,1≤x∧x≤w
abbrev lsum (ws:List Int):List Int:=sums 0 (ws.map (· +1))
theorem lsum_len (ws:List Int):(lsum ws).length=ws.length+1:=by simp [sums_len]
theorem lsum_take (ws:List Int)(i:Nat)(h:i<ws.length):lsum (ws.take (i+1))=lsum (ws.take i)++ [(lsum (ws.take i)).getD i 0+ws[i]+1]:=by
 have ht:ws.take (i+1)=ws.take i++ [ws[i]]:=(List.take_append_getElem h).symm
 unfold lsum
 rw [ht,List.map_append,List.map_cons,List.map_nil,sums_snoc]
 have hl:i<(sums 0 ((ws.take i).map (· +1))).length:=by simp [sums_len];omega
 have e:(sums 0 ((ws.take i).map (· +1))).getD i 0=((ws.take i).map (· +1)).sum:=by
  rw [List.getD_eq_getElem?_getD,List.getElem?_eq_getElem hl,Option.getD_some,sums_get,List.take_of_length_le (l:=(ws.take i).map (· +1)) (by rw [List.length_map,List.length_take];omega)]
  omega
 rw [e]
 congr 2
 omega
theorem lsum_bound {w:Int} {ws:List Int} (h: ∀x∈ws,1≤x∧x≤w)(hw:w≤40): ∀x∈lsum ws,0≤x∧x≤100*ws.length:=by
 intro x hx
 have:=sums_bound (ws.map (· +1)) (by intro y hy;obtain ⟨z,hz,rfl⟩:=List.mem_map.1 hy;have:=h z hz;omega) 0 (by omega) x hx
 simpa using this
theorem getD_bound {l:List Int} {b:Int} (h: ∀x∈l,0≤x∧x≤b)(hb:0≤b)(i:Nat):0≤l.getD i 0∧l.getD i 0≤b:=by
 rw [List.getD_eq_getElem?_getD]
 by_cases hi:i<l.length
 ·rw [List.getElem?_eq_getElem hi];exact h _ (List.getElem_mem hi)
 ·rw [List.getElem?_eq_none (by omega)];simpa using hb
theorem index_ints (nl:Bool)(xs:List Int)(i:Nat)(h:i<xs.length):indexSAV 1 (sl 1 nl (xs.map I)) (.v (.int .i64 i))=some (.eptr (.v (.int .i64 xs[i])) 0):=by
 rw [index_sl _ _ _ _ _ (by omega) (by simpa using h)]
 simp
theorem loop82 (nl:Bool)(w:Int)(ws:List Int)(hT:TextOk w ws)(i:Nat)(hok:i≤ws.length)(env:Env)(st:St)
  (hg:gcAV true 3 0 (canon env [1,2,4,34,35,36]) st=([(1,.ptr 0 0),(2,.ptr 1 0),(4,.ptr 2 0),(34,sl 1 nl (ws.map I)),(35,I ws.length),(36,I i)],⟨[[I w,sl 1 nl (ws.map I)],[I 0,sl 1 true []],[I w,liAV 1 (lsum (ws.take i))]],liT 1 (lsum (ws.take i))⟩)):
  ∃x_1 en s,lim (headed pure (run L) true [1,2,4,34,35,36] lp82_0 3 0) env st=some (x_1,en,s)∧(x_1=.exit 1∧en.get 2=.ptr 1 0∧en.get 4=.ptr 2 0∧s=⟨[[I w,sl 1 nl (ws.map I)],[I 0,sl 1 true []],[I w,liAV 1 (lsum ws)]],liT 1 (lsum ws)⟩):=by
 refine loop_wp (α:=Nat) (fun i=>ws.length-i) (fun i=>i≤ws.length) (fun i=>([(1,.ptr 0 0),(2,.ptr 1 0),(4,.ptr 2 0),(34,sl 1 nl (ws.map I)),(35,I ws.length),(36,I i)],⟨[[I w,sl 1 nl (ws.map I)],[I 0,sl 1 true []],[I w,liAV 1 (lsum (ws.take i))]],liT 1 (lsum (ws.take i))⟩)) (fun i x_1 en s=>x_1=.exit 1∧en.get 2=.ptr 1 0∧en.get 4=.ptr 2 0∧s=⟨[[I w,sl 1 nl (ws.map I)],[I 0,sl 1 true []],[I w,liAV 1 (lsum ws)]],liT 1 (lsum ws)⟩) (fun i hok=> ?_) i hok env st hg
 by_cases h:i<ws.length
 ·have hs:=succ64 i (by have:=hT.n2;omega)
  have hlt:((i:Int)<(ws.length:Int))=True:=eq_true (by omega)
  have hx:=index_ints nl ws i h
  have hb:=hT.each ws[i] (List.getElem_mem h)
  have h12:=hT.n2
  have hlen:(lsum (ws.take i)).length=i+1:=by rw [lsum_len,List.length_take];omega
  have hx2:=index_li1 (lsum (ws.take i)) i (by omega)
  have hbd:=getD_bound (lsum_bound (ws:=ws.take i) (fun x hx=>hT.each x (List.mem_of_mem_take hx)) hT.w2) (by omega) i
  have h10:(ws.take i).length≤10:=by have:=hT.n2;rw [List.length_take];omega
  have hw1:=wrap64 ((lsum (ws.take i)).getD i 0+ws[i]) (by omega) (by have:=hT.w2;omega)
  have hw2:=wrap64 ((lsum (ws.take i)).getD i 0+ws[i]+1) (by omega) (by have:=hT.w2;omega)
  have happ:=fun s=>append_li 1 (lsum (ws.take i)) ((lsum (ws.take i)).getD i 0+ws[i]+1) s (by omega) (by omega)
  rw [←lsum_take ws i h] at happ
  generalize hA:lsum (ws.take i)=A at*
  generalize hB:lsum (ws.take (i+1))=B at*
  have c1:(ws[i]<1)=False:=eq_false (by omega)
  have c2:(w<ws[i])=False:=eq_false (by omega)
  generalize ws[i]=c at*
  have hren: ∀o:List Int,ren1 0 (liT 1 o) [] (liAV 1 o)=(liAV 1 o,liAcc 1 o):=ren1_li 1
  simp only [go_sem,reduceIte,Nat.reduceEqDiff,Nat.reduceAdd,Nat.reduceSub,Nat.reduceLeDiff,Nat.reduceLT,reduceCtorEq,Int.reduceLT,Int.reduceLE,Int.reduceEq,Int.reduceBEq,Int.reduceSub,Int.reduceAdd,Int.reduceMul,Int.reduceNeg,Int.reduceToNat,Nat.reduceMul,Nat.reduceBEq,index_rsl_if,setm,make_ints,condK_dec,wantK_dec,not_dec,and_dec,or_dec,seqK_ite,seqK_none,blockK_ite,blockK_none,opsK_ite,opsK_none,stepK_ite,stepK_none,bodyK_ite,bodyK_none,resK_ite,resK_none,leaveK_ite,leaveK_none,only_ite,only_none,bind_ite,gives_some,gives_none,gives_ite,then_normal,then_ret,then_exit,then_none,then_ite,Option.bind_none,Bool.not_eq_true',decide_eq_false_iff_not,Bool.and_eq_true,Bool.or_eq_true,Option.some.injEq,Int.not_lt,Int.not_le,lp82_0,hlt,hx,c1,c2,hx2,hw1,hw2,happ,hs]
  refine ⟨(i+1),by simp only [go_sem,reduceIte,Nat.reduceEqDiff,Nat.reduceAdd,Nat.reduceSub,Nat.reduceLeDiff,Nat.reduceLT,reduceCtorEq,Int.reduceLT,Int.reduceLE,Int.reduceEq,Int.reduceBEq,Int.reduceSub,Int.reduceAdd,Int.reduceMul,Int.reduceNeg,Int.reduceToNat,Nat.reduceMul,Nat.reduceBEq,ren1_locm,loc_tips,locT_eq,hB,hren,liAcc_snd]<;>rfl,?_,?_,fun x en s hq=> ?_⟩
  all_goals first|exact hq|omega
 ·have hlt:((i:Int)<(ws.length:Int))=False:=eq_false (by omega)
  have ht:ws.take i=ws:=List.take_of_length_le (by omega)
  rw [ht]
  simp only [go_sem,reduceIte,Nat.reduceEqDiff,Nat.reduceAdd,Nat.reduceSub,Nat.reduceLeDiff,Nat.reduceLT,reduceCtorEq,Int.reduceLT,Int.reduceLE,Int.reduceEq,Int.reduceBEq,Int.reduceSub,Int.reduceAdd,Int.reduceMul,Int.reduceNeg,Int.reduceToNat,Nat.reduceMul,Nat.reduceBEq,index_rsl_if,setm,make_ints,condK_dec,wantK_dec,not_dec,and_dec,or_dec,seqK_ite,seqK_none,blockK_ite,blockK_none,opsK_ite,opsK_none,stepK_ite,stepK_none,bodyK_ite,bodyK_none,resK_ite,resK_none,leaveK_ite,leaveK_none,only_ite,only_none,bind_ite,gives_some,gives_none,gives_ite,then_normal,then_ret,then_exit,then_none,then_ite,Option.bind_none,Bool.not_eq_true',decide_eq_false_iff_not,Bool.and_eq_true,Bool.or_eq_true,Option.some.injEq,Int.not_lt,Int.not_le,lp82_0,hlt]
theorem c82 (nl:Bool)(w:Int)(ws:List Int)(hT:TextOk w ws)(st:St):run L 82 [txAV nl w ws] st=some (.tup [.agg [I w,sl 1 false ((lsum ws).map I)],I 0],st):=by
 rw [run_pure (fn:=ir82) rfl rfl]
 have q1:(w<1)=False:=eq_false (by have:=hT.w1;omega)
 have q2:(40<w)=False:=eq_false (by have:=hT.w2;omega)
 have q3:((ws.length:Int)=0)=False:=eq_false (by have:=hT.n1;omega)
 have q4:((10:Int)<(ws.length:Int))=False:=eq_false (by have:=hT.n2;omega)
 simp only [ir82,go_sem,reduceIte,Nat.reduceEqDiff,Nat.reduceAdd,Nat.reduceSub,Nat.reduceLeDiff,Nat.reduceLT,reduceCtorEq,Int.reduceLT,Int.reduceLE,Int.reduceEq,Int.reduceBEq,Int.reduceSub,Int.reduceAdd,Int.reduceMul,Int.reduceNeg,Int.reduceToNat,Nat.reduceMul,Nat.reduceBEq,q1,q2,q3,q4,List.length_map]
 generalize hg:lim (headed pure (run L) true _ lp82_0 _ _) _ _=o
 obtain ⟨x,en,s,rfl,h2⟩: ∃x en s,o=some (x,en,s)∧_:=by rw [←hg];exact loop82 nl w ws hT 0 (Nat.zero_le _) _ _ (by simp only [go_sem,reduceIte,Nat.reduceEqDiff,Nat.reduceAdd,Nat.reduceSub,Nat.reduceLeDiff,Nat.reduceLT,reduceCtorEq,Int.reduceLT,Int.reduceLE,Int.reduceEq,Int.reduceBEq,Int.reduceSub,Int.reduceAdd,Int.reduceMul,Int.reduceNeg,Int.reduceToNat,Nat.reduceMul,Nat.reduceBEq,List.take_zero,lsum,sums,List.map_nil,li_lit,liT_lit,←sl_nil]<;>rfl)
 clear hg
 obtain ⟨rfl,h3,h4,rfl⟩:=h2
 simp only [go_sem,reduceIte,Nat.reduceEqDiff,Nat.reduceAdd,Nat.reduceSub,Nat.reduceLeDiff,Nat.reduceLT,reduceCtorEq,Int.reduceLT,Int.reduceLE,Int.reduceEq,Int.reduceBEq,Int.reduceSub,Int.reduceAdd,Int.reduceMul,Int.reduceNeg,Int.reduceToNat,Nat.reduceMul,Nat.reduceBEq,h3,h4]
abbrev opAV' (w:Int) (l:List Int):AV:=.agg [I w,sl 1 false (l.map I)]
theorem c83 (w:Int)(l:List Int)(h:1≤l.length)(h2:l.length<1000)(st:St):run L 83 [opAV' w l] st=some (I ((l.length-1:Nat):Int),st):=by
 rw [run_pure (fn:=ir83) rfl rfl]
 have hw:IntKind.i64.wrap ((l.length:Int)-1)=((l.length-1:Nat):Int):=by rw [wrap64]<;>omega
 simp only [ir83,go_sem,reduceIte,Nat.reduceEqDiff,Nat.reduceAdd,Nat.reduceSub,Nat.reduceLeDiff,Nat.reduceLT,reduceCtorEq,Int.reduceLT,Int.reduceLE,Int.reduceEq,Int.reduceBEq,Int.reduceSub,Int.reduceAdd,Int.reduceMul,Int.reduceNeg,Int.reduceToNat,Nat.reduceMul,Nat.reduceBEq,List.length_map,hw]
attribute [local go_sem] okRef_li storable_li shaped_li cells_li fin_li1 fin_li0 pub_li1 pub_li0
theorem c142 (w:Int)(hw0:0≤w∧w≤1000)(l:List Int)(hl: ∀x∈l,0≤x∧x≤100000)(b e:Nat)(hb:b<l.length)(he:e<l.length)(st:St):
  run L 142 [opAV' w l,.agg [I b,I e]] st=some (I (w+1-seg l b e),st):=by
 rw [run_pure (fn:=ir142) rfl rfl]
 have h1:=getD_bound hl (by omega) b
 have h2:=getD_bound hl (by omega) e
 have hs:seg l b e=l.getD e 0-l.getD b 0:=by simp [seg]
 have w1:=wrap64 (w+1) (by omega) (by omega)
 have w2:=wrap64 (l.getD e 0-l.getD b 0) (by omega) (by omega)
 have w3:=wrap64 (w+1-(l.getD e 0-l.getD b 0)) (by omega) (by omega)
 have x1:=index_sl_if 1 false I l 0 .i64 b
 have x2:=index_sl_if 1 false I l 0 .i64 e
 rw [if_pos (by omega)] at x1 x2
 simp only [Int.toNat_natCast] at x1 x2
 rw [hs]
 simp only [ir142,go_sem,reduceIte,Nat.reduceEqDiff,Nat.reduceAdd,Nat.reduceSub,Nat.reduceLeDiff,Nat.reduceLT,reduceCtorEq,Int.reduceLT,Int.reduceLE,Int.reduceEq,Int.reduceBEq,Int.reduceSub,Int.reduceAdd,Int.reduceMul,Int.reduceNeg,Int.reduceToNat,Nat.reduceMul,Nat.reduceBEq,x1,x2,w1,w2,w3]
theorem lsum_getD (ws:List Int)(i:Nat)(h:i≤ws.length):(lsum ws).getD i 0=((ws.take i).map (· +1)).sum:=by
 have hl:i<(lsum ws).length:=by rw [lsum_len];omega
 rw [List.getD_eq_getElem?_getD,List.getElem?_eq_getElem hl,Option.getD_some,sums_get,←List.map_take]
 omega
theorem lsum_seg (ws:List Int)(b:Nat)(h:b<ws.length):seg (lsum ws) b ((b+1:Nat):Int)=ws[b]+1:=by
 simp only [seg,Int.toNat_natCast]
 rw [lsum_getD ws (b+1) (by omega),lsum_getD ws b (by omega),←List.take_append_getElem h,List.map_append,List.sum_append]
 simp only [List.map_cons,List.map_nil,List.sum_cons,List.sum_nil]
 omega
attribute [local go_sem] okRef_li storable_li shaped_li cells_li fin_li1 fin_li0 pub_li1 pub_li0
abbrev B8 (n:Int):AV:=.v (.int .u8 n)
def Byte (n:Int):Prop:=0≤n∧n≤255
theorem okRefsB (n:Nat)(xs:List Int):okRefs n (xs.map B8)=true:=okRefs_map B8 n (fun _=>rfl) xs
theorem renCellsB (n:Nat)(tips:List Nat)(acc:List (Nat×Nat))(xs:List Int):renCells n tips acc (xs.map B8)=(xs.map B8,acc):=renCells_map B8 n tips (fun _ _=>rfl) xs acc
theorem pubsB (xs:List Int):pubs (xs.map B8)=xs.map B8:=pubs_map B8 (fun _=>rfl) xs
theorem storableB (xs:List Int):(xs.map B8).all storable=true:=by
 rw [List.all_eq_true];intro x hx;rw [List.mem_map] at hx;obtain ⟨n,_,rfl⟩:=hx;rfl
theorem getB (zs:List Int)(a:Nat)(h:a<zs.length):(zs.map B8)[a]? =some (B8 (zs.getD a 0)):=by
 rw [getm B8 zs 0 a,if_pos h]
theorem byte_getD {l:List Int} (h: ∀n∈l,Byte n)(i:Nat):Byte (l.getD i 0):=by
 rw [List.getD_eq_getElem?_getD]
 by_cases hi:i<l.length
 ·rw [List.getElem?_eq_getElem hi];exact h _ (List.getElem_mem hi)
 ·rw [List.getElem?_eq_none (by omega)];exact ⟨by simp,by simp⟩
theorem mod_range (a b:Int)(hb:0<b):0≤a % b∧a % b<b:=⟨Int.emod_nonneg a (by omega),Int.emod_lt_of_pos a hb⟩
theorem tmod8 {a n:Int} (h:0≤a):a.tmod n=a % n:=Int.tmod_eq_emod_of_nonneg h
def setW (w:Int) (zs:List Int) (k:Nat):List Int:=(zs.take k).map fun x=>1+x % w
theorem setW_succ (w:Int)(zs:List Int)(i:Nat)(h:i<zs.length):setW w zs (i+1)=setW w zs i++ [1+zs.getD i 0 % w]:=by
 unfold setW
 rw [List.take_succ_eq_append_getElem h,List.map_append,List.getD_eq_getElem?_getD,List.getElem?_eq_getElem h]
 rfl
theorem loop31 (w:Int)(hw:1≤w∧w≤40)(zs:List Int)(hzl:zs.length=8)(hz: ∀a∈zs,Byte a)(k:Nat)(hk:k≤8)(i:Nat)(hok:i≤k)(env:Env)(st:St)
  (hg:gcAV true 3 0 (canon env [8,9,21,22,23]) st=([(8,.ptr 1 0),(9,.ptr 2 0),(21,.rsl 0 0 k 8 1 false),(22,I k),(23,I i)],⟨[zs.map B8,[I 0,sl 1 true []],[I w,liAV 0 (setW w zs i)]],liT 0 (setW w zs i)⟩)):
  ∃x_1 en s,lim (headed pure (run L) true [8,9,21,22,23] lp31_0 3 0) env st=some (x_1,en,s)∧(x_1=.exit 0∧en.get 8=.ptr 1 0∧en.get 9=.ptr 2 0∧s=⟨[zs.map B8,[I 0,sl 1 true []],[I w,liAV 0 (setW w zs k)]],liT 0 (setW w zs k)⟩):=by
 refine loop_wp (α:=Nat) (fun i=>k-i) (fun i=>i≤k) (fun i=>([(8,.ptr 1 0),(9,.ptr 2 0),(21,.rsl 0 0 k 8 1 false),(22,I k),(23,I i)],⟨[zs.map B8,[I 0,sl 1 true []],[I w,liAV 0 (setW w zs i)]],liT 0 (setW w zs i)⟩)) (fun i x_1 en s=>x_1=.exit 0∧en.get 8=.ptr 1 0∧en.get 9=.ptr 2 0∧s=⟨[zs.map B8,[I 0,sl 1 true []],[I w,liAV 0 (setW w zs k)]],liT 0 (setW w zs k)⟩) (fun i hok=> ?_) i hok env st hg
 by_cases h:i<k
 ·have hs:=succ64 i (by omega)
  have hlt:((i:Int)<(k:Int))=True:=eq_true (by omega)
  have hi0:((0:Int)≤(i:Int))=True:=eq_true (by omega)
  have hg:=getB zs i (by omega)
  have hb:=byte_getD hz i
  have hl:(setW w zs i).length≤8:=by simp [setW];omega
  have happ:=fun s=>append_li 0 (setW w zs i) (1+zs.getD i 0 % w) s (by omega) (by omega)
  rw [←setW_succ w zs i (by omega)] at happ
  generalize zs.getD i 0=c at*
  unfold Byte at hb
  have hw1:=wrap64 c (by omega) (by omega)
  have hm:=mod_range c w (by omega)
  have hw2:=wrap64 (1+c % w) (by omega) (by omega)
  have hne:(w=0)=False:=eq_false (by omega)
  have htm:=tmod8 (n:=w) hb.1
  have hren: ∀o:List Int,ren1 0 (liT 0 o) [] (liAV 0 o)=(liAV 0 o,liAcc 0 o):=ren1_li 0
  generalize setW w zs i=A at*
  generalize hB:setW w zs (i+1)=B at*
  simp only [go_sem,reduceIte,Nat.reduceEqDiff,Nat.reduceAdd,Nat.reduceSub,Nat.reduceLeDiff,Nat.reduceLT,reduceCtorEq,Int.reduceLT,Int.reduceLE,Int.reduceEq,Int.reduceBEq,Int.reduceSub,Int.reduceAdd,Int.reduceMul,Int.reduceNeg,Int.reduceToNat,Nat.reduceMul,Nat.reduceBEq,index_rsl_if,setm,make_ints,condK_dec,wantK_dec,not_dec,and_dec,or_dec,seqK_ite,seqK_none,blockK_ite,blockK_none,opsK_ite,opsK_none,stepK_ite,stepK_none,bodyK_ite,bodyK_none,resK_ite,resK_none,leaveK_ite,leaveK_none,only_ite,only_none,bind_ite,gives_some,gives_none,gives_ite,then_normal,then_ret,then_exit,then_none,then_ite,Option.bind_none,Bool.not_eq_true',decide_eq_false_iff_not,Bool.and_eq_true,Bool.or_eq_true,Option.some.injEq,Int.not_lt,Int.not_le,lp31_0,hlt,hi0,hg,hw1,hw2,hne,htm,happ,hs]
  refine ⟨(i+1),by simp only [go_sem,reduceIte,Nat.reduceEqDiff,Nat.reduceAdd,Nat.reduceSub,Nat.reduceLeDiff,Nat.reduceLT,reduceCtorEq,Int.reduceLT,Int.reduceLE,Int.reduceEq,Int.reduceBEq,Int.reduceSub,Int.reduceAdd,Int.reduceMul,Int.reduceNeg,Int.reduceToNat,Nat.reduceMul,Nat.reduceBEq,ren1_locm,loc_tips,locT_eq,hren,liAcc_snd,okRefsB,renCellsB,hB]<;>rfl,?_,?_,fun x en s hq=> ?_⟩
  all_goals first|exact hq|omega
 ·have hlt:((i:Int)<(k:Int))=False:=eq_false (by omega)
  obtain rfl:i=k:=by omega
  simp only [go_sem,reduceIte,Nat.reduceEqDiff,Nat.reduceAdd,Nat.reduceSub,Nat.reduceLeDiff,Nat.reduceLT,reduceCtorEq,Int.reduceLT,Int.reduceLE,Int.reduceEq,Int.reduceBEq,Int.reduceSub,Int.reduceAdd,Int.reduceMul,Int.reduceNeg,Int.reduceToNat,Nat.reduceMul,Nat.reduceBEq,index_rsl_if,setm,make_ints,condK_dec,wantK_dec,not_dec,and_dec,or_dec,seqK_ite,seqK_none,blockK_ite,blockK_none,opsK_ite,opsK_none,stepK_ite,stepK_none,bodyK_ite,bodyK_none,resK_ite,resK_none,leaveK_ite,leaveK_none,only_ite,only_none,bind_ite,gives_some,gives_none,gives_ite,then_normal,then_ret,then_exit,then_none,then_ite,Option.bind_none,Bool.not_eq_true',decide_eq_false_iff_not,Bool.and_eq_true,Bool.or_eq_true,Option.some.injEq,Int.not_lt,Int.not_le,lp31_0,hlt]
theorem c31 (a m:Int)(ha:0≤a∧a≤255)(hm:1≤m∧m≤39)(k:Int)(hk:Byte k)(zs:List Int)(hzl:zs.length=8)(hz: ∀x∈zs,Byte x)(st:St):
  run L 31 [I a,I m,B8 k,.agg (zs.map B8)] st=some (txAV true (1+a % m) (setW (1+a % m) zs (1+k % 8).toNat),st):=by
 rw [run_pure (fn:=ir31) rfl rfl]
 have h1:=mod_range a m (by omega)
 have h2:=mod_range k 8 (by omega)
 have hw1:=wrap64 (1+a % m) (by omega) (by omega)
 unfold Byte at hk
 have hw2:=wrap64 k (by omega) (by omega)
 have hw3:=wrap64 (1+k % 8) (by omega) (by omega)
 have t1:=tmod8 (n:=m) ha.1
 have t2:=tmod8 (n:=8) hk.1
 have n1:(m=0)=False:=eq_false (by omega)
 have hK:(((1+k % 8).toNat:Nat):Int)=1+k % 8:=by omega
 have hK8:(1+k % 8).toNat≤8:=by omega
 have hp:(0≤1+k % 8)=True:=eq_true (by omega)
 generalize hKK:(1+k % 8).toNat=K at*
 have hle:(K≤8)=True:=eq_true hK8
 have hsl:sliceaAV 8 1 false (.ptr 0 0) none (some (I (1+k % 8))) none=some (.rsl 0 0 K 8 1 false):=by
  rw [←hK]
  simp [sliceaAV,natOr,natOf,hK8]
 simp only [ir31,go_sem,reduceIte,Nat.reduceEqDiff,Nat.reduceAdd,Nat.reduceSub,Nat.reduceLeDiff,Nat.reduceLT,reduceCtorEq,Int.reduceLT,Int.reduceLE,Int.reduceEq,Int.reduceBEq,Int.reduceSub,Int.reduceAdd,Int.reduceMul,Int.reduceNeg,Int.reduceToNat,Nat.reduceMul,Nat.reduceBEq,hw1,hw2,hw3,t1,t2,n1,hsl,List.length_map,hzl,okRefsB,storableB,pubsB]
 generalize hg:lim (headed pure (run L) true _ lp31_0 _ _) _ _=o
 obtain ⟨x,en,s,rfl,h2⟩: ∃x en s,o=some (x,en,s)∧_:=by rw [←hg];exact loop31 (1+a % m) (by omega) zs hzl hz K hK8 0 (Nat.zero_le _) _ _ (by simp only [go_sem,reduceIte,Nat.reduceEqDiff,Nat.reduceAdd,Nat.reduceSub,Nat.reduceLeDiff,Nat.reduceLT,reduceCtorEq,Int.reduceLT,Int.reduceLE,Int.reduceEq,Int.reduceBEq,Int.reduceSub,Int.reduceAdd,Int.reduceMul,Int.reduceNeg,Int.reduceToNat,Nat.reduceMul,Nat.reduceBEq,Int.natCast_zero,hK,setW,List.take_zero,List.map_nil,←li_start,liT_nil,←sl_nil,okRefsB,renCellsB]<;>rfl)
 clear hg
 obtain ⟨rfl,h3,h4,rfl⟩:=h2
 simp only [go_sem,reduceIte,Nat.reduceEqDiff,Nat.reduceAdd,Nat.reduceSub,Nat.reduceLeDiff,Nat.reduceLT,reduceCtorEq,Int.reduceLT,Int.reduceLE,Int.reduceEq,Int.reduceBEq,Int.reduceSub,Int.reduceAdd,Int.reduceMul,Int.reduceNeg,Int.reduceToNat,Nat.reduceMul,Nat.reduceBEq,h3,h4]
end Go.Proofs.YtdnjagnechibhaaGreatDoor.Vm
namespace Go.Proofs.YtdnjagnechibhaaGreatDoor.Vm
open Go Go.Ev Go.ChangeShapes Go.WideShapes Go.ChangeAt Go.RowKit
set_option maxRecDepth 100000
attribute [local go_sem] cells_any storable_any ren1_any shaped_ptr cells_ptr storable_ptr ren1_ptr shaped_eptr cells_eptr storable_eptr ren1_eptr shaped_rsl cells_rsl storable_rsl ren1_rsl shaped_int cells_int storable_int ren1_int shaped_bool cells_bool storable_bool ren1_bool shaped_nils cells_nils storable_nils ren1_nils shaped_lst cells_lst storable_lst shaped_fn cells_fn storable_fn ren1_fn shaped_ifc cells_ifc storable_ifc ren1_ifc shaped_agg cells_agg storable_agg ren1_agg shaped_tup cells_tup storable_tup ren1_tup shaped_nif cells_nif storable_nif ren1_nif ren1_lany ren1_lfull ren1_lown len_lst len_rsl len_nil load_ptr load_eptr isRsl_lst isRsl_nil isRsl_rsl elems_nil elems_lst elems_sl isRsl_sl body_eq bodyK_normal bodyK_ret resK_some leaveK_some only_some code_skip code_exit code_ret code_ops code_seq code_cond code_block seqK_normal seqK_ret seqK_exit condK_true condK_false blockK_normal blockK_ret blockK_exit opsK_some ops_nil ops_cons wantK_true wantK_false stepK_some pubs pub pub_sl params okRef_loc storable_loc shaped_loc cells_loc isRsl_loc elems_loc len_loc untips untip untip_sl wantedAV setElems withO isAgg_v isAgg_agg isAgg_lst isAgg_ptr isAgg_fn isAgg_ifc isAgg_rsl isAgg_sl isAgg_loc List.replicate_succ List.replicate_zero opAV valAV aval avals ofVal Env.get setD canon gcAV renAll renEnv renStore renCells ren1_sl cutSt okEnv okStore okRefs okRef okRef_sl bin_int bin_bool bin_lst bin_rsl bin_nil bin_agg cellsEq cellEq isShift intOp boolOp min_int max_int beq_int bne resAV tupAV leave_eq fin_sl fin_loc fins fin_v fin_lst fin_agg fin_tup fin_fn storeAV readCells putCells cells_sl shaped_sl storable_sl fieldAddrAV len_sl goI List.getElem?_cons_zero List.getElem?_cons_succ List.getElem?_nil Option.bind_some Option.map_some List.length_cons List.length_nil List.all_cons List.all_nil Bool.and_true Bool.true_and Bool.and_false Bool.false_and and_true true_and and_false false_and Bool.false_eq_true List.set_cons_zero List.set_cons_succ List.append_nil List.nil_append List.cons_append List.take_zero List.take_succ_cons List.take_nil List.drop_zero List.drop_succ_cons List.map_cons List.map_nil decide_true decide_false beq_self_eq_true Bool.not_true Bool.not_false or_true true_or or_false false_or Nat.zero_add Nat.add_zero Nat.le_refl Nat.lt_irrefl decide_eq_true_eq eq_self_iff_true not_true_eq_false not_false_eq_true List.getD_cons_zero code_loop Nat.zero_le Nat.not_lt_zero Bool.true_beq Bool.false_beq beq_true beq_false ge_iff_le gt_iff_lt keepR keepT ownTop Lpure pus Option.map_none assert_ifc assert_nil idxA_ptr idxA_eptr idxV_agg Int.cast_ofNat_Int Nat.mul_one Nat.zero_mul Int.toNat_natCast Int.toNat_zero setParts withO2 hasKey eqnil_sl nenil_sl eqnil_loc nenil_loc map_nil_iff okRefs_ints renCells_ints
theorem cells5:Tryz.prog.cellsOf 5=1:=by kernel_rfl
theorem cells22:Tryz.prog.cellsOf 22=8:=by kernel_rfl
theorem one_byte {d:Nat} {bs:List AV} (h:Sh Tryz.prog (d+1) 5 bs): ∃n:Int,bs=[B8 n]∧Byte n:=by
 simp only [Sh,Tryz.underlying5] at h
 obtain ⟨n,h1,h2⟩:=h
 have hb:=bounds_u8 h2
 exact ⟨n,h1,by unfold Byte;omega⟩
theorem all_bytes: ∀(k:Nat) (bs:List AV),bs.length=k→(∀i,i<k→∃n:Int,(bs.drop i).take 1=[B8 n]∧Byte n)→∃zs:List Int,bs=zs.map B8∧zs.length=k∧∀n∈zs,Byte n
 |0,bs,hl,_=>⟨[],by simpa using hl,rfl,by simp⟩
 |k+1,b::bs,hl,h=>by
  obtain ⟨n,h1,h2⟩:=h 0 (by omega)
  simp only [List.drop_zero,List.take_succ_cons,List.take_zero,List.cons.injEq,and_true] at h1
  obtain ⟨zs,g1,g2,g3⟩:=all_bytes k bs (by simpa using hl) (fun i hi=>by
   obtain ⟨x,q1,q2⟩:=h (i+1) (by omega)
   exact ⟨x,by simpa using q1,q2⟩)
  refine ⟨n::zs,by rw [List.map_cons,←h1,←g1],by simp [g2],fun x hx=> ?_⟩
  rw [List.mem_cons] at hx
  rcases hx with rfl|hx
  ·exact h2
  ·exact g3 x hx
theorem sh_eight {a:AV} (h:ShV Tryz.prog 8 22 a): ∃zs:List Int,a=.agg (zs.map B8)∧zs.length=8∧∀n∈zs,Byte n:=by
 unfold ShV at h
 rw [if_pos (by unfold aggB;rw [Tryz.underlying22])] at h
 obtain ⟨cs,rfl,hs⟩:=h
 unfold Sh at hs
 simp only [Tryz.underlying22,cells22,cells5] at hs
 obtain ⟨zs,h1,h2,h3⟩:=all_bytes 8 cs (by omega) (fun i hi=>by
  have:=hs.2 i hi
  rw [Nat.mul_one] at this
  exact one_byte this)
 exact ⟨zs,by rw [h1],h2,h3⟩
theorem sh_byte {a:AV} (h:ShV Tryz.prog 8 5 a): ∃n:Int,a=B8 n∧Byte n:=by
 unfold ShV at h
 rw [if_neg (by unfold aggB;rw [Tryz.underlying5];simp)] at h
 obtain ⟨n,h1,h2⟩:=one_byte h
 simp only [List.cons.injEq,and_true] at h1
 exact ⟨n,h1,h2⟩
end Go.Proofs.YtdnjagnechibhaaGreatDoor.Vm
namespace Go.Proofs.YtdnjagnechibhaaGreatDoor.Vm
open Go Go.Ev
set_option maxRecDepth 100000
attribute [local go_sem] cells_any storable_any ren1_any shaped_ptr cells_ptr storable_ptr ren1_ptr shaped_eptr cells_eptr storable_eptr ren1_eptr shaped_rsl cells_rsl storable_rsl ren1_rsl shaped_int cells_int storable_int ren1_int shaped_bool cells_bool storable_bool ren1_bool shaped_nils cells_nils storable_nils ren1_nils shaped_lst cells_lst storable_lst shaped_fn cells_fn storable_fn ren1_fn shaped_ifc cells_ifc storable_ifc ren1_ifc shaped_agg cells_agg storable_agg ren1_agg shaped_tup cells_tup storable_tup ren1_tup shaped_nif cells_nif storable_nif ren1_nif ren1_lany ren1_lfull ren1_lown len_lst len_rsl len_nil load_ptr load_eptr isRsl_lst isRsl_nil isRsl_rsl elems_nil elems_lst elems_sl isRsl_sl body_eq bodyK_normal bodyK_ret resK_some leaveK_some only_some code_skip code_exit code_ret code_ops code_seq code_cond code_block seqK_normal seqK_ret seqK_exit condK_true condK_false blockK_normal blockK_ret blockK_exit opsK_some ops_nil ops_cons wantK_true wantK_false stepK_some pubs pub pub_sl params okRef_loc storable_loc shaped_loc cells_loc isRsl_loc elems_loc len_loc untips untip untip_sl wantedAV setElems withO isAgg_v isAgg_agg isAgg_lst isAgg_ptr isAgg_fn isAgg_ifc isAgg_rsl isAgg_sl isAgg_loc List.replicate_succ List.replicate_zero opAV valAV aval avals ofVal Env.get setD canon gcAV renAll renEnv renStore renCells ren1_sl cutSt okEnv okStore okRefs okRef okRef_sl bin_int bin_bool bin_lst bin_rsl bin_nil bin_agg cellsEq cellEq isShift intOp boolOp min_int max_int beq_int bne resAV tupAV leave_eq fin_sl fin_loc fins fin_v fin_lst fin_agg fin_tup fin_fn storeAV readCells putCells cells_sl shaped_sl storable_sl fieldAddrAV len_sl goI List.getElem?_cons_zero List.getElem?_cons_succ List.getElem?_nil Option.bind_some Option.map_some List.length_cons List.length_nil List.all_cons List.all_nil Bool.and_true Bool.true_and Bool.and_false Bool.false_and and_true true_and and_false false_and Bool.false_eq_true List.set_cons_zero List.set_cons_succ List.append_nil List.nil_append List.cons_append List.take_zero List.take_succ_cons List.take_nil List.drop_zero List.drop_succ_cons List.map_cons List.map_nil decide_true decide_false beq_self_eq_true Bool.not_true Bool.not_false or_true true_or or_false false_or Nat.zero_add Nat.add_zero Nat.le_refl Nat.lt_irrefl decide_eq_true_eq eq_self_iff_true not_true_eq_false not_false_eq_true List.getD_cons_zero code_loop Nat.zero_le Nat.not_lt_zero Bool.true_beq Bool.false_beq beq_true beq_false ge_iff_le gt_iff_lt keepR keepT ownTop Lpure pus Option.map_none assert_ifc assert_nil idxA_ptr idxA_eptr idxV_agg Int.cast_ofNat_Int Nat.mul_one Nat.zero_mul Int.toNat_natCast Int.toNat_zero setParts withO2 hasKey eqnil_sl nenil_sl eqnil_loc nenil_loc map_nil_iff okRefs_ints renCells_ints
def leftZ (l:List Int) (w:Int) (i j:Nat):Int:=w+1-(l.getD j 0-l.getD i 0)
def sqZ (l:List Int) (w:Int) (i j:Nat):Int:=leftZ l w i j*leftZ l w i j
def scanP (l:List Int) (w:Int) (P:List (Int×Int)) (j:Nat):Nat→Int×Int→Int×Int
 |0,q=>q
 |i+1,q=>if leftZ l w i j<0 then q else scanP l w P j i (if i+1=j∨(P.getD i (0,0)).1+sqZ l w i j≤q.1 then ((P.getD i (0,0)).1+sqZ l w i j,(i:Int)) else q)
def placesTo (l:List Int) (w:Int) (n:Nat):Nat→List (Int×Int)
 |0=>List.replicate (n+1) (0,0)
 |j+1=>(placesTo l w n j).set (j+1) (scanP l w (placesTo l w n j) (j+1) (j+1) (0,0))
theorem placesTo_len (l:List Int)(w:Int)(n:Nat): ∀j,(placesTo l w n j).length=n+1
 |0=>by simp [placesTo]
 |j+1=>by simp [placesTo,placesTo_len l w n j]
structure SumsOk (l:List Int) (w:Int) (n:Nat):Prop where
 w1:1≤w
 w2:w≤40
 n2:n≤10
 rise: ∀i,i<n→2≤l.getD (i+1) 0-l.getD i 0∧l.getD (i+1) 0-l.getD i 0≤w+1
theorem SumsOk.mono {l:List Int} {w:Int} {n:Nat} (h:SumsOk l w n): ∀(d i:Nat),i+d≤n→l.getD i 0+2*d≤l.getD (i+d) 0
 |0,i,_=>by simp
 |d+1,i,hd=>by
  have h1:=h.mono d i (by omega)
  have h2:=h.rise (i+d) (by omega)
  rw [←Nat.add_assoc]
  omega
theorem SumsOk.lt {l:List Int} {w:Int} {n:Nat} (h:SumsOk l w n) {i j:Nat} (hij:i≤j)(hj:j≤n):l.getD i 0+2*((j-i:Nat):Int)≤l.getD j 0:=by
 have:=h.mono (j-i) i (by omega)
 rwa [show i+(j-i)=j by omega] at this
structure Best (l:List Int) (w:Int) (f:Nat→Int) (j a:Nat):Prop where
 lt:a<j
 fits:0≤leftZ l w a j
 best: ∀i,i<j→0≤leftZ l w i j→f a+sqZ l w a j≤f i+sqZ l w i j∧(i<a→f a+sqZ l w a j<f i+sqZ l w i j)
theorem best_mono {l:List Int} {w:Int} {n:Nat} (h:SumsOk l w n) {f:Nat→Int} {j a b:Nat} (hj:j+1≤n)(ha:Best l w f j a)(hb:Best l w f (j+1) b):a≤b:=by
 rcases Nat.lt_or_ge b a with hlt|hge
 ·exfalso
  have h1:=h.lt (i:=b) (j:=a) (by omega) (by have:=ha.lt;omega)
  have h2:=h.rise j (by omega)
  have e1:leftZ l w a j=leftZ l w b j+(l.getD a 0-l.getD b 0):=by unfold leftZ;omega
  have e2:leftZ l w a (j+1)=leftZ l w a j-(l.getD (j+1) 0-l.getD j 0):=by unfold leftZ;omega
  have e3:leftZ l w b (j+1)=leftZ l w b j-(l.getD (j+1) 0-l.getD j 0):=by unfold leftZ;omega
  have k1:=hb.fits
  have k2:=(ha.best b (by have:=ha.lt;omega) (by omega)).2 hlt
  have k3:=(hb.best a (by have:=ha.lt;omega) (by omega)).1
  unfold sqZ at k2 k3
  rw [e2,e3] at k3
  rw [e1] at k2 k3
  generalize leftZ l w b j=y at*
  generalize hx:l.getD a 0-l.getD b 0=x at*
  generalize hd:l.getD (j+1) 0-l.getD j 0=d at*
  have hx2:2≤x:=by
   have:(1:Int)≤((a-b:Nat):Int):=by omega
   omega
  have hpos:0<x*d:=Int.mul_pos (by omega) (by omega)
  have i1:(y+x-d)*(y+x-d)=(y+x)*(y+x)+d*d-2*(y*d)-2*(x*d):=by
   rw [Int.sub_mul,Int.mul_sub,Int.mul_sub,Int.add_mul,Int.mul_comm d (y+x),Int.add_mul];omega
  have i2:(y-d)*(y-d)=y*y+d*d-2*(y*d):=by
   rw [Int.sub_mul,Int.mul_sub,Int.mul_sub,Int.mul_comm d y];omega
  rw [i1,i2] at k3
  omega
 ·exact hge
theorem scan_spec {l:List Int} {w:Int} {n:Nat} (h:SumsOk l w n)(P:List (Int×Int))(j:Nat)(hj:j≤n): ∀(i:Nat) (q:Int×Int) (a:Nat),i<j→q=((P.getD a (0,0)).1+sqZ l w a j,(a:Int))→a<j→i≤a→0≤leftZ l w a j→
  (∀x,i≤x→x<j→(P.getD a (0,0)).1+sqZ l w a j≤(P.getD x (0,0)).1+sqZ l w x j∧(x<a→(P.getD a (0,0)).1+sqZ l w a j<(P.getD x (0,0)).1+sqZ l w x j))→
  ∃b,scanP l w P j i q=((P.getD b (0,0)).1+sqZ l w b j,(b:Int))∧Best l w (fun i=>(P.getD i (0,0)).1) j b
 |0,q,a,_,hq,ha,_,hf,hb=>⟨a,hq,ha,hf,fun x hx _=>hb x (Nat.zero_le _) hx⟩
 |i+1,q,a,hi,hq,ha,hia,hf,hb=>by
  simp only [scanP]
  by_cases p:leftZ l w i j<0
  ·rw [if_pos p]
   refine ⟨a,hq,ha,hf,fun x hx hl=> ?_⟩
   rcases Nat.lt_or_ge i x with h1|h1
   ·exact hb x h1 hx
   ·exfalso
    have:=h.lt (i:=x) (j:=i) h1 (by omega)
    unfold leftZ at p hl
    omega
  ·rw [if_neg p]
   by_cases q1:(P.getD i (0,0)).1+sqZ l w i j≤q.1
   ·rw [if_pos (.inr q1)]
    refine scan_spec h P j hj i _ i (by omega) rfl (by omega) (Nat.le_refl _) (by omega) (fun x h1 h2=> ?_)
    rw [hq] at q1
    simp only at q1
    rcases Nat.eq_or_lt_of_le h1 with rfl|h3
    ·exact ⟨Int.le_refl _,fun h=>absurd h (Nat.lt_irrefl _)⟩
    ·have:=(hb x h3 h2).1
     exact ⟨by omega,fun h=>by omega⟩
   ·have q2: ¬(i+1=j∨(P.getD i (0,0)).1+sqZ l w i j≤q.1):=by
     rintro (h|h)
     ·omega
     ·exact q1 h
    rw [if_neg q2]
    refine scan_spec h P j hj i q a (by omega) hq ha (by omega) hf (fun x h1 h2=> ?_)
    rcases Nat.eq_or_lt_of_le h1 with rfl|h3
    ·rw [hq] at q1
     simp only at q1
     exact ⟨by omega,fun _=>by omega⟩
    ·exact hb x h3 h2
theorem scan_best {l:List Int} {w:Int} {n:Nat} (h:SumsOk l w n)(P:List (Int×Int))(j:Nat)(hj:j+1≤n):
  ∃b,scanP l w P (j+1) (j+1) (0,0)=((P.getD b (0,0)).1+sqZ l w b (j+1),(b:Int))∧Best l w (fun i=>(P.getD i (0,0)).1) (j+1) b:=by
 simp only [scanP]
 have hr:=h.rise j (by omega)
 have hl:0≤leftZ l w j (j+1):=by unfold leftZ;omega
 rw [if_neg (by omega),if_pos (.inl trivial)]
 refine scan_spec h P (j+1) hj j _ j (by omega) rfl (by omega) (Nat.le_refl _) hl (fun x h1 h2=> ?_)
 obtain rfl:x=j:=by omega
 exact ⟨Int.le_refl _,fun h=>absurd h (Nat.lt_irrefl _)⟩
theorem getD_set_ne {α:Type} (L:List α)(i j:Nat)(x d:α)(h:i≠j):(L.set i x).getD j d=L.getD j d:=by
 simp only [List.getD_eq_getElem?_getD];rw [List.getElem?_set_ne h]
theorem getD_set_eq {α:Type} (L:List α)(i:Nat)(x d:α)(h:i<L.length):(L.set i x).getD i d=x:=by
 simp [List.getD_eq_getElem?_getD,h]
theorem places_keep (l:List Int)(w:Int)(n:Nat)(i:Nat): ∀d,(placesTo l w n (i+d)).getD i (0,0)=(placesTo l w n i).getD i (0,0)
 |0=>rfl
 |d+1=>by
  rw [←Nat.add_assoc]
  simp only [placesTo]
  rw [getD_set_ne _ _ _ _ _ (by omega)]
  exact places_keep l w n i d
theorem places_at (l:List Int)(w:Int)(n:Nat) {i j:Nat} (h:i≤j):(placesTo l w n j).getD i (0,0)=(placesTo l w n i).getD i (0,0):=by
 have:=places_keep l w n i (j-i)
 rwa [show i+(j-i)=j by omega] at this
theorem places_best {l:List Int} {w:Int} {n:Nat} (h:SumsOk l w n)(j:Nat)(hj:j+1≤n):
  ∃b,(placesTo l w n n).getD (j+1) (0,0)=(((placesTo l w n n).getD b (0,0)).1+sqZ l w b (j+1),(b:Int))∧Best l w (fun i=>((placesTo l w n n).getD i (0,0)).1) (j+1) b:=by
 obtain ⟨b,h1,h2⟩:=scan_best h (placesTo l w n j) j hj
 have hf: ∀i,i<j+1→(placesTo l w n j).getD i (0,0)=(placesTo l w n n).getD i (0,0):=fun i hi=>by
  rw [places_at l w n (show i≤j by omega),places_at l w n (show i≤n by omega)]
 have e:(placesTo l w n n).getD (j+1) (0,0)=scanP l w (placesTo l w n j) (j+1) (j+1) (0,0):=by
  rw [places_at l w n hj]
  simp only [placesTo]
  rw [getD_set_eq _ _ _ _ (by rw [placesTo_len];omega)]
 refine ⟨b,by rw [e,h1,hf b h2.lt],h2.lt,h2.fits,fun i hi hl=> ?_⟩
 have:=h2.best i hi hl
 simp only [hf b h2.lt,hf i hi] at this
 exact this
def startZ (l:List Int) (w:Int) (n i:Nat):Int:=((placesTo l w n n).getD (i+1) (0,0)).2
theorem start_range {l:List Int} {w:Int} {n:Nat} (h:SumsOk l w n)(i:Nat)(hi:i<n):0≤startZ l w n i∧startZ l w n i≤i:=by
 obtain ⟨b,h1,h2⟩:=places_best h i hi
 have:=h2.lt
 unfold startZ
 rw [h1]
 simp only
 omega
theorem start_mono {l:List Int} {w:Int} {n:Nat} (h:SumsOk l w n)(i:Nat)(hi:i+1<n):startZ l w n i≤startZ l w n (i+1):=by
 obtain ⟨a,h1,h2⟩:=places_best h i (by omega)
 obtain ⟨b,h3,h4⟩:=places_best h (i+1) (by omega)
 have:=best_mono h (by omega) h2 h4
 unfold startZ
 rw [h1,h3]
 simp only
 omega
theorem places_small {l:List Int} {w:Int} {n:Nat} (h:SumsOk l w n): ∀(j:Nat),j≤n→∀i,0≤((placesTo l w n j).getD i (0,0)).1∧((placesTo l w n j).getD i (0,0)).1≤2000*j
 |0,_,i=>by
  have:((placesTo l w n 0).getD i (0,0)).1=0:=by
   simp only [placesTo,List.getD_eq_getElem?_getD]
   by_cases hi:i<n+1
   ·simp [hi]
   ·rw [List.getElem?_eq_none (by simp;omega)];rfl
  rw [this];simp
 |j+1,hj,i=>by
  have ih:=places_small h j (by omega)
  simp only [placesTo]
  by_cases e:i=j+1
  ·subst e
   rw [getD_set_eq _ _ _ _ (by rw [placesTo_len];omega)]
   obtain ⟨b,h1,h2⟩:=scan_best h (placesTo l w n j) j hj
   rw [h1]
   simp only
   have hb:=h2.lt
   have hm:=h.lt (i:=b) (j:=j+1) (by omega) hj
   have hf:=h2.fits
   have hw:=h.w2
   have hl:leftZ l w b (j+1)≤40:=by unfold leftZ;omega
   have s1:0≤sqZ l w b (j+1):=Int.mul_nonneg hf hf
   have s2:sqZ l w b (j+1)≤40*40:=by
    unfold sqZ
    exact Int.mul_le_mul hl hl hf (by omega)
   have:=ih b
   omega
  ·rw [getD_set_ne _ _ _ _ _ (by omega)]
   have:=ih i
   omega
theorem sums_ok {w:Int} {ws:List Int} (h:TextOk w ws):SumsOk (lsum ws) w ws.length:=by
 refine ⟨h.w1,h.w2,h.n2,fun i hi=> ?_⟩
 have e:=lsum_seg ws i hi
 simp only [seg,Int.toNat_natCast] at e
 have:=h.each _ (List.getElem_mem hi)
 omega
section
variable {β:Type} (f:β→List AV) (z:Nat) (hz: ∀b,(f b).length=z)
include hz
theorem fl_len (o:List β):(o.flatMap f).length=z*o.length:=by
 induction o with
 |nil=>simp
 |cons p r ih=>rw [List.flatMap_cons,List.length_append,ih,List.length_cons,hz,Nat.mul_succ];omega
theorem fl_drop: ∀(o:List β) (a:Nat),(o.flatMap f).drop (z*a)=(o.drop a).flatMap f
 |o,0=>rfl
 | [],a+1=>by simp
 |p::r,a+1=>by
  rw [List.drop_succ_cons,←fl_drop r a,List.flatMap_cons,Nat.mul_succ,Nat.add_comm,←hz p,List.drop_append]
  simp
theorem fl_take (o:List β)(a:Nat)(d:β)(h:a<o.length):List.take z (List.drop (a*z) (o.flatMap f))=f (o.getD a d):=by
 have hd:o.drop a=o[a]::o.drop (a+1):=List.drop_eq_getElem_cons h
 have hg:o.getD a d=o[a]:=by rw [List.getD_eq_getElem?_getD,List.getElem?_eq_getElem h];rfl
 rw [Nat.mul_comm,fl_drop f z hz,hd,hg,List.flatMap_cons,←hz o[a],List.take_left]
theorem fl_get (o:List β)(a k:Nat)(d:β)(h:a<o.length)(hk:k<z):(o.flatMap f)[a*z+k]? =(f (o.getD a d))[k]? :=by
 have e:=fl_take f z hz o a d h
 rw [←e,List.getElem?_take_of_lt hk,List.getElem?_drop]
theorem fl_put (b:β): ∀(o:List β) (a:Nat),a<o.length→putCells (o.flatMap f) (a*z) (f b)=(o.set a b).flatMap f:=by
 have put_app: ∀(xs A B:List AV) (k:Nat),putCells (A++B) (A.length+k) xs=A++putCells B k xs:=by
  intro xs
  induction xs with
  |nil=>intro A B k;rfl
  |cons x r ih=>
   intro A B k
   simp only [putCells]
   have e:(A++B).set (A.length+k) x=A++B.set k x:=by
    rw [List.set_append_right _ _ (by omega)];congr 2;omega
   rw [e,show A.length+k+1=A.length+(k+1) by omega,ih]
 have put_all: ∀(xs A B:List AV),A.length=xs.length→putCells (A++B) 0 xs=xs++B:=by
  have: ∀(xs D A B:List AV),A.length=xs.length→putCells (D++(A++B)) D.length xs=D++(xs++B):=by
   intro xs
   induction xs with
   |nil=>intro D A B h;rw [List.eq_nil_of_length_eq_zero h];rfl
   |cons x r ih=>
    intro D A B h
    cases A with
    |nil=>simp at h
    |cons a A=>
     simp only [putCells]
     have e:(D++(a::A++B)).set D.length x=(D++ [x])++(A++B):=by
      rw [List.set_append_right _ _ (Nat.le_refl _),Nat.sub_self];simp
     have:=ih (D++ [x]) A B (by simpa using h)
     rw [e,show D.length+1=(D++ [x]).length by simp,this]
     simp
  intro xs A B h
  simpa using this xs [] A B h
 intro o
 induction o with
 |nil=>intro a h;simp at h
 |cons q r ih=>
  intro a h
  cases a with
  |zero=>rw [Nat.zero_mul,List.flatMap_cons,List.set_cons_zero,List.flatMap_cons,put_all _ _ _ (by rw [hz,hz])]
  |succ a=>
   have e:=ih a (by simpa using h)
   rw [List.flatMap_cons,List.set_cons_succ,List.flatMap_cons,←e,Nat.succ_mul,Nat.add_comm,←hz q]
   exact put_app _ _ _ _
end
def pc (p:Int×Int):List AV:=[I p.1,I p.2]
def flP (o:List (Int×Int)):List AV:=o.flatMap pc
theorem pc_len (p:Int×Int):(pc p).length=2:=rfl
theorem flP_len (o:List (Int×Int)):(flP o).length=2*o.length:=fl_len pc 2 pc_len o
theorem flP_get (o:List (Int×Int))(a:Nat)(h:a<o.length):(flP o)[a*2]? =some (I (o.getD a (0,0)).1):=fl_get pc 2 pc_len o a 0 (0,0) h (by omega)
theorem flP_set (o:List (Int×Int))(a:Nat)(x y:Int)(h:a<o.length):((flP o).set (a*2) (I x)).set (a*2+1) (I y)=flP (o.set a (x,y)):=fl_put pc 2 pc_len (x,y) o a h
theorem okRefsP (n:Nat)(o:List (Int×Int)):okRefs n (flP o)=true:=by
 unfold flP
 induction o with
 |nil=>rfl
 |cons p r ih=>rw [List.flatMap_cons];exact ih
theorem renCellsP (n:Nat)(tips:List Nat)(acc:List (Nat×Nat))(o:List (Int×Int)):renCells n tips acc (flP o)=(flP o,acc):=by
 unfold flP
 induction o with
 |nil=>rfl
 |cons p r ih=>
  rw [List.flatMap_cons]
  show (I p.1::I p.2::(renCells n tips acc (r.flatMap pc)).1,(renCells n tips acc (r.flatMap pc)).2)=_
  rw [ih];rfl
theorem seg_left (l:List Int)(w:Int)(i j:Nat):w+1-seg l i j=leftZ l w i j:=by simp [seg,leftZ]
theorem c142' (w:Int)(hw0:0≤w∧w≤1000)(l:List Int)(hl: ∀x∈l,0≤x∧x≤100000)(b e:Nat)(hb:b<l.length)(he:e<l.length)(st:St):
  run L 142 [opAV' w l,.agg [I b,I e]] st=some (I (leftZ l w b e),st):=by
 rw [c142 w hw0 l hl b e hb he st,seg_left]
theorem left_small {w:Int} (hw0:0≤w∧w≤1000) {l:List Int} (hl: ∀x∈l,0≤x∧x≤100000)(b e:Nat): -200000≤leftZ l w b e∧leftZ l w b e≤200000:=by
 have h1:=getD_bound hl (by omega) b
 have h2:=getD_bound hl (by omega) e
 unfold leftZ;omega
theorem sq_small {x:Int} (h: -200000≤x∧x≤200000):0≤x*x∧x*x≤40000000000:=by
 constructor
 ·rcases Int.le_total 0 x with h0|h0
  ·exact Int.mul_nonneg h0 h0
  ·exact Int.mul_nonneg_of_nonpos_of_nonpos h0 h0
 ·rcases Int.le_total 0 x with h0|h0
  ·have:=Int.mul_le_mul h.2 h.2 h0 (by omega);omega
  ·have h1: -x≤200000:=by omega
   have:=Int.mul_le_mul h1 h1 (by omega) (by omega)
   rw [Int.neg_mul_neg] at this;omega
theorem c160 (w:Int)(hw0:0≤w∧w≤1000)(l:List Int)(hl: ∀x∈l,0≤x∧x≤100000)(b e:Nat)(hb:b<l.length)(he:e<l.length)(st:St):
  run L 160 [opAV' w l,.agg [I b,I e]] st=some (I (sqZ l w b e),st):=by
 rw [run_pure (fn:=ir160) rfl rfl]
 have h:=fun st=>c142' w hw0 l hl b e hb he st
 have hs:=sq_small (left_small hw0 hl b e)
 have hw:=wrap64 (leftZ l w b e*leftZ l w b e) (by omega) (by omega)
 simp only [ir160,go_sem,reduceIte,Nat.reduceEqDiff,Nat.reduceAdd,Nat.reduceSub,Nat.reduceLeDiff,Nat.reduceLT,reduceCtorEq,Int.reduceLT,Int.reduceLE,Int.reduceEq,Int.reduceBEq,Int.reduceSub,Int.reduceAdd,Int.reduceMul,Int.reduceNeg,Int.reduceToNat,Nat.reduceMul,Nat.reduceBEq,h,hw]
 rfl
set_option maxHeartbeats 1000000 in
theorem loop109_0 (w : Int) (hw0 : 0 ≤ w ∧ w ≤ 1000) (l : List Int) (hl : ∀ x ∈ l, 0 ≤ x ∧ x ≤ 100000) (n : Nat) (hn : l.length = n + 1) (hn2 : n ≤ 10) (P : List (Int × Int)) (hPl : P.length = n + 1) (hP : ∀ i, 0 ≤ (P.getD i (0, 0)).1 ∧ (P.getD i (0, 0)).1 ≤ 1000000) (j : Nat) (hj : 1 ≤ j ∧ j ≤ n) (i : Nat) (q : Int × Int) (hok : i ≤ j) (env : Env) (st : St)
    (hg : gcAV true 2 0 (canon env [1, 3, 4, 5]) st = ([(1, .ptr 0 0), (3, .rsl 1 0 (n + 1) (n + 1) 2 true), (4, I j), (5, I ((i : Int) - 1))], ⟨[[I w, sl 1 false (l.map I)], flP (P.set j q)], []⟩)) :
    ∃ x_1 en s, lim (headed pure (run L) true [1, 3, 4, 5] lp109_0 2 0) env st = some (x_1, en, s) ∧ (x_1 = .exit 2 ∧ en.get 1 = .ptr 0 0 ∧ en.get 3 = .rsl 1 0 (n + 1) (n + 1) 2 true ∧ en.get 4 = I j ∧ s = ⟨[[I w, sl 1 false (l.map I)], flP (P.set j (scanP l w P j i q))], []⟩) := by
  refine loop_wp (α := Nat × Int × Int) (fun ⟨i, q⟩ => i) (fun ⟨i, q⟩ => i ≤ j) (fun ⟨i, q⟩ => ([(1, .ptr 0 0), (3, .rsl 1 0 (n + 1) (n + 1) 2 true), (4, I j), (5, I ((i : Int) - 1))], ⟨[[I w, sl 1 false (l.map I)], flP (P.set j q)], []⟩)) (fun ⟨i, q⟩ x_1 en s => x_1 = .exit 2 ∧ en.get 1 = .ptr 0 0 ∧ en.get 3 = .rsl 1 0 (n + 1) (n + 1) 2 true ∧ en.get 4 = I j ∧ s = ⟨[[I w, sl 1 false (l.map I)], flP (P.set j (scanP l w P j i q))], []⟩) (fun ⟨i, q⟩ hok => ?_) ⟨i, q⟩ hok env st hg
  simp only at hok
  dsimp only at hok ⊢
  cases i with
  | zero =>
    have e : scanP l w P j 0 q = q := rfl
    rw [e]
    simp only [go_sem, reduceIte, Nat.reduceEqDiff, Nat.reduceAdd, Nat.reduceSub, Nat.reduceLeDiff, Nat.reduceLT, reduceCtorEq, Int.reduceLT, Int.reduceLE, Int.reduceEq, Int.reduceBEq, Int.reduceSub, Int.reduceAdd, Int.reduceMul, Int.reduceNeg, Int.reduceToNat, Nat.reduceMul, Nat.reduceBEq, index_rsl_if, setm, make_ints, condK_dec, wantK_dec, not_dec, and_dec, or_dec, seqK_ite, seqK_none, blockK_ite, blockK_none, opsK_ite, opsK_none, stepK_ite, stepK_none, bodyK_ite, bodyK_none, resK_ite, resK_none, leaveK_ite, leaveK_none, only_ite, only_none, bind_ite, gives_some, gives_none, gives_ite, then_normal, then_ret, then_exit, then_none, then_ite, Option.bind_none, Bool.not_eq_true', decide_eq_false_iff_not, Bool.and_eq_true, Bool.or_eq_true, Option.some.injEq, Int.not_lt, Int.not_le, lp109_0, Int.natCast_zero]
  | succ i =>
    have e5 : (((i + 1 : Nat) : Int) - 1) = (i : Int) := by omega
    rw [e5]
    have h142 := fun st => c142' w hw0 l hl i j (by omega) (by omega) st
    have h160 := fun st => c160 w hw0 l hl i j (by omega) (by omega) st
    have hsm := sq_small (left_small hw0 hl i j)
    have hsq : 0 ≤ sqZ l w i j ∧ sqZ l w i j ≤ 40000000000 := hsm
    have hPi := hP i
    have hd : IntKind.i64.wrap ((i : Int) - 1) = (i : Int) - 1 := by rw [wrap64] <;> omega
    have hd2 : IntKind.i64.wrap ((j : Int) - 1) = (j : Int) - 1 := by rw [wrap64] <;> omega
    have hw := wrap64 ((P.getD i (0, 0)).1 + sqZ l w i j) (by omega) (by omega)
    have hfl := flP_len (P.set j q)
    rw [List.length_set, hPl] at hfl
    have gi := flP_get (P.set j q) i (by rw [List.length_set]; omega)
    rw [getD_set_ne _ _ _ _ _ (by omega)] at gi
    have gj := flP_get (P.set j q) j (by rw [List.length_set]; omega)
    rw [getD_set_eq _ _ _ _ (by omega)] at gj
    have hst := flP_set (P.set j q) j ((P.getD i (0, 0)).1 + sqZ l w i j) (i : Int) (by rw [List.length_set]; omega)
    rw [List.set_set] at hst
    have hsc : scanP l w P j (i + 1) q = if leftZ l w i j < 0 then q else scanP l w P j i (if i + 1 = j ∨ (P.getD i (0, 0)).1 + sqZ l w i j ≤ q.1 then ((P.getD i (0, 0)).1 + sqZ l w i j, (i : Int)) else q) := rfl
    rw [hsc]
    have b0 : ((0 : Int) ≤ (i : Int)) = True := eq_true (by omega)
    have b1 : ((i : Int) < ((n + 1 : Nat) : Int)) = True := eq_true (by omega)
    have b2 : ((j : Int) < ((n + 1 : Nat) : Int)) = True := eq_true (by omega)
    have b3 : ((0 : Int) ≤ (j : Int)) = True := eq_true (by omega)
    have b4 : (j * 2 + 2 ≤ 2 * (n + 1)) = True := eq_true (by omega)
    have b5 : (j * 2 < 2 * (n + 1)) = True := eq_true (by omega)
    generalize hv : (P.getD i (0, 0)).1 + sqZ l w i j = v at *
    by_cases p : leftZ l w i j < 0
    · have p' : (0 ≤ leftZ l w i j) = False := eq_false (by omega)
      rw [if_pos p]
      simp only [go_sem, reduceIte, Nat.reduceEqDiff, Nat.reduceAdd, Nat.reduceSub, Nat.reduceLeDiff, Nat.reduceLT, reduceCtorEq, Int.reduceLT, Int.reduceLE, Int.reduceEq, Int.reduceBEq, Int.reduceSub, Int.reduceAdd, Int.reduceMul, Int.reduceNeg, Int.reduceToNat, Nat.reduceMul, Nat.reduceBEq, index_rsl_if, setm, make_ints, condK_dec, wantK_dec, not_dec, and_dec, or_dec, seqK_ite, seqK_none, blockK_ite, blockK_none, opsK_ite, opsK_none, stepK_ite, stepK_none, bodyK_ite, bodyK_none, resK_ite, resK_none, leaveK_ite, leaveK_none, only_ite, only_none, bind_ite, gives_some, gives_none, gives_ite, then_normal, then_ret, then_exit, then_none, then_ite, Option.bind_none, Bool.not_eq_true', decide_eq_false_iff_not, Bool.and_eq_true, Bool.or_eq_true, Option.some.injEq, Int.not_lt, Int.not_le, lp109_0, h142, p', b0]
    · have p' : (0 ≤ leftZ l w i j) = True := eq_true (by omega)
      rw [if_neg p]
      by_cases c1 : i + 1 = j
      · have c1' : ((i : Int) = (j : Int) - 1) = True := eq_true (by omega)
        rw [if_pos (.inl c1)]
        simp only [go_sem, reduceIte, Nat.reduceEqDiff, Nat.reduceAdd, Nat.reduceSub, Nat.reduceLeDiff, Nat.reduceLT, reduceCtorEq, Int.reduceLT, Int.reduceLE, Int.reduceEq, Int.reduceBEq, Int.reduceSub, Int.reduceAdd, Int.reduceMul, Int.reduceNeg, Int.reduceToNat, Nat.reduceMul, Nat.reduceBEq, index_rsl_if, setm, make_ints, condK_dec, wantK_dec, not_dec, and_dec, or_dec, seqK_ite, seqK_none, blockK_ite, blockK_none, opsK_ite, opsK_none, stepK_ite, stepK_none, bodyK_ite, bodyK_none, resK_ite, resK_none, leaveK_ite, leaveK_none, only_ite, only_none, bind_ite, gives_some, gives_none, gives_ite, then_normal, then_ret, then_exit, then_none, then_ite, Option.bind_none, Bool.not_eq_true', decide_eq_false_iff_not, Bool.and_eq_true, Bool.or_eq_true, Option.some.injEq, Int.not_lt, Int.not_le, lp109_0, h142, p', b0, b1, b2, b3, b4, b5, hd, hd2, h160, hv, hw, hfl, gi, hst, c1', List.length_map]
        refine ⟨(i, (v, (i : Int))), by simp only [go_sem, reduceIte, Nat.reduceEqDiff, Nat.reduceAdd, Nat.reduceSub, Nat.reduceLeDiff, Nat.reduceLT, reduceCtorEq, Int.reduceLT, Int.reduceLE, Int.reduceEq, Int.reduceBEq, Int.reduceSub, Int.reduceAdd, Int.reduceMul, Int.reduceNeg, Int.reduceToNat, Nat.reduceMul, Nat.reduceBEq, ren1_locm, loc_tips, locT_eq, okRefsP, renCellsP, okRefs_ints, renCells_ints] <;> rfl, ?_, ?_, fun x en s hq => ?_⟩
        all_goals first | exact hq | (dsimp only; omega)
      · have c1' : ((i : Int) = (j : Int) - 1) = False := eq_false (by omega)
        by_cases c2 : v ≤ q.1
        · rw [if_pos (.inr c2)]
          simp only [go_sem, reduceIte, Nat.reduceEqDiff, Nat.reduceAdd, Nat.reduceSub, Nat.reduceLeDiff, Nat.reduceLT, reduceCtorEq, Int.reduceLT, Int.reduceLE, Int.reduceEq, Int.reduceBEq, Int.reduceSub, Int.reduceAdd, Int.reduceMul, Int.reduceNeg, Int.reduceToNat, Nat.reduceMul, Nat.reduceBEq, index_rsl_if, setm, make_ints, condK_dec, wantK_dec, not_dec, and_dec, or_dec, seqK_ite, seqK_none, blockK_ite, blockK_none, opsK_ite, opsK_none, stepK_ite, stepK_none, bodyK_ite, bodyK_none, resK_ite, resK_none, leaveK_ite, leaveK_none, only_ite, only_none, bind_ite, gives_some, gives_none, gives_ite, then_normal, then_ret, then_exit, then_none, then_ite, Option.bind_none, Bool.not_eq_true', decide_eq_false_iff_not, Bool.and_eq_true, Bool.or_eq_true, Option.some.injEq, Int.not_lt, Int.not_le, lp109_0, h142, p', b0, b1, b2, b3, b4, b5, hd, hd2, h160, hv, hw, hfl, gi, gj, hst, c1', c2, List.length_map]
          refine ⟨(i, (v, (i : Int))), by simp only [go_sem, reduceIte, Nat.reduceEqDiff, Nat.reduceAdd, Nat.reduceSub, Nat.reduceLeDiff, Nat.reduceLT, reduceCtorEq, Int.reduceLT, Int.reduceLE, Int.reduceEq, Int.reduceBEq, Int.reduceSub, Int.reduceAdd, Int.reduceMul, Int.reduceNeg, Int.reduceToNat, Nat.reduceMul, Nat.reduceBEq, ren1_locm, loc_tips, locT_eq, okRefsP, renCellsP, okRefs_ints, renCells_ints] <;> rfl, ?_, ?_, fun x en s hq => ?_⟩
          all_goals first | exact hq | (dsimp only; omega)
        · rw [if_neg (by rintro (h | h); · exact c1 h
                         · exact c2 h)]
          simp only [go_sem, reduceIte, Nat.reduceEqDiff, Nat.reduceAdd, Nat.reduceSub, Nat.reduceLeDiff, Nat.reduceLT, reduceCtorEq, Int.reduceLT, Int.reduceLE, Int.reduceEq, Int.reduceBEq, Int.reduceSub, Int.reduceAdd, Int.reduceMul, Int.reduceNeg, Int.reduceToNat, Nat.reduceMul, Nat.reduceBEq, index_rsl_if, setm, make_ints, condK_dec, wantK_dec, not_dec, and_dec, or_dec, seqK_ite, seqK_none, blockK_ite, blockK_none, opsK_ite, opsK_none, stepK_ite, stepK_none, bodyK_ite, bodyK_none, resK_ite, resK_none, leaveK_ite, leaveK_none, only_ite, only_none, bind_ite, gives_some, gives_none, gives_ite, then_normal, then_ret, then_exit, then_none, then_ite, Option.bind_none, Bool.not_eq_true', decide_eq_false_iff_not, Bool.and_eq_true, Bool.or_eq_true, Option.some.injEq, Int.not_lt, Int.not_le, lp109_0, h142, p', b0, b1, b2, b3, b4, b5, hd, hd2, h160, hv, hw, hfl, gi, gj, c1', c2, List.length_map]
          refine ⟨(i, q), by simp only [go_sem, reduceIte, Nat.reduceEqDiff, Nat.reduceAdd, Nat.reduceSub, Nat.reduceLeDiff, Nat.reduceLT, reduceCtorEq, Int.reduceLT, Int.reduceLE, Int.reduceEq, Int.reduceBEq, Int.reduceSub, Int.reduceAdd, Int.reduceMul, Int.reduceNeg, Int.reduceToNat, Nat.reduceMul, Nat.reduceBEq, ren1_locm, loc_tips, locT_eq, okRefsP, renCellsP, okRefs_ints, renCells_ints] <;> rfl, ?_, ?_, fun x en s hq => ?_⟩
          all_goals first | exact hq | (dsimp only; omega)
abbrev prAV (a:Int×Int):AV:=.agg [I a.1,I a.2]
theorem group_fl {β:Type} (f:β→List AV)(z:Nat)(hz: ∀b,(f b).length=z): ∀(o:List β) (n:Nat),o.length=n→group true z n (o.flatMap f)=o.map fun b=> .agg (f b)
 | [],n,h=>by subst h;rfl
 |b::r,n,h=>by
  subst h
  rw [List.length_cons,List.flatMap_cons,List.map_cons,←group_fl f z hz r r.length rfl]
  have h1:(f b++r.flatMap f).take z=f b:=by rw [←hz b,List.take_left]
  have h2:(f b++r.flatMap f).drop z=r.flatMap f:=by rw [←hz b,List.drop_left]
  simp only [group,h1,h2]
  rfl
theorem pubsP (o:List (Int×Int)):pubs (flP o)=flP o:=by
 unfold flP
 induction o with
 |nil=>rfl
 |cons p r ih=>
  rw [List.flatMap_cons]
  show I p.1::I p.2::pubs (r.flatMap pc)=_
  rw [ih];rfl
theorem placesTo_zero (l:List Int)(w:Int)(n:Nat): ∀j i,j<i→(placesTo l w n j).getD i (0,0)=(0,0)
 |0,i,_=>by
  simp only [placesTo,List.getD_eq_getElem?_getD]
  by_cases hi:i<n+1
  ·simp [hi]
  ·rw [List.getElem?_eq_none (by simp;omega)];rfl
 |j+1,i,h=>by
  simp only [placesTo]
  rw [getD_set_ne _ _ _ _ _ (by omega)]
  exact placesTo_zero l w n j i (by omega)
theorem set_same {α:Type} (L:List α)(i:Nat)(d:α)(h:i<L.length):L.set i (L.getD i d)=L:=by
 have:L.getD i d=L[i]:=by rw [List.getD_eq_getElem?_getD,List.getElem?_eq_getElem h];rfl
 rw [this,List.set_getElem_self]
theorem loop109_1 (w:Int)(n:Nat)(l:List Int)(hS:SumsOk l w n)(hl: ∀x∈l,0≤x∧x≤100000)(hn:l.length=n+1)(j:Nat)(hok:1≤j∧j≤n+1)(env:Env)(st:St)
  (hg:gcAV true 2 0 (canon env [1,3,4]) st=([(1,.ptr 0 0),(3,.rsl 1 0 (n+1) (n+1) 2 true),(4,I j)],⟨[[I w,sl 1 false (l.map I)],flP (placesTo l w n (j-1))],[]⟩)):
  ∃x_1 en s,lim (headed pure (run L) true [1,3,4] lp109_1 2 0) env st=some (x_1,en,s)∧(x_1=.exit 0∧en.get 3=.rsl 1 0 (n+1) (n+1) 2 true∧s=⟨[[I w,sl 1 false (l.map I)],flP (placesTo l w n n)],[]⟩):=by
 refine loop_wp (α:=Nat) (fun j=>n+1-j) (fun j=>1≤j∧j≤n+1) (fun j=>([(1,.ptr 0 0),(3,.rsl 1 0 (n+1) (n+1) 2 true),(4,I j)],⟨[[I w,sl 1 false (l.map I)],flP (placesTo l w n (j-1))],[]⟩)) (fun j x_1 en s=>x_1=.exit 0∧en.get 3=.rsl 1 0 (n+1) (n+1) 2 true∧s=⟨[[I w,sl 1 false (l.map I)],flP (placesTo l w n n)],[]⟩) (fun j hok=> ?_) j hok env st hg
 obtain ⟨h1,h2⟩:=hok
 have hn2:=hS.n2
 have hw1:=hS.w1
 have hw2:=hS.w2
 have h83:=fun st=>c83 w l (by omega) (by omega) st
 rw [show l.length-1=n by omega] at h83
 by_cases h:j≤n
 ·have hlt:((j:Int)≤(n:Int))=True:=eq_true (by omega)
  have hd:IntKind.i64.wrap ((j:Int)-1)=(j:Int)-1:=by rw [wrap64]<;>omega
  have hs:=succ64 j (by omega)
  obtain ⟨k,rfl⟩: ∃k,j=k+1:=⟨j-1,by omega⟩
  rw [show k+1-1=k by omega]
  have hPl:=placesTo_len l w n k
  have hsame:(placesTo l w n k).set (k+1) (0,0)=placesTo l w n k:=by
   have:=set_same (placesTo l w n k) (k+1) (0,0) (by omega)
   rwa [placesTo_zero l w n k (k+1) (by omega)] at this
  have hsm:=places_small hS k (by omega)
  simp only [go_sem,reduceIte,Nat.reduceEqDiff,Nat.reduceAdd,Nat.reduceSub,Nat.reduceLeDiff,Nat.reduceLT,reduceCtorEq,Int.reduceLT,Int.reduceLE,Int.reduceEq,Int.reduceBEq,Int.reduceSub,Int.reduceAdd,Int.reduceMul,Int.reduceNeg,Int.reduceToNat,Nat.reduceMul,Nat.reduceBEq,index_rsl_if,setm,make_ints,condK_dec,wantK_dec,not_dec,and_dec,or_dec,seqK_ite,seqK_none,blockK_ite,blockK_none,opsK_ite,opsK_none,stepK_ite,stepK_none,bodyK_ite,bodyK_none,resK_ite,resK_none,leaveK_ite,leaveK_none,only_ite,only_none,bind_ite,gives_some,gives_none,gives_ite,then_normal,then_ret,then_exit,then_none,then_ite,Option.bind_none,Bool.not_eq_true',decide_eq_false_iff_not,Bool.and_eq_true,Bool.or_eq_true,Option.some.injEq,Int.not_lt,Int.not_le,lp109_1,h83,hlt,hd]
  generalize hg:lim (headed pure (run L) true _ lp109_0 _ _) _ _=o
  obtain ⟨x,en,s,rfl,h2⟩: ∃x en s,o=some (x,en,s)∧_:=by rw [←hg];exact loop109_0 w (by omega) l hl n hn hn2 (placesTo l w n k) hPl (fun i=>by have:=hsm i;omega) (k+1) ⟨by omega,by omega⟩ (k+1) (0,0) (Nat.le_refl _) _ _ (by simp only [go_sem,reduceIte,Nat.reduceEqDiff,Nat.reduceAdd,Nat.reduceSub,Nat.reduceLeDiff,Nat.reduceLT,reduceCtorEq,Int.reduceLT,Int.reduceLE,Int.reduceEq,Int.reduceBEq,Int.reduceSub,Int.reduceAdd,Int.reduceMul,Int.reduceNeg,Int.reduceToNat,Nat.reduceMul,Nat.reduceBEq,hsame,okRefsP,renCellsP,okRefs_ints,renCells_ints]<;>rfl)
  clear hg
  obtain ⟨rfl,g1,g3,g4,rfl⟩:=h2
  have hpl:(placesTo l w n k).set (k+1) (scanP l w (placesTo l w n k) (k+1) (k+1) (0,0))=placesTo l w n (k+1):=rfl
  rw [hpl]
  have hk2:k+1+1-1=k+1:=by omega
  simp only [go_sem,reduceIte,Nat.reduceEqDiff,Nat.reduceAdd,Nat.reduceSub,Nat.reduceLeDiff,Nat.reduceLT,reduceCtorEq,Int.reduceLT,Int.reduceLE,Int.reduceEq,Int.reduceBEq,Int.reduceSub,Int.reduceAdd,Int.reduceMul,Int.reduceNeg,Int.reduceToNat,Nat.reduceMul,Nat.reduceBEq,index_rsl_if,setm,make_ints,condK_dec,wantK_dec,not_dec,and_dec,or_dec,seqK_ite,seqK_none,blockK_ite,blockK_none,opsK_ite,opsK_none,stepK_ite,stepK_none,bodyK_ite,bodyK_none,resK_ite,resK_none,leaveK_ite,leaveK_none,only_ite,only_none,bind_ite,gives_some,gives_none,gives_ite,then_normal,then_ret,then_exit,then_none,then_ite,Option.bind_none,Bool.not_eq_true',decide_eq_false_iff_not,Bool.and_eq_true,Bool.or_eq_true,Option.some.injEq,Int.not_lt,Int.not_le,lp109_1,g1,g3,g4,hs]
  refine ⟨(k+1+1),by simp only [go_sem,reduceIte,Nat.reduceEqDiff,Nat.reduceAdd,Nat.reduceSub,Nat.reduceLeDiff,Nat.reduceLT,reduceCtorEq,Int.reduceLT,Int.reduceLE,Int.reduceEq,Int.reduceBEq,Int.reduceSub,Int.reduceAdd,Int.reduceMul,Int.reduceNeg,Int.reduceToNat,Nat.reduceMul,Nat.reduceBEq,ren1_locm,loc_tips,locT_eq,g1,g3,hk2,okRefsP,renCellsP,okRefs_ints,renCells_ints]<;>rfl,?_,?_,fun x en s hq=> ?_⟩
  ·omega
  ·omega
  ·exact hq
 ·have hlt:((j:Int)≤(n:Int))=False:=eq_false (by omega)
  obtain rfl:j=n+1:=by omega
  rw [show n+1-1=n by omega]
  simp only [go_sem,reduceIte,Nat.reduceEqDiff,Nat.reduceAdd,Nat.reduceSub,Nat.reduceLeDiff,Nat.reduceLT,reduceCtorEq,Int.reduceLT,Int.reduceLE,Int.reduceEq,Int.reduceBEq,Int.reduceSub,Int.reduceAdd,Int.reduceMul,Int.reduceNeg,Int.reduceToNat,Nat.reduceMul,Nat.reduceBEq,index_rsl_if,setm,make_ints,condK_dec,wantK_dec,not_dec,and_dec,or_dec,seqK_ite,seqK_none,blockK_ite,blockK_none,opsK_ite,opsK_none,stepK_ite,stepK_none,bodyK_ite,bodyK_none,resK_ite,resK_none,leaveK_ite,leaveK_none,only_ite,only_none,bind_ite,gives_some,gives_none,gives_ite,then_normal,then_ret,then_exit,then_none,then_ite,Option.bind_none,Bool.not_eq_true',decide_eq_false_iff_not,Bool.and_eq_true,Bool.or_eq_true,Option.some.injEq,Int.not_lt,Int.not_le,lp109_1,h83,hlt]
theorem c109 (w:Int)(n:Nat)(l:List Int)(hS:SumsOk l w n)(hl: ∀x∈l,0≤x∧x≤100000)(hn:l.length=n+1)(st:St):
  run L 109 [opAV' w l] st=some (sl 2 false ((placesTo l w n n).map prAV),st):=by
 rw [run_pure (fn:=ir109) rfl rfl]
 have hn2:=hS.n2
 have h83:=fun st=>c83 w l (by omega) (by omega) st
 rw [show l.length-1=n by omega] at h83
 have hw:IntKind.i64.wrap ((n:Int)+1)=((n+1:Nat):Int):=succ64 n (by omega)
 have hmk: ∀S T,makeAV 2 true [I 0,I 0] ⟨S,T⟩ (I ((n+1:Nat):Int)) (I ((n+1:Nat):Int))=some (.rsl S.length 0 (n+1) (n+1) 2 true,⟨S++ [flP (placesTo l w n 0)],T⟩):=fun S T=>by
  have e:(List.replicate (n+1) [I 0,I 0]).flatten=flP (placesTo l w n 0):=by
   simp [flP,placesTo,List.flatMap_def,pc]
  have hg:n+1≤maxGrow:=by unfold maxGrow;omega
  have hnat:natOf (I ((n+1:Nat):Int))=some (n+1):=by
   show (if 0≤((n+1:Nat):Int) then some ((n+1:Nat):Int).toNat else none)=_
   rw [if_pos (by omega),Int.toNat_natCast]
  unfold makeAV
  rw [hnat]
  simp only
  rw [if_pos ⟨Nat.le_refl _,hg⟩,e]
 have hlen:=flP_len (placesTo l w n n)
 rw [placesTo_len] at hlen
 have hgr:group true 2 (n+1) (flP (placesTo l w n n))=(placesTo l w n n).map prAV:=group_fl pc 2 pc_len _ _ (placesTo_len l w n n)
 have b1:(0+(n+1)*2≤2*(n+1))=True:=eq_true (by omega)
 have hs1:(1:Nat)-1=0:=rfl
 simp only [ir109,go_sem,reduceIte,Nat.reduceEqDiff,Nat.reduceAdd,Nat.reduceSub,Nat.reduceLeDiff,Nat.reduceLT,reduceCtorEq,Int.reduceLT,Int.reduceLE,Int.reduceEq,Int.reduceBEq,Int.reduceSub,Int.reduceAdd,Int.reduceMul,Int.reduceNeg,Int.reduceToNat,Nat.reduceMul,Nat.reduceBEq,h83,hw,hmk]
 generalize hg:lim (headed pure (run L) true _ lp109_1 _ _) _ _=o
 obtain ⟨x,en,s,rfl,h2⟩: ∃x en s,o=some (x,en,s)∧_:=by rw [←hg];exact loop109_1 w n l hS hl hn 1 ⟨by omega,by omega⟩ _ _ (by simp only [go_sem,reduceIte,Nat.reduceEqDiff,Nat.reduceAdd,Nat.reduceSub,Nat.reduceLeDiff,Nat.reduceLT,reduceCtorEq,Int.reduceLT,Int.reduceLE,Int.reduceEq,Int.reduceBEq,Int.reduceSub,Int.reduceAdd,Int.reduceMul,Int.reduceNeg,Int.reduceToNat,Nat.reduceMul,Nat.reduceBEq,okRefsP,renCellsP,okRefs_ints,renCells_ints,hs1,Int.natCast_one]<;>rfl)
 clear hg
 obtain ⟨rfl,g3,rfl⟩:=h2
 simp only [go_sem,reduceIte,Nat.reduceEqDiff,Nat.reduceAdd,Nat.reduceSub,Nat.reduceLeDiff,Nat.reduceLT,reduceCtorEq,Int.reduceLT,Int.reduceLE,Int.reduceEq,Int.reduceBEq,Int.reduceSub,Int.reduceAdd,Int.reduceMul,Int.reduceNeg,Int.reduceToNat,Nat.reduceMul,Nat.reduceBEq,g3,fin,pubsP,hgr,hlen,b1,sl_false]
 rw [if_pos (by omega)]
attribute [local go_sem] okRef_li storable_li shaped_li cells_li fin_li1 fin_li0 pub_li1 pub_li0
theorem index_prs (nl:Bool)(ps:List (Int×Int))(i:Nat)(h:i<ps.length):indexSAV 2 (sl 2 nl (ps.map prAV)) (.v (.int .i64 i))=some (.eptr (prAV (ps.getD i (0,0))) 0):=by
 rw [index_sl _ _ _ _ _ (by omega) (by simpa using h)]
 simp [List.getD_eq_getElem?_getD,h]
theorem slice_from (nl:Bool)(ps:List (Int×Int))(h:1<ps.length):sliceAV 2 (sl 2 nl (ps.map prAV)) (some (I 1)) none none=some (sl 2 false ((ps.drop 1).map prAV)):=by
 have hne:ps.map prAV≠[]:=by
  intro e;have:=congrArg List.length e;simp at this;subst this;simp at h
 rw [sl_ne hne]
 simp only [sliceAV,natOr,natOf,tagSlice,sl,List.map_drop,List.length_map]
 have e1:((0:Int)≤1):=by decide
 simp only [e1,if_true,if_pos]
 rw [if_pos ⟨by show (1:Nat)≤_;omega,Nat.le_refl _⟩,List.take_of_length_le (by simp)]
 simp
theorem append_li0 (o:List Int)(x:Int)(s:List (List AV))(h:o.length<1000000):appendAV 1 (liAV 0 o) [I x] ⟨s,liT 0 o⟩=some (liAV 0 (o++ [x]),⟨s,liT 0 (o++ [x])⟩):=append_li 0 o x s (Nat.zero_le _) h
theorem loop46 (A B:List AV)(hA:okRefs 2 A=true)(hA2: ∀n T acc,renCells n T acc A=(A,acc))(hB:okRefs 2 B=true)(hB2: ∀n T acc,renCells n T acc B=(B,acc))(ps:List (Int×Int))(hlen:ps.length≤100)(i:Nat)(o:List Int)(hok:i≤ps.length∧o.length=i)(env:Env)(st:St)
  (hg:gcAV true 2 0 (canon env [6,19,20,21]) st=([(6,liAV 0 o),(19,sl 2 false (ps.map prAV)),(20,I ps.length),(21,I i)],⟨[A,B],liT 0 o⟩)):
  ∃x_1 en s,lim (headed pure (run L) true [6,19,20,21] lp46_0 2 0) env st=some (x_1,en,s)∧(x_1=.exit 0∧en.get 6=liAV 0 (o++(ps.drop i).map fun p=>p.2)∧s=⟨[A,B],liT 0 (o++(ps.drop i).map fun p=>p.2)⟩):=by
 refine loop_wp (α:=Nat×List Int) (fun ⟨i,o⟩=>ps.length-i) (fun ⟨i,o⟩=>i≤ps.length∧o.length=i) (fun ⟨i,o⟩=>([(6,liAV 0 o),(19,sl 2 false (ps.map prAV)),(20,I ps.length),(21,I i)],⟨[A,B],liT 0 o⟩)) (fun ⟨i,o⟩ x_1 en s=>x_1=.exit 0∧en.get 6=liAV 0 (o++(ps.drop i).map fun p=>p.2)∧s=⟨[A,B],liT 0 (o++(ps.drop i).map fun p=>p.2)⟩) (fun ⟨i,o⟩ hok=> ?_) ⟨i,o⟩ hok env st hg
 simp only at hok
 obtain ⟨h1,h2⟩:=hok
 dsimp only at h1 h2⊢
 by_cases h:i<ps.length
 ·have hs:=succ64 i (by omega)
  have hlt:((i:Int)<(ps.length:Int))=True:=eq_true (by omega)
  have hx:=index_prs false ps i h
  have hd:ps.drop i=ps.getD i (0,0)::ps.drop (i+1):=by
   rw [List.drop_eq_getElem_cons h];simp [List.getD_eq_getElem?_getD,h]
  rw [hd,List.map_cons]
  generalize ps.getD i (0,0)=p at*
  have happ:=fun s=>append_li0 o p.2 s (by omega)
  have hap:o++p.2::(ps.drop (i+1)).map (fun p=>p.2)=(o++ [p.2])++(ps.drop (i+1)).map (fun p=>p.2):=by simp
  have hol:(o++ [p.2]).length=i+1:=by simp [h2]
  rw [hap]
  generalize o++ [p.2]=o2 at*
  have hren: ∀o:List Int,ren1 0 (liT 0 o) [] (liAV 0 o)=(liAV 0 o,liAcc 0 o):=ren1_li 0
  simp only [go_sem,reduceIte,Nat.reduceEqDiff,Nat.reduceAdd,Nat.reduceSub,Nat.reduceLeDiff,Nat.reduceLT,reduceCtorEq,Int.reduceLT,Int.reduceLE,Int.reduceEq,Int.reduceBEq,Int.reduceSub,Int.reduceAdd,Int.reduceMul,Int.reduceNeg,Int.reduceToNat,Nat.reduceMul,Nat.reduceBEq,index_rsl_if,setm,make_ints,condK_dec,wantK_dec,not_dec,and_dec,or_dec,seqK_ite,seqK_none,blockK_ite,blockK_none,opsK_ite,opsK_none,stepK_ite,stepK_none,bodyK_ite,bodyK_none,resK_ite,resK_none,leaveK_ite,leaveK_none,only_ite,only_none,bind_ite,gives_some,gives_none,gives_ite,then_normal,then_ret,then_exit,then_none,then_ite,Option.bind_none,Bool.not_eq_true',decide_eq_false_iff_not,Bool.and_eq_true,Bool.or_eq_true,Option.some.injEq,Int.not_lt,Int.not_le,lp46_0,hlt,hx,happ,hs]
  refine ⟨(i+1,o2),by simp only [go_sem,reduceIte,Nat.reduceEqDiff,Nat.reduceAdd,Nat.reduceSub,Nat.reduceLeDiff,Nat.reduceLT,reduceCtorEq,Int.reduceLT,Int.reduceLE,Int.reduceEq,Int.reduceBEq,Int.reduceSub,Int.reduceAdd,Int.reduceMul,Int.reduceNeg,Int.reduceToNat,Nat.reduceMul,Nat.reduceBEq,ren1_locm,loc_tips,locT_eq,hren,liAcc_snd,hA,hA2,hB,hB2]<;>rfl,?_,?_,fun x en s hq=> ?_⟩
  ·dsimp only;exact ⟨by omega,hol⟩
  ·dsimp only;omega
  ·exact hq
 ·have hlt:((i:Int)<(ps.length:Int))=False:=eq_false (by omega)
  have hd:ps.drop i=[]:=List.drop_eq_nil_of_le (by omega)
  rw [hd]
  simp only [go_sem,reduceIte,Nat.reduceEqDiff,Nat.reduceAdd,Nat.reduceSub,Nat.reduceLeDiff,Nat.reduceLT,reduceCtorEq,Int.reduceLT,Int.reduceLE,Int.reduceEq,Int.reduceBEq,Int.reduceSub,Int.reduceAdd,Int.reduceMul,Int.reduceNeg,Int.reduceToNat,Nat.reduceMul,Nat.reduceBEq,index_rsl_if,setm,make_ints,condK_dec,wantK_dec,not_dec,and_dec,or_dec,seqK_ite,seqK_none,blockK_ite,blockK_none,opsK_ite,opsK_none,stepK_ite,stepK_none,bodyK_ite,bodyK_none,resK_ite,resK_none,leaveK_ite,leaveK_none,only_ite,only_none,bind_ite,gives_some,gives_none,gives_ite,then_normal,then_ret,then_exit,then_none,then_ite,Option.bind_none,Bool.not_eq_true',decide_eq_false_iff_not,Bool.and_eq_true,Bool.or_eq_true,Option.some.injEq,Int.not_lt,Int.not_le,lp46_0,hlt]
theorem c46 (nl:Bool)(w:Int)(ws:List Int)(hT:TextOk w ws)(st:St):
  run L 46 [txAV nl w ws] st=some (.tup [sl 1 true (((List.range ws.length).map (startZ (lsum ws) w ws.length)).map I),I 0],st):=by
 rw [run_pure (fn:=ir46) rfl rfl]
 have hS:=sums_ok hT
 have h82:=fun st=>c82 nl w ws hT st
 have hb: ∀x∈lsum ws,0≤x∧x≤100000:=fun x hx=>by
  have:=lsum_bound hT.each hT.w2 x hx
  have:=hT.n2
  omega
 have hl:=lsum_len ws
 have h109:=fun st=>c109 w ws.length (lsum ws) hS hb hl st
 have hpl:=placesTo_len (lsum ws) w ws.length ws.length
 have hn1:=hT.n1
 have hn2:=hT.n2
 have hsl:=slice_from false (placesTo (lsum ws) w ws.length ws.length) (by omega)
 have hst:((placesTo (lsum ws) w ws.length ws.length).drop 1).map (fun p=>p.2)=(List.range ws.length).map (startZ (lsum ws) w ws.length):=by
  apply List.ext_getElem
  ·simp [hpl]
  ·intro i h1 h2
   simp at h1
   simp [startZ,List.getD_eq_getElem?_getD,Nat.add_comm 1 i]
   rw [List.getElem?_eq_getElem (by omega)];rfl
 have hdl:((placesTo (lsum ws) w ws.length ws.length).drop 1).length=ws.length:=by rw [List.length_drop,hpl];omega
 have hA2: ∀n T acc,renCells n T acc [I w,sl 1 nl (ws.map I)]=([I w,sl 1 nl (ws.map I)],acc):=fun n T acc=>by simp only [go_sem,reduceIte,Nat.reduceEqDiff,Nat.reduceAdd,Nat.reduceSub,Nat.reduceLeDiff,Nat.reduceLT,reduceCtorEq,Int.reduceLT,Int.reduceLE,Int.reduceEq,Int.reduceBEq,Int.reduceSub,Int.reduceAdd,Int.reduceMul,Int.reduceNeg,Int.reduceToNat,Nat.reduceMul,Nat.reduceBEq]
 have hB2: ∀n T acc,renCells n T acc [I w,sl 1 false ((lsum ws).map I)]=([I w,sl 1 false ((lsum ws).map I)],acc):=fun n T acc=>by simp only [go_sem,reduceIte,Nat.reduceEqDiff,Nat.reduceAdd,Nat.reduceSub,Nat.reduceLeDiff,Nat.reduceLT,reduceCtorEq,Int.reduceLT,Int.reduceLE,Int.reduceEq,Int.reduceBEq,Int.reduceSub,Int.reduceAdd,Int.reduceMul,Int.reduceNeg,Int.reduceToNat,Nat.reduceMul,Nat.reduceBEq]
 simp only [ir46,go_sem,reduceIte,Nat.reduceEqDiff,Nat.reduceAdd,Nat.reduceSub,Nat.reduceLeDiff,Nat.reduceLT,reduceCtorEq,Int.reduceLT,Int.reduceLE,Int.reduceEq,Int.reduceBEq,Int.reduceSub,Int.reduceAdd,Int.reduceMul,Int.reduceNeg,Int.reduceToNat,Nat.reduceMul,Nat.reduceBEq,h82,h109,hsl,List.length_map]
 generalize (placesTo (lsum ws) w ws.length ws.length).drop 1=D at*
 generalize hg:lim (headed pure (run L) true _ lp46_0 _ _) _ _=o
 obtain ⟨x,en,s,rfl,h2⟩: ∃x en s,o=some (x,en,s)∧_:=by rw [←hg];exact loop46 [I w,sl 1 nl (ws.map I)] [I w,sl 1 false ((lsum ws).map I)] (by simp only [go_sem,reduceIte,Nat.reduceEqDiff,Nat.reduceAdd,Nat.reduceSub,Nat.reduceLeDiff,Nat.reduceLT,reduceCtorEq,Int.reduceLT,Int.reduceLE,Int.reduceEq,Int.reduceBEq,Int.reduceSub,Int.reduceAdd,Int.reduceMul,Int.reduceNeg,Int.reduceToNat,Nat.reduceMul,Nat.reduceBEq]) hA2 (by simp only [go_sem,reduceIte,Nat.reduceEqDiff,Nat.reduceAdd,Nat.reduceSub,Nat.reduceLeDiff,Nat.reduceLT,reduceCtorEq,Int.reduceLT,Int.reduceLE,Int.reduceEq,Int.reduceBEq,Int.reduceSub,Int.reduceAdd,Int.reduceMul,Int.reduceNeg,Int.reduceToNat,Nat.reduceMul,Nat.reduceBEq]) hB2 D (by omega) 0 [] ⟨by omega,rfl⟩ _ _ (by simp only [go_sem,reduceIte,Nat.reduceEqDiff,Nat.reduceAdd,Nat.reduceSub,Nat.reduceLeDiff,Nat.reduceLT,reduceCtorEq,Int.reduceLT,Int.reduceLE,Int.reduceEq,Int.reduceBEq,Int.reduceSub,Int.reduceAdd,Int.reduceMul,Int.reduceNeg,Int.reduceToNat,Nat.reduceMul,Nat.reduceBEq,←li_start,liT_nil,Int.natCast_zero]<;>rfl)
 clear hg
 rw [List.drop_zero,List.nil_append,hst] at h2
 obtain ⟨rfl,g6,rfl⟩:=h2
 simp only [go_sem,reduceIte,Nat.reduceEqDiff,Nat.reduceAdd,Nat.reduceSub,Nat.reduceLeDiff,Nat.reduceLT,reduceCtorEq,Int.reduceLT,Int.reduceLE,Int.reduceEq,Int.reduceBEq,Int.reduceSub,Int.reduceAdd,Int.reduceMul,Int.reduceNeg,Int.reduceToNat,Nat.reduceMul,Nat.reduceBEq,g6]
abbrev srAV (ss:List (Int×Int)):AV:=sl 2 true (ss.map prAV)
structure SrcOk (ss:List (Int×Int)):Prop where
 n1:1≤ss.length
 n2:ss.length≤8
 each: ∀p∈ss,0≤p.1∧p.1≤100∧1≤p.2∧p.2≤9
 rise: ∀i,i+1<ss.length→(ss.getD i (0,0)).1≤(ss.getD (i+1) (0,0)).1
theorem getD_in {α:Type} (L:List α)(i:Nat)(d:α)(h:i<L.length):L.getD i d∈L:=by
 rw [List.getD_eq_getElem?_getD,List.getElem?_eq_getElem h];exact List.getElem_mem h
theorem loop110 (ss:List (Int×Int))(hS:SrcOk ss)(i:Nat)(hok:i≤ss.length)(env:Env)(st:St)
  (hg:gcAV true 0 0 (canon env [13,14,15]) st=([(13,srAV ss),(14,I ss.length),(15,I i)],⟨[],[]⟩)):
  ∃x_1 en s,lim (headed pure (run L) true [13,14,15] lp110_0 0 0) env st=some (x_1,en,s)∧(x_1=.exit 1∧s=⟨[],[]⟩):=by
 refine loop_wp (α:=Nat) (fun i=>ss.length-i) (fun i=>i≤ss.length) (fun i=>([(13,srAV ss),(14,I ss.length),(15,I i)],⟨[],[]⟩)) (fun i x_1 en s=>x_1=.exit 1∧s=⟨[],[]⟩) (fun i hok=> ?_) i hok env st hg
 by_cases h:i<ss.length
 ·have hn2:=hS.n2
  have hs:=succ64 i (by omega)
  have hlt:((i:Int)<(ss.length:Int))=True:=eq_true (by omega)
  have hx:=index_prs true ss i h
  have he:=hS.each _ (getD_in ss i (0,0) h)
  generalize ss.getD i (0,0)=p at*
  have p1:(p.1<0)=False:=eq_false (by omega)
  have p2:(100<p.1)=False:=eq_false (by omega)
  have p3:(p.2<1)=False:=eq_false (by omega)
  have p4:(9<p.2)=False:=eq_false (by omega)
  simp only [go_sem,reduceIte,Nat.reduceEqDiff,Nat.reduceAdd,Nat.reduceSub,Nat.reduceLeDiff,Nat.reduceLT,reduceCtorEq,Int.reduceLT,Int.reduceLE,Int.reduceEq,Int.reduceBEq,Int.reduceSub,Int.reduceAdd,Int.reduceMul,Int.reduceNeg,Int.reduceToNat,Nat.reduceMul,Nat.reduceBEq,index_rsl_if,setm,make_ints,condK_dec,wantK_dec,not_dec,and_dec,or_dec,seqK_ite,seqK_none,blockK_ite,blockK_none,opsK_ite,opsK_none,stepK_ite,stepK_none,bodyK_ite,bodyK_none,resK_ite,resK_none,leaveK_ite,leaveK_none,only_ite,only_none,bind_ite,gives_some,gives_none,gives_ite,then_normal,then_ret,then_exit,then_none,then_ite,Option.bind_none,Bool.not_eq_true',decide_eq_false_iff_not,Bool.and_eq_true,Bool.or_eq_true,Option.some.injEq,Int.not_lt,Int.not_le,lp110_0,hlt,hx,p1,p2,p3,p4,hs]
  refine ⟨(i+1),by simp only [go_sem,reduceIte,Nat.reduceEqDiff,Nat.reduceAdd,Nat.reduceSub,Nat.reduceLeDiff,Nat.reduceLT,reduceCtorEq,Int.reduceLT,Int.reduceLE,Int.reduceEq,Int.reduceBEq,Int.reduceSub,Int.reduceAdd,Int.reduceMul,Int.reduceNeg,Int.reduceToNat,Nat.reduceMul,Nat.reduceBEq,ren1_locm,loc_tips,locT_eq]<;>rfl,?_,?_,fun x en s hq=> ?_⟩
  all_goals first|exact hq|omega
 ·have hlt:((i:Int)<(ss.length:Int))=False:=eq_false (by omega)
  simp only [go_sem,reduceIte,Nat.reduceEqDiff,Nat.reduceAdd,Nat.reduceSub,Nat.reduceLeDiff,Nat.reduceLT,reduceCtorEq,Int.reduceLT,Int.reduceLE,Int.reduceEq,Int.reduceBEq,Int.reduceSub,Int.reduceAdd,Int.reduceMul,Int.reduceNeg,Int.reduceToNat,Nat.reduceMul,Nat.reduceBEq,index_rsl_if,setm,make_ints,condK_dec,wantK_dec,not_dec,and_dec,or_dec,seqK_ite,seqK_none,blockK_ite,blockK_none,opsK_ite,opsK_none,stepK_ite,stepK_none,bodyK_ite,bodyK_none,resK_ite,resK_none,leaveK_ite,leaveK_none,only_ite,only_none,bind_ite,gives_some,gives_none,gives_ite,then_normal,then_ret,then_exit,then_none,then_ite,Option.bind_none,Bool.not_eq_true',decide_eq_false_iff_not,Bool.and_eq_true,Bool.or_eq_true,Option.some.injEq,Int.not_lt,Int.not_le,lp110_0,hlt]
theorem c110 (ss:List (Int×Int))(hS:SrcOk ss)(st:St):run L 110 [srAV ss] st=some (I 0,st):=by
 rw [run_pure (fn:=ir110) rfl rfl]
 have h1:=hS.n1
 have h2:=hS.n2
 have p:((ss.length:Int)=0)=False:=eq_false (by omega)
 have q:((8:Int)<(ss.length:Int))=False:=eq_false (by omega)
 simp only [ir110,go_sem,reduceIte,Nat.reduceEqDiff,Nat.reduceAdd,Nat.reduceSub,Nat.reduceLeDiff,Nat.reduceLT,reduceCtorEq,Int.reduceLT,Int.reduceLE,Int.reduceEq,Int.reduceBEq,Int.reduceSub,Int.reduceAdd,Int.reduceMul,Int.reduceNeg,Int.reduceToNat,Nat.reduceMul,Nat.reduceBEq,List.length_map,p,q]
 generalize hg:lim (headed pure (run L) true _ lp110_0 _ _) _ _=o
 obtain ⟨x,en,s,rfl,h2⟩: ∃x en s,o=some (x,en,s)∧_:=by rw [←hg];exact loop110 ss hS 0 (by omega) _ _ (by simp only [go_sem,reduceIte,Nat.reduceEqDiff,Nat.reduceAdd,Nat.reduceSub,Nat.reduceLeDiff,Nat.reduceLT,reduceCtorEq,Int.reduceLT,Int.reduceLE,Int.reduceEq,Int.reduceBEq,Int.reduceSub,Int.reduceAdd,Int.reduceMul,Int.reduceNeg,Int.reduceToNat,Nat.reduceMul,Nat.reduceBEq,Int.natCast_zero]<;>rfl)
 clear hg
 obtain ⟨rfl,rfl⟩:=h2
 simp only [go_sem,reduceIte,Nat.reduceEqDiff,Nat.reduceAdd,Nat.reduceSub,Nat.reduceLeDiff,Nat.reduceLT,reduceCtorEq,Int.reduceLT,Int.reduceLE,Int.reduceEq,Int.reduceBEq,Int.reduceSub,Int.reduceAdd,Int.reduceMul,Int.reduceNeg,Int.reduceToNat,Nat.reduceMul,Nat.reduceBEq]
theorem loop47 (ss:List (Int×Int))(hS:SrcOk ss)(i:Nat)(hok:i+1≤ss.length)(env:Env)(st:St)
  (hg:gcAV true 0 0 (canon env [0,13,14]) st=([(0,srAV ss),(13,I (ss.length-1:Nat)),(14,I i)],⟨[],[]⟩)):
  ∃x_1 en s,lim (headed pure (run L) true [0,13,14] lp47_0 0 0) env st=some (x_1,en,s)∧(x_1=.exit 0∧s=⟨[],[]⟩):=by
 refine loop_wp (α:=Nat) (fun i=>ss.length-i) (fun i=>i+1≤ss.length) (fun i=>([(0,srAV ss),(13,I (ss.length-1:Nat)),(14,I i)],⟨[],[]⟩)) (fun i x_1 en s=>x_1=.exit 0∧s=⟨[],[]⟩) (fun i hok=> ?_) i hok env st hg
 have hn2:=hS.n2
 by_cases h:i+1<ss.length
 ·have hs:=succ64 i (by omega)
  have hlt:((i:Int)<((ss.length-1:Nat):Int))=True:=eq_true (by omega)
  have hx:=index_prs true ss i (by omega)
  have hx2:=index_prs true ss (i+1) h
  have hr:=hS.rise i h
  generalize ss.getD i (0,0)=p at*
  generalize ss.getD (i+1) (0,0)=q at*
  have p1:(q.1<p.1)=False:=eq_false (by omega)
  simp only [go_sem,reduceIte,Nat.reduceEqDiff,Nat.reduceAdd,Nat.reduceSub,Nat.reduceLeDiff,Nat.reduceLT,reduceCtorEq,Int.reduceLT,Int.reduceLE,Int.reduceEq,Int.reduceBEq,Int.reduceSub,Int.reduceAdd,Int.reduceMul,Int.reduceNeg,Int.reduceToNat,Nat.reduceMul,Nat.reduceBEq,index_rsl_if,setm,make_ints,condK_dec,wantK_dec,not_dec,and_dec,or_dec,seqK_ite,seqK_none,blockK_ite,blockK_none,opsK_ite,opsK_none,stepK_ite,stepK_none,bodyK_ite,bodyK_none,resK_ite,resK_none,leaveK_ite,leaveK_none,only_ite,only_none,bind_ite,gives_some,gives_none,gives_ite,then_normal,then_ret,then_exit,then_none,then_ite,Option.bind_none,Bool.not_eq_true',decide_eq_false_iff_not,Bool.and_eq_true,Bool.or_eq_true,Option.some.injEq,Int.not_lt,Int.not_le,lp47_0,hlt,hx,hx2,p1,hs]
  refine ⟨(i+1),by simp only [go_sem,reduceIte,Nat.reduceEqDiff,Nat.reduceAdd,Nat.reduceSub,Nat.reduceLeDiff,Nat.reduceLT,reduceCtorEq,Int.reduceLT,Int.reduceLE,Int.reduceEq,Int.reduceBEq,Int.reduceSub,Int.reduceAdd,Int.reduceMul,Int.reduceNeg,Int.reduceToNat,Nat.reduceMul,Nat.reduceBEq,ren1_locm,loc_tips,locT_eq]<;>rfl,?_,?_,fun x en s hq=> ?_⟩
  all_goals first|exact hq|omega
 ·have hlt:((i:Int)<((ss.length-1:Nat):Int))=False:=eq_false (by omega)
  simp only [go_sem,reduceIte,Nat.reduceEqDiff,Nat.reduceAdd,Nat.reduceSub,Nat.reduceLeDiff,Nat.reduceLT,reduceCtorEq,Int.reduceLT,Int.reduceLE,Int.reduceEq,Int.reduceBEq,Int.reduceSub,Int.reduceAdd,Int.reduceMul,Int.reduceNeg,Int.reduceToNat,Nat.reduceMul,Nat.reduceBEq,index_rsl_if,setm,make_ints,condK_dec,wantK_dec,not_dec,and_dec,or_dec,seqK_ite,seqK_none,blockK_ite,blockK_none,opsK_ite,opsK_none,stepK_ite,stepK_none,bodyK_ite,bodyK_none,resK_ite,resK_none,leaveK_ite,leaveK_none,only_ite,only_none,bind_ite,gives_some,gives_none,gives_ite,then_normal,then_ret,then_exit,then_none,then_ite,Option.bind_none,Bool.not_eq_true',decide_eq_false_iff_not,Bool.and_eq_true,Bool.or_eq_true,Option.some.injEq,Int.not_lt,Int.not_le,lp47_0,hlt]
theorem c47 (ss:List (Int×Int))(hS:SrcOk ss)(st:St):run L 47 [srAV ss] st=some (.tup [I 0,I 13],st):=by
 rw [run_pure (fn:=ir47) rfl rfl]
 have h1:=hS.n1
 have h2:=hS.n2
 have h110:=fun st=>c110 ss hS st
 have hw:IntKind.i64.wrap ((ss.length:Int)-1)=((ss.length-1:Nat):Int):=by rw [wrap64]<;>omega
 simp only [ir47,go_sem,reduceIte,Nat.reduceEqDiff,Nat.reduceAdd,Nat.reduceSub,Nat.reduceLeDiff,Nat.reduceLT,reduceCtorEq,Int.reduceLT,Int.reduceLE,Int.reduceEq,Int.reduceBEq,Int.reduceSub,Int.reduceAdd,Int.reduceMul,Int.reduceNeg,Int.reduceToNat,Nat.reduceMul,Nat.reduceBEq,List.length_map,h110,hw]
 generalize hg:lim (headed pure (run L) true _ lp47_0 _ _) _ _=o
 obtain ⟨x,en,s,rfl,h2⟩: ∃x en s,o=some (x,en,s)∧_:=by rw [←hg];exact loop47 ss hS 0 (by omega) _ _ (by simp only [go_sem,reduceIte,Nat.reduceEqDiff,Nat.reduceAdd,Nat.reduceSub,Nat.reduceLeDiff,Nat.reduceLT,reduceCtorEq,Int.reduceLT,Int.reduceLE,Int.reduceEq,Int.reduceBEq,Int.reduceSub,Int.reduceAdd,Int.reduceMul,Int.reduceNeg,Int.reduceToNat,Nat.reduceMul,Nat.reduceBEq,Int.natCast_zero]<;>rfl)
 clear hg
 obtain ⟨rfl,rfl⟩:=h2
 simp only [go_sem,reduceIte,Nat.reduceEqDiff,Nat.reduceAdd,Nat.reduceSub,Nat.reduceLeDiff,Nat.reduceLT,reduceCtorEq,Int.reduceLT,Int.reduceLE,Int.reduceEq,Int.reduceBEq,Int.reduceSub,Int.reduceAdd,Int.reduceMul,Int.reduceNeg,Int.reduceToNat,Nat.reduceMul,Nat.reduceBEq]
theorem shr_zero (i:Nat):binAV .shr none (I 0) (I (i:Int))=some (I 0):=by
 show (if (i:Int)<0 then none else some (AV.v (.int .i64 (Int.fdiv 0 (2^min (Int.toNat (i:Int)) 64)))))=_
 rw [if_neg (by omega),Int.zero_fdiv]
theorem and_zero:binAV .and none (I 0) (I 1)=some (I 0):=rfl
attribute [local go_sem high] shr_zero and_zero
theorem loop49_0 (ss:List (Int×Int))(hS:SrcOk ss)(m:Int)(i:Nat)(last:Int)(hok:i≤ss.length∧(i<ss.length→last≤(ss.getD i (0,0)).1))(env:Env)(st:St)
  (hg:gcAV true 0 0 (canon env [0,5,6,7,8,9,19,20,23,24,25]) st=([(0,srAV ss),(5,.v (.slice none 0 0)),(6,I 0),(7,.v (.slice none 0 0)),(8,I last),(9,B true),(19,I m),(20,I 0),(23,srAV ss),(24,I ss.length),(25,I i)],⟨[],[]⟩)):
  ∃x_1 en s,lim (headed pure (run L) true [0,5,6,7,8,9,19,20,23,24,25] lp49_0 0 0) env st=some (x_1,en,s)∧(x_1=.exit 2∧en.get 5=.v (.slice none 0 0)∧en.get 7=.v (.slice none 0 0)∧en.get 9=B true∧s=⟨[],[]⟩):=by
 refine loop_wp (α:=Nat×Int) (fun ⟨i,last⟩=>ss.length-i) (fun ⟨i,last⟩=>i≤ss.length∧(i<ss.length→last≤(ss.getD i (0,0)).1)) (fun ⟨i,last⟩=>([(0,srAV ss),(5,.v (.slice none 0 0)),(6,I 0),(7,.v (.slice none 0 0)),(8,I last),(9,B true),(19,I m),(20,I 0),(23,srAV ss),(24,I ss.length),(25,I i)],⟨[],[]⟩)) (fun ⟨i,last⟩ x_1 en s=>x_1=.exit 2∧en.get 5=.v (.slice none 0 0)∧en.get 7=.v (.slice none 0 0)∧en.get 9=B true∧s=⟨[],[]⟩) (fun ⟨i,last⟩ hok=> ?_) ⟨i,last⟩ hok env st hg
 simp only at hok
 obtain ⟨h1,h2⟩:=hok
 dsimp only at h1 h2⊢
 have hn2:=hS.n2
 by_cases h:i<ss.length
 ·have hs:=succ64 i (by omega)
  have hlt:((i:Int)<(ss.length:Int))=True:=eq_true (by omega)
  have hx:=index_prs true ss i (by omega)
  have hr:=hS.rise i
  have h3:=h2 h
  generalize ss.getD i (0,0)=p at*
  have p1:(last≤p.1)=True:=eq_true (by omega)
  simp only [go_sem,reduceIte,Nat.reduceEqDiff,Nat.reduceAdd,Nat.reduceSub,Nat.reduceLeDiff,Nat.reduceLT,reduceCtorEq,Int.reduceLT,Int.reduceLE,Int.reduceEq,Int.reduceBEq,Int.reduceSub,Int.reduceAdd,Int.reduceMul,Int.reduceNeg,Int.reduceToNat,Nat.reduceMul,Nat.reduceBEq,index_rsl_if,setm,make_ints,condK_dec,wantK_dec,not_dec,and_dec,or_dec,seqK_ite,seqK_none,blockK_ite,blockK_none,opsK_ite,opsK_none,stepK_ite,stepK_none,bodyK_ite,bodyK_none,resK_ite,resK_none,leaveK_ite,leaveK_none,only_ite,only_none,bind_ite,gives_some,gives_none,gives_ite,then_normal,then_ret,then_exit,then_none,then_ite,Option.bind_none,Bool.not_eq_true',decide_eq_false_iff_not,Bool.and_eq_true,Bool.or_eq_true,Option.some.injEq,Int.not_lt,Int.not_le,lp49_0,hlt,hx,p1,hs]
  refine ⟨(i+1,p.1),by simp only [go_sem,reduceIte,Nat.reduceEqDiff,Nat.reduceAdd,Nat.reduceSub,Nat.reduceLeDiff,Nat.reduceLT,reduceCtorEq,Int.reduceLT,Int.reduceLE,Int.reduceEq,Int.reduceBEq,Int.reduceSub,Int.reduceAdd,Int.reduceMul,Int.reduceNeg,Int.reduceToNat,Nat.reduceMul,Nat.reduceBEq,ren1_locm,loc_tips,locT_eq]<;>rfl,?_,?_,fun x en s hq=> ?_⟩
  ·dsimp only;exact ⟨by omega,hr⟩
  ·dsimp only;omega
  ·exact hq
 ·have hlt:((i:Int)<(ss.length:Int))=False:=eq_false (by omega)
  simp only [go_sem,reduceIte,Nat.reduceEqDiff,Nat.reduceAdd,Nat.reduceSub,Nat.reduceLeDiff,Nat.reduceLT,reduceCtorEq,Int.reduceLT,Int.reduceLE,Int.reduceEq,Int.reduceBEq,Int.reduceSub,Int.reduceAdd,Int.reduceMul,Int.reduceNeg,Int.reduceToNat,Nat.reduceMul,Nat.reduceBEq,index_rsl_if,setm,make_ints,condK_dec,wantK_dec,not_dec,and_dec,or_dec,seqK_ite,seqK_none,blockK_ite,blockK_none,opsK_ite,opsK_none,stepK_ite,stepK_none,bodyK_ite,bodyK_none,resK_ite,resK_none,leaveK_ite,leaveK_none,only_ite,only_none,bind_ite,gives_some,gives_none,gives_ite,then_normal,then_ret,then_exit,then_none,then_ite,Option.bind_none,Bool.not_eq_true',decide_eq_false_iff_not,Bool.and_eq_true,Bool.or_eq_true,Option.some.injEq,Int.not_lt,Int.not_le,lp49_0,hlt]
theorem loop49_1 (ss:List (Int×Int))(hS:SrcOk ss)(m:Int)(hm:0<m)(i:Nat)(hok:i=0)(env:Env)(st:St)
  (hg:gcAV true 0 0 (canon env [0,5,19,20]) st=([(0,srAV ss),(5,.v (.slice none 0 0)),(19,I m),(20,I i)],⟨[],[]⟩)):
  ∃x_1 en s,lim (headed pure (run L) true [0,5,19,20] lp49_1 0 0) env st=some (x_1,en,s)∧(x_1=.ret∧en.get 2=.v (.slice none 0 0)∧en.get 3=I 0):=by
 refine loop_wp (α:=Nat) (fun i=>i) (fun i=>i=0) (fun i=>([(0,srAV ss),(5,.v (.slice none 0 0)),(19,I m),(20,I i)],⟨[],[]⟩)) (fun i x_1 en s=>x_1=.ret∧en.get 2=.v (.slice none 0 0)∧en.get 3=I 0) (fun i hok=> ?_) i hok env st hg
 subst hok
 have hlt:((0:Int)<m)=True:=eq_true hm
 have hn1:=hS.n1
 have he:=hS.each _ (getD_in ss 0 (0,0) (by omega))
 simp only [go_sem,reduceIte,Nat.reduceEqDiff,Nat.reduceAdd,Nat.reduceSub,Nat.reduceLeDiff,Nat.reduceLT,reduceCtorEq,Int.reduceLT,Int.reduceLE,Int.reduceEq,Int.reduceBEq,Int.reduceSub,Int.reduceAdd,Int.reduceMul,Int.reduceNeg,Int.reduceToNat,Nat.reduceMul,Nat.reduceBEq,index_rsl_if,setm,make_ints,condK_dec,wantK_dec,not_dec,and_dec,or_dec,seqK_ite,seqK_none,blockK_ite,blockK_none,opsK_ite,opsK_none,stepK_ite,stepK_none,bodyK_ite,bodyK_none,resK_ite,resK_none,leaveK_ite,leaveK_none,only_ite,only_none,bind_ite,gives_some,gives_none,gives_ite,then_normal,then_ret,then_exit,then_none,then_ite,Option.bind_none,Bool.not_eq_true',decide_eq_false_iff_not,Bool.and_eq_true,Bool.or_eq_true,Option.some.injEq,Int.not_lt,Int.not_le,lp49_1,hlt,Int.natCast_zero,List.length_map]
 generalize hg:lim (headed pure (run L) true _ lp49_0 _ _) _ _=o
 obtain ⟨x,en,s,rfl,h2⟩: ∃x en s,o=some (x,en,s)∧_:=by rw [←hg];exact loop49_0 ss hS m 0 (-1) ⟨by omega,fun _=>by omega⟩ _ _ (by simp only [go_sem,reduceIte,Nat.reduceEqDiff,Nat.reduceAdd,Nat.reduceSub,Nat.reduceLeDiff,Nat.reduceLT,reduceCtorEq,Int.reduceLT,Int.reduceLE,Int.reduceEq,Int.reduceBEq,Int.reduceSub,Int.reduceAdd,Int.reduceMul,Int.reduceNeg,Int.reduceToNat,Nat.reduceMul,Nat.reduceBEq,Int.natCast_zero]<;>rfl)
 clear hg
 obtain ⟨rfl,g5,g7,g9,rfl⟩:=h2
 simp only [go_sem,reduceIte,Nat.reduceEqDiff,Nat.reduceAdd,Nat.reduceSub,Nat.reduceLeDiff,Nat.reduceLT,reduceCtorEq,Int.reduceLT,Int.reduceLE,Int.reduceEq,Int.reduceBEq,Int.reduceSub,Int.reduceAdd,Int.reduceMul,Int.reduceNeg,Int.reduceToNat,Nat.reduceMul,Nat.reduceBEq,index_rsl_if,setm,make_ints,condK_dec,wantK_dec,not_dec,and_dec,or_dec,seqK_ite,seqK_none,blockK_ite,blockK_none,opsK_ite,opsK_none,stepK_ite,stepK_none,bodyK_ite,bodyK_none,resK_ite,resK_none,leaveK_ite,leaveK_none,only_ite,only_none,bind_ite,gives_some,gives_none,gives_ite,then_normal,then_ret,then_exit,then_none,then_ite,Option.bind_none,Bool.not_eq_true',decide_eq_false_iff_not,Bool.and_eq_true,Bool.or_eq_true,Option.some.injEq,Int.not_lt,Int.not_le,lp49_1,g5,g7,g9]
theorem c49 (ss:List (Int×Int))(hS:SrcOk ss)(st:St):run L 49 [srAV ss] st=some (.tup [.v (.slice none 0 0),I 0],st):=by
 rw [run_pure (fn:=ir49) rfl rfl]
 have h1:=hS.n1
 have h2:=hS.n2
 have h110:=fun st=>c110 ss hS st
 obtain ⟨m,hm,hsh⟩: ∃m:Int,0<m∧binAV .shl none (I 1) (I (ss.length:Int))=some (I m):=by
  have:(List.range 9).all (fun k=>match binAV .shl none (I 1) (I (k:Int)) with|some (.v (.int .i64 m))=>decide (0<m)|_=>false)=true:=by kernel_rfl
  have:=List.all_eq_true.1 this ss.length (List.mem_range.2 (by omega))
  split at this
  ·next m e=>exact ⟨m,of_decide_eq_true this,e⟩
  ·cases this
 simp only [ir49,go_sem,reduceIte,Nat.reduceEqDiff,Nat.reduceAdd,Nat.reduceSub,Nat.reduceLeDiff,Nat.reduceLT,reduceCtorEq,Int.reduceLT,Int.reduceLE,Int.reduceEq,Int.reduceBEq,Int.reduceSub,Int.reduceAdd,Int.reduceMul,Int.reduceNeg,Int.reduceToNat,Nat.reduceMul,Nat.reduceBEq,List.length_map,h110,hsh]
 generalize hg:lim (headed pure (run L) true _ lp49_1 _ _) _ _=o
 obtain ⟨x,en,s,rfl,h2⟩: ∃x en s,o=some (x,en,s)∧_:=by rw [←hg];exact loop49_1 ss hS m hm 0 rfl _ _ (by simp only [go_sem,reduceIte,Nat.reduceEqDiff,Nat.reduceAdd,Nat.reduceSub,Nat.reduceLeDiff,Nat.reduceLT,reduceCtorEq,Int.reduceLT,Int.reduceLE,Int.reduceEq,Int.reduceBEq,Int.reduceSub,Int.reduceAdd,Int.reduceMul,Int.reduceNeg,Int.reduceToNat,Nat.reduceMul,Nat.reduceBEq,Int.natCast_zero]<;>rfl)
 clear hg
 obtain ⟨rfl,g2,g3⟩:=h2
 simp only [go_sem,reduceIte,Nat.reduceEqDiff,Nat.reduceAdd,Nat.reduceSub,Nat.reduceLeDiff,Nat.reduceLT,reduceCtorEq,Int.reduceLT,Int.reduceLE,Int.reduceEq,Int.reduceBEq,Int.reduceSub,Int.reduceAdd,Int.reduceMul,Int.reduceNeg,Int.reduceToNat,Nat.reduceMul,Nat.reduceBEq,g2,g3]
theorem loop257 (T:Int)(hT:1≤T)(a:Int)(b:Int)(hok:0≤a∧((b=T∧a % T=0)∨(a=T∧b=0)))(env:Env)(st:St)
  (hg:gcAV true 0 0 (canon env [0,1]) st=([(0,I a),(1,I b)],⟨[],[]⟩)):
  ∃x_1 en s,lim (headed pure (run L) true [0,1] lp257_0 0 0) env st=some (x_1,en,s)∧(x_1=.exit 0∧en.get 0=I T):=by
 refine loop_wp (α:=Int×Int) (fun ⟨a,b⟩=>b.toNat) (fun ⟨a,b⟩=>0≤a∧((b=T∧a % T=0)∨(a=T∧b=0))) (fun ⟨a,b⟩=>([(0,I a),(1,I b)],⟨[],[]⟩)) (fun ⟨a,b⟩ x_1 en s=>x_1=.exit 0∧en.get 0=I T) (fun ⟨a,b⟩ hok=> ?_) ⟨a,b⟩ hok env st hg
 simp only at hok
 obtain ⟨h0,h1⟩:=hok
 dsimp only at h0 h1⊢
 rcases h1 with ⟨rfl,h2⟩ | ⟨rfl,rfl⟩
 ·have hz:(b=0)=False:=eq_false (by omega)
  have ht:a.tmod b=0:=by rw [Int.tmod_eq_emod_of_nonneg h0];exact h2
  simp only [go_sem,reduceIte,Nat.reduceEqDiff,Nat.reduceAdd,Nat.reduceSub,Nat.reduceLeDiff,Nat.reduceLT,reduceCtorEq,Int.reduceLT,Int.reduceLE,Int.reduceEq,Int.reduceBEq,Int.reduceSub,Int.reduceAdd,Int.reduceMul,Int.reduceNeg,Int.reduceToNat,Nat.reduceMul,Nat.reduceBEq,index_rsl_if,setm,make_ints,condK_dec,wantK_dec,not_dec,and_dec,or_dec,seqK_ite,seqK_none,blockK_ite,blockK_none,opsK_ite,opsK_none,stepK_ite,stepK_none,bodyK_ite,bodyK_none,resK_ite,resK_none,leaveK_ite,leaveK_none,only_ite,only_none,bind_ite,gives_some,gives_none,gives_ite,then_normal,then_ret,then_exit,then_none,then_ite,Option.bind_none,Bool.not_eq_true',decide_eq_false_iff_not,Bool.and_eq_true,Bool.or_eq_true,Option.some.injEq,Int.not_lt,Int.not_le,lp257_0,hz,ht]
  refine ⟨(b,0),by simp only [go_sem,reduceIte,Nat.reduceEqDiff,Nat.reduceAdd,Nat.reduceSub,Nat.reduceLeDiff,Nat.reduceLT,reduceCtorEq,Int.reduceLT,Int.reduceLE,Int.reduceEq,Int.reduceBEq,Int.reduceSub,Int.reduceAdd,Int.reduceMul,Int.reduceNeg,Int.reduceToNat,Nat.reduceMul,Nat.reduceBEq,ren1_locm,loc_tips,locT_eq]<;>rfl,?_,?_,fun x en s hq=> ?_⟩
  ·dsimp only;exact ⟨by omega,.inr ⟨rfl,rfl⟩⟩
  ·dsimp only;omega
  ·exact hq
 ·simp only [go_sem,reduceIte,Nat.reduceEqDiff,Nat.reduceAdd,Nat.reduceSub,Nat.reduceLeDiff,Nat.reduceLT,reduceCtorEq,Int.reduceLT,Int.reduceLE,Int.reduceEq,Int.reduceBEq,Int.reduceSub,Int.reduceAdd,Int.reduceMul,Int.reduceNeg,Int.reduceToNat,Nat.reduceMul,Nat.reduceBEq,index_rsl_if,setm,make_ints,condK_dec,wantK_dec,not_dec,and_dec,or_dec,seqK_ite,seqK_none,blockK_ite,blockK_none,opsK_ite,opsK_none,stepK_ite,stepK_none,bodyK_ite,bodyK_none,resK_ite,resK_none,leaveK_ite,leaveK_none,only_ite,only_none,bind_ite,gives_some,gives_none,gives_ite,then_normal,then_ret,then_exit,then_none,then_ite,Option.bind_none,Bool.not_eq_true',decide_eq_false_iff_not,Bool.and_eq_true,Bool.or_eq_true,Option.some.injEq,Int.not_lt,Int.not_le,lp257_0,hT]
theorem c257 (y T:Int)(hT:1≤T)(hy:0≤y)(st:St):run L 257 [I (y*T),I T] st=some (I T,st):=by
 rw [run_pure (fn:=ir257) rfl rfl]
 simp only [ir257,go_sem,reduceIte,Nat.reduceEqDiff,Nat.reduceAdd,Nat.reduceSub,Nat.reduceLeDiff,Nat.reduceLT,reduceCtorEq,Int.reduceLT,Int.reduceLE,Int.reduceEq,Int.reduceBEq,Int.reduceSub,Int.reduceAdd,Int.reduceMul,Int.reduceNeg,Int.reduceToNat,Nat.reduceMul,Nat.reduceBEq]
 generalize hg:lim (headed pure (run L) true _ lp257_0 _ _) _ _=o
 obtain ⟨x,en,s,rfl,h2⟩: ∃x en s,o=some (x,en,s)∧_:=by rw [←hg];exact loop257 T hT (y*T) T ⟨Int.mul_nonneg hy (by omega),.inl ⟨rfl,by simp⟩⟩ _ _ (by simp only [go_sem,reduceIte,Nat.reduceEqDiff,Nat.reduceAdd,Nat.reduceSub,Nat.reduceLeDiff,Nat.reduceLT,reduceCtorEq,Int.reduceLT,Int.reduceLE,Int.reduceEq,Int.reduceBEq,Int.reduceSub,Int.reduceAdd,Int.reduceMul,Int.reduceNeg,Int.reduceToNat,Nat.reduceMul,Nat.reduceBEq]<;>rfl)
 clear hg
 obtain ⟨rfl,g0⟩:=h2
 simp only [go_sem,reduceIte,Nat.reduceEqDiff,Nat.reduceAdd,Nat.reduceSub,Nat.reduceLeDiff,Nat.reduceLT,reduceCtorEq,Int.reduceLT,Int.reduceLE,Int.reduceEq,Int.reduceBEq,Int.reduceSub,Int.reduceAdd,Int.reduceMul,Int.reduceNeg,Int.reduceToNat,Nat.reduceMul,Nat.reduceBEq,g0]
theorem c231 (y T:Int)(hT:1≤T∧T≤1000)(hy:0≤y∧y≤1000)(st:St):run L 231 [I (y*T),I T] st=some (.agg [I y,I 1],st):=by
 rw [run_pure (fn:=ir231) rfl rfl]
 have h257:=fun st=>c257 y T hT.1 hy.1 st
 have hm0:0≤y*T:=Int.mul_nonneg hy.1 (by omega)
 have hm1:y*T≤1000*1000:=Int.mul_le_mul hy.2 hT.2 (by omega) (by omega)
 have hn:=wrap64 (0-y*T) (by omega) (by omega)
 have hmx:max (y*T) (0-y*T)=y*T:=by omega
 have hq1:(y*T).tdiv T=y:=by
  rw [Int.tdiv_eq_ediv_of_nonneg hm0];exact Int.mul_ediv_cancel y (by omega)
 have hq2:T.tdiv T=1:=Int.tdiv_self (by omega)
 have hz:(T=0)=False:=eq_false (by omega)
 have w1:=wrap64 y (by omega) (by omega)
 have w2:=wrap64 1 (by omega) (by omega)
 generalize y*T=m at*
 simp only [ir231,go_sem,reduceIte,Nat.reduceEqDiff,Nat.reduceAdd,Nat.reduceSub,Nat.reduceLeDiff,Nat.reduceLT,reduceCtorEq,Int.reduceLT,Int.reduceLE,Int.reduceEq,Int.reduceBEq,Int.reduceSub,Int.reduceAdd,Int.reduceMul,Int.reduceNeg,Int.reduceToNat,Nat.reduceMul,Nat.reduceBEq,hn,hmx,h257,hq1,hq2,hz,w1,w2]
def trustS (xs:List (Int×Int)):Int:=(xs.map fun p=>p.2).sum
theorem trust_bd: ∀xs:List (Int×Int),(∀p∈xs,1≤p.2∧p.2≤9)→(xs.length:Int)≤trustS xs∧trustS xs≤9*xs.length
 | [],_=>by simp [trustS]
 |p::r,h=>by
  have h1:=h p (by simp)
  have h2:=trust_bd r (fun x hx=>h x (by simp [hx]))
  unfold trustS at h2⊢
  simp only [List.map_cons,List.sum_cons,List.length_cons]
  omega
set_option maxHeartbeats 1000000 in
theorem loop196 (y:Int)(hy:0≤y∧y≤100)(xs:List (Int×Int))(hx: ∀p∈xs,p.1=y∧1≤p.2∧p.2≤9)(hl:xs.length≤8)(D:List AV)(hD:okRefs 1 D=true)(hD2: ∀n T acc,renCells n T acc D=(D,acc))(i:Nat)(t:Int)(hok:i≤xs.length∧0≤t∧t≤9*i)(env:Env)(st:St)
  (hg:gcAV true 1 0 (canon env [2,3,4,7,8,9]) st=([(2,.ptr 0 0),(3,I (y*t)),(4,I t),(7,sl 2 false (xs.map prAV)),(8,I xs.length),(9,I i)],⟨[D],[]⟩)):
  ∃x_1 en s,lim (headed pure (run L) true [2,3,4,7,8,9] lp196_0 1 0) env st=some (x_1,en,s)∧(x_1=.exit 0∧en.get 2=.ptr 0 0∧en.get 3=I (y*(t+trustS (xs.drop i)))∧en.get 4=I (t+trustS (xs.drop i))∧s=⟨[D],[]⟩):=by
 refine loop_wp (α:=Nat×Int) (fun ⟨i,t⟩=>xs.length-i) (fun ⟨i,t⟩=>i≤xs.length∧0≤t∧t≤9*i) (fun ⟨i,t⟩=>([(2,.ptr 0 0),(3,I (y*t)),(4,I t),(7,sl 2 false (xs.map prAV)),(8,I xs.length),(9,I i)],⟨[D],[]⟩)) (fun ⟨i,t⟩ x_1 en s=>x_1=.exit 0∧en.get 2=.ptr 0 0∧en.get 3=I (y*(t+trustS (xs.drop i)))∧en.get 4=I (t+trustS (xs.drop i))∧s=⟨[D],[]⟩) (fun ⟨i,t⟩ hok=> ?_) ⟨i,t⟩ hok env st hg
 simp only at hok
 obtain ⟨h1,h2,h3⟩:=hok
 dsimp only at h1 h2 h3⊢
 by_cases h:i<xs.length
 ·have hs:=succ64 i (by omega)
  have hlt:((i:Int)<(xs.length:Int))=True:=eq_true (by omega)
  have hi:=index_prs false xs i h
  have hp:=hx _ (getD_in xs i (0,0) h)
  have hd:xs.drop i=xs.getD i (0,0)::xs.drop (i+1):=by
   rw [List.drop_eq_getElem_cons h];simp [List.getD_eq_getElem?_getD,h]
  rw [hd]
  generalize xs.getD i (0,0)=p at*
  obtain ⟨a,b⟩:=p
  obtain ⟨rfl,hb1,hb2⟩:=hp
  dsimp only at hy hb1 hb2
  have ht:trustS ((a,b)::xs.drop (i+1))=b+trustS (xs.drop (i+1)):=by simp [trustS]
  rw [ht,←Int.add_assoc]
  have m0:0≤a*b:=Int.mul_nonneg hy.1 (by omega)
  have m1:a*b≤100*9:=Int.mul_le_mul hy.2 hb2 (by omega) (by omega)
  have m2:0≤a*t:=Int.mul_nonneg hy.1 h2
  have m3:a*t≤100*72:=Int.mul_le_mul hy.2 (by omega) h2 (by omega)
  have w1:=wrap64 (a*b) (by omega) (by omega)
  have w2:IntKind.i64.wrap (a*t+a*b)=a*(t+b):=by rw [Int.mul_add];exact wrap64 _ (by omega) (by omega)
  have w3:=wrap64 (t+b) (by omega) (by omega)
  simp only [go_sem,reduceIte,Nat.reduceEqDiff,Nat.reduceAdd,Nat.reduceSub,Nat.reduceLeDiff,Nat.reduceLT,reduceCtorEq,Int.reduceLT,Int.reduceLE,Int.reduceEq,Int.reduceBEq,Int.reduceSub,Int.reduceAdd,Int.reduceMul,Int.reduceNeg,Int.reduceToNat,Nat.reduceMul,Nat.reduceBEq,index_rsl_if,setm,make_ints,condK_dec,wantK_dec,not_dec,and_dec,or_dec,seqK_ite,seqK_none,blockK_ite,blockK_none,opsK_ite,opsK_none,stepK_ite,stepK_none,bodyK_ite,bodyK_none,resK_ite,resK_none,leaveK_ite,leaveK_none,only_ite,only_none,bind_ite,gives_some,gives_none,gives_ite,then_normal,then_ret,then_exit,then_none,then_ite,Option.bind_none,Bool.not_eq_true',decide_eq_false_iff_not,Bool.and_eq_true,Bool.or_eq_true,Option.some.injEq,Int.not_lt,Int.not_le,lp196_0,hlt,hi,hs,w1,w2,w3]
  refine ⟨(i+1,t+b),by simp only [go_sem,reduceIte,Nat.reduceEqDiff,Nat.reduceAdd,Nat.reduceSub,Nat.reduceLeDiff,Nat.reduceLT,reduceCtorEq,Int.reduceLT,Int.reduceLE,Int.reduceEq,Int.reduceBEq,Int.reduceSub,Int.reduceAdd,Int.reduceMul,Int.reduceNeg,Int.reduceToNat,Nat.reduceMul,Nat.reduceBEq,ren1_locm,loc_tips,locT_eq,hD,hD2]<;>rfl,?_,?_,fun x en s hq=> ?_⟩
  ·dsimp only;exact ⟨by omega,by omega,by omega⟩
  ·dsimp only;omega
  ·exact hq
 ·have hlt:((i:Int)<(xs.length:Int))=False:=eq_false (by omega)
  have hd:xs.drop i=[]:=List.drop_eq_nil_of_le (by omega)
  have ht:trustS []=0:=rfl
  rw [hd,ht,Int.add_zero]
  simp only [go_sem,reduceIte,Nat.reduceEqDiff,Nat.reduceAdd,Nat.reduceSub,Nat.reduceLeDiff,Nat.reduceLT,reduceCtorEq,Int.reduceLT,Int.reduceLE,Int.reduceEq,Int.reduceBEq,Int.reduceSub,Int.reduceAdd,Int.reduceMul,Int.reduceNeg,Int.reduceToNat,Nat.reduceMul,Nat.reduceBEq,index_rsl_if,setm,make_ints,condK_dec,wantK_dec,not_dec,and_dec,or_dec,seqK_ite,seqK_none,blockK_ite,blockK_none,opsK_ite,opsK_none,stepK_ite,stepK_none,bodyK_ite,bodyK_none,resK_ite,resK_none,leaveK_ite,leaveK_none,only_ite,only_none,bind_ite,gives_some,gives_none,gives_ite,then_normal,then_ret,then_exit,then_none,then_ite,Option.bind_none,Bool.not_eq_true',decide_eq_false_iff_not,Bool.and_eq_true,Bool.or_eq_true,Option.some.injEq,Int.not_lt,Int.not_le,lp196_0,hlt]
theorem c196 (y:Int)(hy:0≤y∧y≤100)(xs:List (Int×Int))(hx: ∀p∈xs,p.1=y∧1≤p.2∧p.2≤9)(hl:xs.length≤8)(h1:1≤xs.length)(st:St):
  run L 196 [sl 2 false (xs.map prAV)] st=some (.agg [I y,I 1],st):=by
 rw [run_pure (fn:=ir196) rfl rfl]
 have hb:=trust_bd xs (fun p hp=>(hx p hp).2)
 have h231:=fun st=>c231 y (trustS xs) (by omega) (by omega) st
 have hz:y*0=0:=Int.mul_zero y
 simp only [ir196,go_sem,reduceIte,Nat.reduceEqDiff,Nat.reduceAdd,Nat.reduceSub,Nat.reduceLeDiff,Nat.reduceLT,reduceCtorEq,Int.reduceLT,Int.reduceLE,Int.reduceEq,Int.reduceBEq,Int.reduceSub,Int.reduceAdd,Int.reduceMul,Int.reduceNeg,Int.reduceToNat,Nat.reduceMul,Nat.reduceBEq,List.length_map]
 generalize hg:lim (headed pure (run L) true _ lp196_0 _ _) _ _=o
 obtain ⟨x,en,s,rfl,h2⟩: ∃x en s,o=some (x,en,s)∧_:=by rw [←hg];exact loop196 y hy xs hx hl [I 0,I 0] rfl (fun _ _ _=>rfl) 0 0 ⟨by omega,by omega,by omega⟩ _ _ (by simp only [go_sem,reduceIte,Nat.reduceEqDiff,Nat.reduceAdd,Nat.reduceSub,Nat.reduceLeDiff,Nat.reduceLT,reduceCtorEq,Int.reduceLT,Int.reduceLE,Int.reduceEq,Int.reduceBEq,Int.reduceSub,Int.reduceAdd,Int.reduceMul,Int.reduceNeg,Int.reduceToNat,Nat.reduceMul,Nat.reduceBEq,hz,Int.natCast_zero]<;>rfl)
 clear hg
 rw [List.drop_zero,Int.zero_add] at h2
 obtain ⟨rfl,g2,g3,g4,rfl⟩:=h2
 simp only [go_sem,reduceIte,Nat.reduceEqDiff,Nat.reduceAdd,Nat.reduceSub,Nat.reduceLeDiff,Nat.reduceLT,reduceCtorEq,Int.reduceLT,Int.reduceLE,Int.reduceEq,Int.reduceBEq,Int.reduceSub,Int.reduceAdd,Int.reduceMul,Int.reduceNeg,Int.reduceToNat,Nat.reduceMul,Nat.reduceBEq,g2,g3,g4,h231]
theorem c197 (a b:Int)(ha:0≤a∧a≤1000)(hb:0≤b∧b≤1000)(st:St):run L 197 [.agg [I a,I 1],.agg [I b,I 1]] st=some (I (a-b),st):=by
 rw [run_pure (fn:=ir197) rfl rfl]
 have w1:IntKind.i64.wrap (a*1)=a:=by rw [Int.mul_one];exact wrap64 _ (by omega) (by omega)
 have w2:IntKind.i64.wrap (b*1)=b:=by rw [Int.mul_one];exact wrap64 _ (by omega) (by omega)
 have w3:=wrap64 (a-b) (by omega) (by omega)
 simp only [ir197,go_sem,reduceIte,Nat.reduceEqDiff,Nat.reduceAdd,Nat.reduceSub,Nat.reduceLeDiff,Nat.reduceLT,reduceCtorEq,Int.reduceLT,Int.reduceLE,Int.reduceEq,Int.reduceBEq,Int.reduceSub,Int.reduceAdd,Int.reduceMul,Int.reduceNeg,Int.reduceToNat,Nat.reduceMul,Nat.reduceBEq,w1,w2,w3]
theorem run_args {f:FuncId} {fn:IF} (hf:L.fns f=some fn)(hp:L.pure f=true) {args args':List AV} (st:St)(h:pubs args=pubs args'):run L f args st=run L f args' st:=by
 rw [run_pure hf hp,run_pure hf hp,h]
structure RunY where
 b:Nat
 e:Nat
 y:Int
def blk (r:RunY):List AV:=[I r.b,I r.e,I r.y,I 1]
def kv1 (r:RunY):List AV:=[I r.e,.agg (blk r)]
def kvs (R:List RunY):List AV:=R.reverse.flatMap kv1
theorem kvs_cons (r:RunY)(R:List RunY):kvs (r::R)=kvs R++kv1 r:=by simp [kvs]
theorem kvs_app (A B:List RunY):kvs (A++B)=kvs B++kvs A:=by simp [kvs]
theorem kvs_len (R:List RunY):(kvs R).length=2*R.length:=by
 induction R with
 |nil=>rfl
 |cons r R ih=>rw [kvs_cons,List.length_append,ih,List.length_cons];show 2*R.length+2=_;omega
def Ch:List RunY→Nat→Prop
 | [],k=>k=0
 |r::R,k=>r.e=k∧r.b<k∧Ch R r.b
theorem ch_le: ∀{R:List RunY} {k:Nat},Ch R k→∀r∈R,r.e≤k∧1≤r.e
 | [],_,_,r,h=>by simp at h
 |a::R,k,h,r,hr=>by
  obtain ⟨h1,h2,h3⟩:=h
  rcases List.mem_cons.1 hr with rfl|hr
  ·omega
  ·have:=ch_le h3 r hr;omega
theorem find_miss (k:Int)(L:List AV): ∀(F:List RunY) (n:Nat),(∀r∈F,(r.e:Int)≠k)→findKV .i64 k (F.flatMap kv1++L) n=findKV .i64 k L (n+2*F.length)
 | [],n,_=>rfl
 |r::F,n,h=>by
  have h1: ¬(k=(r.e:Int)):=fun e=>h r (by simp) e.symm
  rw [List.flatMap_cons]
  show findKV .i64 k (I r.e::AV.agg (blk r)::(F.flatMap kv1++L)) n=_
  simp only [findKV,if_true,if_neg h1]
  rw [find_miss k L F (n+2) (fun x hx=>h x (by simp [hx])),List.length_cons]
  congr 1;omega
theorem find_none (k:Int)(R:List RunY)(h: ∀r∈R,(r.e:Int)≠k):findIn (I k) (kvs R)=some none:=by
 show findKV .i64 k (kvs R) 0=_
 have:=find_miss k [] R.reverse 0 (fun r hr=>h r (by simpa using hr))
 rw [List.append_nil] at this
 unfold kvs
 rw [this];rfl
theorem find_hit (r:RunY)(A B:List RunY)(h: ∀x∈B,x.e≠r.e):findIn (I r.e) (kvs (A++r::B))=some (some (2*B.length,.agg (blk r))):=by
 rw [kvs_app,kvs_cons,List.append_assoc]
 show findKV .i64 (r.e:Int) (B.reverse.flatMap kv1++(kv1 r++kvs A)) 0=_
 rw [find_miss (r.e:Int) _ B.reverse 0 (fun x hx=>by have:=h x (by simpa using hx);omega),List.length_reverse]
 show findKV .i64 (r.e:Int) (I r.e::AV.agg (blk r)::kvs A) (0+2*B.length)=_
 simp [findKV]
abbrev zb:AV:=.agg [I 0,I 0,I 0,I 0]
theorem cells_map (R:List RunY)(X:List (List AV))(T:List Nat):mapCells ⟨(mapHd::kvs R)::X,T⟩ (.obj true 0)=some (0,kvs R):=rfl
theorem get_hit (zero:AV)(r:RunY)(R:List RunY)(h: ∀x∈R,x.e≠r.e)(X:List (List AV))(T:List Nat):mapGetAV zero true ⟨(mapHd::kvs (r::R))::X,T⟩ (.obj true 0) (I r.e)=some (.tup [.agg (blk r),B true]):=by
 unfold mapGetAV
 rw [cells_map]
 simp only
 rw [show r::R=[]++r::R from rfl,find_hit r [] R h]
 rfl
theorem get_at (zero:AV)(r:RunY)(A B:List RunY)(h: ∀x∈B,x.e≠r.e)(X:List (List AV))(T:List Nat):mapGetAV zero false ⟨(mapHd::kvs (A++r::B))::X,T⟩ (.obj true 0) (I r.e)=some (.agg (blk r)):=by
 unfold mapGetAV
 rw [cells_map]
 simp only
 rw [find_hit r A B h]
 rfl
theorem get_miss (zero:AV)(k:Int)(R:List RunY)(h: ∀r∈R,(r.e:Int)≠k)(X:List (List AV))(T:List Nat):mapGetAV zero true ⟨(mapHd::kvs R)::X,T⟩ (.obj true 0) (I k)=some (.tup [zero,B false]):=by
 unfold mapGetAV
 rw [cells_map]
 simp only
 rw [find_none k R h]
 rfl
theorem del_hit (r:RunY)(R:List RunY)(h: ∀x∈R,x.e≠r.e)(X:List (List AV))(T:List Nat):mapDelAV ⟨(mapHd::kvs (r::R))::X,T⟩ (.obj true 0) (I r.e)=some ⟨(mapHd::kvs R)::X,T⟩:=by
 have hl:=kvs_len R
 unfold mapDelAV
 rw [cells_map]
 simp only
 rw [show r::R=[]++r::R from rfl,find_hit r [] R h]
 simp only [List.nil_append,List.set_cons_zero]
 rw [kvs_cons,←hl,List.take_left,List.drop_eq_nil_of_le (by rw [List.length_append];exact Nat.le_refl _),List.append_nil]
theorem put_new (r:RunY)(R:List RunY)(h: ∀x∈R,x.e≠r.e)(X:List (List AV))(T:List Nat):mapPutAV ⟨(mapHd::kvs R)::X,T⟩ (.obj true 0) (I r.e) (.agg (blk r))=some ⟨(mapHd::kvs (r::R))::X,T⟩:=by
 unfold mapPutAV
 rw [cells_map]
 simp only
 rw [if_pos (show (AV.agg (blk r)).shaped=true from rfl),find_none (r.e:Int) R (fun x hx=>by have:=h x hx;omega)]
 simp only [List.set_cons_zero]
 rw [kvs_cons]
 rfl
def runsY (f:Nat→Int):Nat→List RunY
 |0=> []
 |k+1=>match runsY f k with
  | []=> [⟨k,k+1,f k⟩]
  |r::R=>if r.y=f k then ⟨r.b,k+1,r.y⟩::R else ⟨k,k+1,f k⟩::r::R
def Desc:List RunY→Prop
 |r::s::R=>s.y<r.y∧Desc (s::R)
 |_=>True
theorem runs_ok (f:Nat→Int)(n:Nat)(hf: ∀i,i+1<n→f i≤f (i+1)): ∀k,k≤n→Ch (runsY f k) k∧(∀r∈runsY f k,∀i,r.b≤i→i<r.e→f i=r.y)∧Desc (runsY f k)∧(∀r R,runsY f k=r::R→r.y=f (k-1))
 |0,_=>⟨rfl,fun r hr=>by simp [runsY] at hr,trivial,fun r R h=>by simp [runsY] at h⟩
 |k+1,hk=>by
  obtain ⟨h1,h2,h3,h4⟩:=runs_ok f n hf k (by omega)
  simp only [runsY]
  split
  ·next e=>
   rw [e] at h1
   have hk0:k=0:=h1
   refine ⟨⟨rfl,by simp,hk0⟩,fun r hr i hi1 hi2=> ?_,trivial,fun r R h=> ?_⟩
   ·simp at hr;subst hr
    simp only at hi1 hi2⊢
    rw [show i=k by omega]
   ·simp at h;rw [←h.1];simp
  ·next r R e=>
   rw [e] at h1 h2 h3
   have h5:=h4 r R e
   obtain ⟨c1,c2,c3⟩:=h1
   by_cases q:r.y=f k
   ·rw [if_pos q]
    refine ⟨⟨rfl,by show r.b<k+1;omega,c3⟩,fun x hx i hi1 hi2=> ?_,?_,fun x X h=> ?_⟩
    ·rcases List.mem_cons.1 hx with rfl|hx
     ·simp only at hi1 hi2⊢
      by_cases hi:i<r.e
      ·exact h2 r (by simp) i hi1 hi
      ·rw [show i=k by omega,q]
     ·exact h2 x (by simp [hx]) i hi1 hi2
    ·cases R with
     |nil=>trivial
     |cons s R=>exact ⟨h3.1,h3.2⟩
    ·simp at h;rw [←h.1];simp [q]
   ·rw [if_neg q]
    have hlt:r.y<f k:=by
     have hk1:1≤k:=by omega
     have:=hf (k-1) (by omega)
     rw [show k-1+1=k by omega] at this
     omega
    refine ⟨⟨rfl,by show k<k+1;omega,c1,c2,c3⟩,fun x hx i hi1 hi2=> ?_,⟨hlt,h3⟩,fun x X h=> ?_⟩
    ·rcases List.mem_cons.1 hx with rfl|hx
     ·simp only at hi1 hi2⊢
      rw [show i=k by omega]
     ·exact h2 x hx i hi1 hi2
    ·simp at h;rw [←h.1];simp
def exR (r:RunY):List (Int×Int):=List.replicate (r.e-r.b) (r.y,1)
theorem ex_runs (f:Nat→Int): ∀k,Ch (runsY f k) k→(∀j,j≤k→Ch (runsY f j) j)→(runsY f k).reverse.flatMap exR=(List.range k).map fun i=>(f i,1)
 |0,_,_=>rfl
 |k+1,h,hall=>by
  have ih:=ex_runs f k (hall k (by omega)) (fun j hj=>hall j (by omega))
  have hc:=hall k (by omega)
  rw [List.range_succ,List.map_append,←ih]
  simp only [runsY]
  split
  ·next e=>rw [e];simp [exR]
  ·next r R e=>
   rw [e] at hc⊢
   obtain ⟨c1,c2,c3⟩:=hc
   by_cases q:r.y=f k
   ·rw [if_pos q]
    simp only [List.reverse_cons,List.flatMap_append,List.flatMap_cons,List.flatMap_nil,List.append_nil,List.append_assoc,List.map_cons,List.map_nil]
    congr 1
    simp only [exR]
    rw [show k+1-r.b=(r.e-r.b)+1 by omega,List.replicate_succ',q]
   ·rw [if_neg q]
    simp [exR]
theorem slice_mid (ss:List (Int×Int))(b e:Nat)(h:b≤e)(he:e≤ss.length)(h0:0<ss.length):sliceAV 2 (srAV ss) (some (I b)) (some (I e)) (some (I e))=some (.lst .full 2 (((ss.take e).drop b).map prAV)):=by
 have hne:ss.map prAV≠[]:=by
  intro e;have:=congrArg List.length e;simp at this;subst this;simp at h0
 have hn: ∀k:Nat,natOf (I (k:Int))=some k:=fun k=>by
  show (if 0≤(k:Int) then some (k:Int).toNat else none)=_
  rw [if_pos (by omega),Int.toNat_natCast]
 show sliceAV 2 (sl 2 true (ss.map prAV)) _ _ _=_
 rw [sl_ne hne]
 simp only [sliceAV,natOr,hn,List.length_map,List.map_drop,List.map_take]
 simp [h,he]
theorem okRefsK (n:Nat)(R:List RunY):okRefs n (mapHd::kvs R)=true:=by
 have: ∀F:List RunY,okRefs n (F.flatMap kv1)=true:=by
  intro F
  induction F with
  |nil=>rfl
  |cons p r ih=>rw [List.flatMap_cons];exact ih
 exact this R.reverse
theorem renCellsK (n:Nat)(tips:List Nat)(acc:List (Nat×Nat))(R:List RunY):renCells n tips acc (mapHd::kvs R)=(mapHd::kvs R,acc):=by
 have: ∀F:List RunY,renCells n tips acc (F.flatMap kv1)=(F.flatMap kv1,acc):=by
  intro F
  induction F with
  |nil=>rfl
  |cons p r ih=>
   rw [List.flatMap_cons]
   show (I p.e::AV.agg (blk p)::(renCells n tips acc (r.flatMap kv1)).1,(renCells n tips acc (r.flatMap kv1)).2)=_
   rw [ih];rfl
 show (mapHd::(renCells n tips acc (kvs R)).1,(renCells n tips acc (kvs R)).2)=_
 unfold kvs
 rw [this]
def mpB (R:List RunY):List AV:=mapHd::kvs R
theorem okRefsM (n:Nat)(R:List RunY):okRefs n (mpB R)=true:=okRefsK n R
theorem renCellsM (n:Nat)(tips:List Nat)(acc:List (Nat×Nat))(R:List RunY):renCells n tips acc (mpB R)=(mpB R,acc):=renCellsK n tips acc R
set_option maxHeartbeats 1000000 in
theorem loop161x (ss:List (Int×Int))(e:Nat)(is:Bool)(R:List RunY)(b1 e1:Nat)(y:Int)(hy:0≤y∧y≤100)(b2 e2 y2 d2:Int)(h:is=true→0≤y2∧y2≤100∧d2=1∧y2<y)(u:Nat)(hok:True)(env:Env)(st:St)
  (hg:gcAV true 3 0 (canon env [0,3,4,5,6,7]) st=([(0,srAV ss),(3,.obj true 0),(4,I e),(5,.ptr 1 0),(6,.ptr 2 0),(7,B is)],⟨[mpB R,[I b1,I e1,I y,I 1],[I b2,I e2,I y2,I d2]],[]⟩)):
  ∃x_1 en s,lim (headed pure (run L) true [0,3,4,5,6,7] lp161_0 3 0) env st=some (x_1,en,s)∧(x_1=.exit 2∧en.get 0=srAV ss∧en.get 3=.obj true 0∧en.get 4=I e∧en.get 5=.ptr 1 0∧s=⟨[mpB R,[I b1,I e1,I y,I 1],[I b2,I e2,I y2,I d2]],[]⟩):=by
 refine loop_wp (α:=Nat) (fun u=>u) (fun u=>True) (fun u=>([(0,srAV ss),(3,.obj true 0),(4,I e),(5,.ptr 1 0),(6,.ptr 2 0),(7,B is)],⟨[mpB R,[I b1,I e1,I y,I 1],[I b2,I e2,I y2,I d2]],[]⟩)) (fun u x_1 en s=>x_1=.exit 2∧en.get 0=srAV ss∧en.get 3=.obj true 0∧en.get 4=I e∧en.get 5=.ptr 1 0∧s=⟨[mpB R,[I b1,I e1,I y,I 1],[I b2,I e2,I y2,I d2]],[]⟩) (fun u hok=> ?_) u hok env st hg
 cases is with
 |false=>simp only [go_sem,reduceIte,Nat.reduceEqDiff,Nat.reduceAdd,Nat.reduceSub,Nat.reduceLeDiff,Nat.reduceLT,reduceCtorEq,Int.reduceLT,Int.reduceLE,Int.reduceEq,Int.reduceBEq,Int.reduceSub,Int.reduceAdd,Int.reduceMul,Int.reduceNeg,Int.reduceToNat,Nat.reduceMul,Nat.reduceBEq,index_rsl_if,setm,make_ints,condK_dec,wantK_dec,not_dec,and_dec,or_dec,seqK_ite,seqK_none,blockK_ite,blockK_none,opsK_ite,opsK_none,stepK_ite,stepK_none,bodyK_ite,bodyK_none,resK_ite,resK_none,leaveK_ite,leaveK_none,only_ite,only_none,bind_ite,gives_some,gives_none,gives_ite,then_normal,then_ret,then_exit,then_none,then_ite,Option.bind_none,Bool.not_eq_true',decide_eq_false_iff_not,Bool.and_eq_true,Bool.or_eq_true,Option.some.injEq,Int.not_lt,Int.not_le,lp161_0,hok]
 |true=>
  obtain ⟨u1,u2,rfl,u4⟩:=h rfl
  have h197:=fun st=>c197 y2 y (by omega) (by omega) st
  have q:(0≤y2-y)=False:=eq_false (by omega)
  simp only [go_sem,reduceIte,Nat.reduceEqDiff,Nat.reduceAdd,Nat.reduceSub,Nat.reduceLeDiff,Nat.reduceLT,reduceCtorEq,Int.reduceLT,Int.reduceLE,Int.reduceEq,Int.reduceBEq,Int.reduceSub,Int.reduceAdd,Int.reduceMul,Int.reduceNeg,Int.reduceToNat,Nat.reduceMul,Nat.reduceBEq,index_rsl_if,setm,make_ints,condK_dec,wantK_dec,not_dec,and_dec,or_dec,seqK_ite,seqK_none,blockK_ite,blockK_none,opsK_ite,opsK_none,stepK_ite,stepK_none,bodyK_ite,bodyK_none,resK_ite,resK_none,leaveK_ite,leaveK_none,only_ite,only_none,bind_ite,gives_some,gives_none,gives_ite,then_normal,then_ret,then_exit,then_none,then_ite,Option.bind_none,Bool.not_eq_true',decide_eq_false_iff_not,Bool.and_eq_true,Bool.or_eq_true,Option.some.injEq,Int.not_lt,Int.not_le,lp161_0,h197,q]
theorem ren1_obj (n:Nat)(T:List Nat)(acc:List (Nat×Nat))(m:Bool)(l:Nat):ren1 n T acc (.obj m l)=(.obj m l,acc):=rfl
def isR:List RunY→Bool
 | []=>false
 |_::_=>true
def cbR:List RunY→List AV
 | []=> [I 0,I 0,I 0,I 0]
 |r::_=> [I r.b,I r.e,I r.y,I 1]
set_option maxHeartbeats 2000000 in
theorem loop161e (ss:List (Int×Int))(hS:SrcOk ss)(k b:Nat)(y:Int)(hy:0≤y∧y≤100)(hk:k+1≤ss.length)(hb:b<k)(R:List RunY)(hR:Ch R b)(hD: ∀r A,R=r::A→r.y<y∧0≤r.y)(hsame: ∀i,b≤i→i<k+1→(ss.getD i (0,0)).1=y)(c:Bool)(hok:b<k)(env:Env)(st:St)
  (hg:gcAV true 3 0 (canon env [0,3,4,5,6,7]) st=([(0,srAV ss),(3,.obj true 0),(4,I (k+1:Nat)),(5,.ptr 1 0),(6,.ptr (if c then 3 else 2) 0),(7,B (if c then isR R else true))],⟨if c then [mpB R,[I b,I (k+1:Nat),I y,I 1],[I b,I k,I y,I 1],cbR R] else [mpB (⟨b,k,y⟩::R),[I k,I (k+1:Nat),I y,I 1],[I b,I k,I y,I 1]],[]⟩)):
  ∃x_1 en s,lim (headed pure (run L) true [0,3,4,5,6,7] lp161_0 3 0) env st=some (x_1,en,s)∧(x_1=.exit 2∧en.get 0=srAV ss∧en.get 3=.obj true 0∧en.get 4=I (k+1:Nat)∧en.get 5=.ptr 1 0∧(∃X,s=⟨mpB R:: [I b,I (k+1:Nat),I y,I 1]::X,[]⟩)):=by
 refine loop_wp (α:=Bool) (fun c=>if c then 0 else 1) (fun c=>b<k) (fun c=>([(0,srAV ss),(3,.obj true 0),(4,I (k+1:Nat)),(5,.ptr 1 0),(6,.ptr (if c then 3 else 2) 0),(7,B (if c then isR R else true))],⟨if c then [mpB R,[I b,I (k+1:Nat),I y,I 1],[I b,I k,I y,I 1],cbR R] else [mpB (⟨b,k,y⟩::R),[I k,I (k+1:Nat),I y,I 1],[I b,I k,I y,I 1]],[]⟩)) (fun c x_1 en s=>x_1=.exit 2∧en.get 0=srAV ss∧en.get 3=.obj true 0∧en.get 4=I (k+1:Nat)∧en.get 5=.ptr 1 0∧(∃X,s=⟨mpB R:: [I b,I (k+1:Nat),I y,I 1]::X,[]⟩)) (fun c hok=> ?_) c hok env st hg
 have h8:=hS.n2
 cases c with
 |true=>
  simp only [if_true]
  cases R with
  |nil=>
   simp only [isR,cbR]
   simp only [go_sem,reduceIte,Nat.reduceEqDiff,Nat.reduceAdd,Nat.reduceSub,Nat.reduceLeDiff,Nat.reduceLT,reduceCtorEq,Int.reduceLT,Int.reduceLE,Int.reduceEq,Int.reduceBEq,Int.reduceSub,Int.reduceAdd,Int.reduceMul,Int.reduceNeg,Int.reduceToNat,Nat.reduceMul,Nat.reduceBEq,index_rsl_if,setm,make_ints,condK_dec,wantK_dec,not_dec,and_dec,or_dec,seqK_ite,seqK_none,blockK_ite,blockK_none,opsK_ite,opsK_none,stepK_ite,stepK_none,bodyK_ite,bodyK_none,resK_ite,resK_none,leaveK_ite,leaveK_none,only_ite,only_none,bind_ite,gives_some,gives_none,gives_ite,then_normal,then_ret,then_exit,then_none,then_ite,Option.bind_none,Bool.not_eq_true',decide_eq_false_iff_not,Bool.and_eq_true,Bool.or_eq_true,Option.some.injEq,Int.not_lt,Int.not_le,lp161_0,hok]
   exact ⟨_,rfl⟩
  |cons r A=>
   have hr:=hD r A rfl
   have h197:=fun st=>c197 r.y y (by omega) (by omega) st
   have q:(0≤r.y-y)=False:=eq_false (by omega)
   simp only [isR,cbR]
   simp only [go_sem,reduceIte,Nat.reduceEqDiff,Nat.reduceAdd,Nat.reduceSub,Nat.reduceLeDiff,Nat.reduceLT,reduceCtorEq,Int.reduceLT,Int.reduceLE,Int.reduceEq,Int.reduceBEq,Int.reduceSub,Int.reduceAdd,Int.reduceMul,Int.reduceNeg,Int.reduceToNat,Nat.reduceMul,Nat.reduceBEq,index_rsl_if,setm,make_ints,condK_dec,wantK_dec,not_dec,and_dec,or_dec,seqK_ite,seqK_none,blockK_ite,blockK_none,opsK_ite,opsK_none,stepK_ite,stepK_none,bodyK_ite,bodyK_none,resK_ite,resK_none,leaveK_ite,leaveK_none,only_ite,only_none,bind_ite,gives_some,gives_none,gives_ite,then_normal,then_ret,then_exit,then_none,then_ite,Option.bind_none,Bool.not_eq_true',decide_eq_false_iff_not,Bool.and_eq_true,Bool.or_eq_true,Option.some.injEq,Int.not_lt,Int.not_le,lp161_0,h197,q]
   exact ⟨_,rfl⟩
 |false=>
  simp only [Bool.false_eq_true,if_false]
  have h197:=fun st=>c197 y y (by omega) (by omega) st
  have q:(0≤y-y)=True:=eq_true (by omega)
  have hle:=fun x hx=>ch_le hR x hx
  have hdel: ∀X T,mapDelAV ⟨mpB (⟨b,k,y⟩::R)::X,T⟩ (.obj true 0) (I k)=some ⟨mpB R::X,T⟩:=fun X T=>del_hit ⟨b,k,y⟩ R (fun x hx=>by have:=hle x hx;show x.e≠k;omega) X T
  have hget: ∀X T,mapGetAV zb true ⟨mpB R::X,T⟩ (.obj true 0) (I b)=some (.tup [.agg (cbR R),B (isR R)]):=fun X T=>by
   cases R with
   |nil=>exact get_miss zb b [] (fun x hx=>by simp at hx) X T
   |cons r A=>
    have hre:r.e=b:=hR.1
    have:=get_hit zb r A (fun x hx=>by have:=ch_le hR.2.2 x hx;have:=hR.2.1;omega) X T
    rw [hre] at this
    exact this
  have hsl:=slice_mid ss b (k+1) (by omega) hk (by omega)
  have hmem: ∀p∈(ss.take (k+1)).drop b,p.1=y∧1≤p.2∧p.2≤9:=by
   intro p hp
   obtain ⟨i,hi,rfl⟩:=List.mem_iff_getElem.1 hp
   rw [List.length_drop,List.length_take] at hi
   have hi2:b+i<ss.length:=by omega
   have e:((ss.take (k+1)).drop b)[i]'(by rw [List.length_drop,List.length_take];exact hi)=ss.getD (b+i) (0,0):=by
    simp [List.getD_eq_getElem?_getD,hi2]
   rw [e]
   exact ⟨hsame (b+i) (by omega) (by omega),(hS.each _ (getD_in ss (b+i) (0,0) hi2)).2.2⟩
  have hln:((ss.take (k+1)).drop b).length=k+1-b:=by rw [List.length_drop,List.length_take];omega
  have h196: ∀st,run L 196 [.lst .full 2 (((ss.take (k+1)).drop b).map prAV)] st=some (.agg [I y,I 1],st):=fun st=>by
   have hne:((ss.take (k+1)).drop b).map prAV≠[]:=by
    intro e;have:=congrArg List.length e;rw [List.length_map,hln] at this;simp at this;omega
   refine (run_args (fn:=ir196) rfl rfl st (args':=[sl 2 false (((ss.take (k+1)).drop b).map prAV)]) ?_).trans (c196 y hy _ hmem (by omega) (by omega) st)
   rw [sl_ne hne];rfl
  generalize ((ss.take (k+1)).drop b).map prAV=xs at*
  have hcb: ∃p q r s:Int,cbR R=[I p,I q,I r,I s]:=by
   cases R with
   |nil=>exact ⟨0,0,0,0,rfl⟩
   |cons r A=>exact ⟨r.b,r.e,r.y,1,rfl⟩
  obtain ⟨c1,c2,c3,c4,hcb⟩:=hcb
  rw [hcb] at hget
  simp only [go_sem,reduceIte,Nat.reduceEqDiff,Nat.reduceAdd,Nat.reduceSub,Nat.reduceLeDiff,Nat.reduceLT,reduceCtorEq,Int.reduceLT,Int.reduceLE,Int.reduceEq,Int.reduceBEq,Int.reduceSub,Int.reduceAdd,Int.reduceMul,Int.reduceNeg,Int.reduceToNat,Nat.reduceMul,Nat.reduceBEq,index_rsl_if,setm,make_ints,condK_dec,wantK_dec,not_dec,and_dec,or_dec,seqK_ite,seqK_none,blockK_ite,blockK_none,opsK_ite,opsK_none,stepK_ite,stepK_none,bodyK_ite,bodyK_none,resK_ite,resK_none,leaveK_ite,leaveK_none,only_ite,only_none,bind_ite,gives_some,gives_none,gives_ite,then_normal,then_ret,then_exit,then_none,then_ite,Option.bind_none,Bool.not_eq_true',decide_eq_false_iff_not,Bool.and_eq_true,Bool.or_eq_true,Option.some.injEq,Int.not_lt,Int.not_le,lp161_0,h197,q,hdel,hget,hsl,h196]
  refine ⟨(true),by simp only [go_sem,reduceIte,Nat.reduceEqDiff,Nat.reduceAdd,Nat.reduceSub,Nat.reduceLeDiff,Nat.reduceLT,reduceCtorEq,Int.reduceLT,Int.reduceLE,Int.reduceEq,Int.reduceBEq,Int.reduceSub,Int.reduceAdd,Int.reduceMul,Int.reduceNeg,Int.reduceToNat,Nat.reduceMul,Nat.reduceBEq,ren1_locm,loc_tips,locT_eq,okRefsM,renCellsM,if_true,hcb]<;>rfl,?_,?_,fun x en s hq=> ?_⟩
  ·exact hb
  ·decide
  ·exact hq
attribute [local go_sem] ren1_obj
abbrev yr (ss:List (Int×Int)) (i:Nat):Int:=(ss.getD i (0,0)).1
theorem SrcOk.yr_bd {ss:List (Int×Int)} (h:SrcOk ss)(i:Nat)(hi:i<ss.length):0≤yr ss i∧yr ss i≤100:=by
 have:=h.each _ (getD_in ss i (0,0) hi)
 exact ⟨this.1,this.2.1⟩
theorem runsY_nil (f:Nat→Int)(k:Nat)(h:runsY f k=[]):runsY f (k+1)=[⟨k,k+1,f k⟩]:=by simp [runsY,h]
theorem runsY_eq (f:Nat→Int)(k:Nat) {r:RunY} {R:List RunY} (h:runsY f k=r::R)(hy:r.y=f k):runsY f (k+1)=⟨r.b,k+1,r.y⟩::R:=by simp [runsY,h,hy]
theorem runsY_lt (f:Nat→Int)(k:Nat) {r:RunY} {R:List RunY} (h:runsY f k=r::R)(hy:r.y≠f k):runsY f (k+1)=⟨k,k+1,f k⟩::r::R:=by simp [runsY,h,hy]
set_option maxHeartbeats 2000000 in
theorem loop161_1 (ss:List (Int×Int))(hS:SrcOk ss)(k:Nat)(hok:k≤ss.length)(env:Env)(st:St)
  (hg:gcAV true 1 0 (canon env [0,3,4]) st=([(0,srAV ss),(3,.obj true 0),(4,I (k+1:Nat))],⟨[mpB (runsY (yr ss) k)],[]⟩)):
  ∃x_1 en s,lim (headed pure (run L) true [0,3,4] lp161_1 1 0) env st=some (x_1,en,s)∧(x_1=.exit 0∧en.get 0=srAV ss∧en.get 3=.obj true 0∧en.get 3000000=.any∧s=⟨[mpB (runsY (yr ss) ss.length)],[]⟩):=by
 refine loop_wp (α:=Nat) (fun k=>ss.length-k) (fun k=>k≤ss.length) (fun k=>([(0,srAV ss),(3,.obj true 0),(4,I (k+1:Nat))],⟨[mpB (runsY (yr ss) k)],[]⟩)) (fun k x_1 en s=>x_1=.exit 0∧en.get 0=srAV ss∧en.get 3=.obj true 0∧en.get 3000000=.any∧s=⟨[mpB (runsY (yr ss) ss.length)],[]⟩) (fun k hok=> ?_) k hok env st hg
 have h8:=hS.n2
 by_cases h:k<ss.length
 ·have hlt:(((k+1:Nat):Int)≤(ss.length:Int))=True:=eq_true (by omega)
  have hd:IntKind.i64.wrap (((k+1:Nat):Int)-1)=(k:Int):=by rw [wrap64]<;>omega
  have hs:=succ64 (k+1) (by omega)
  obtain ⟨hch,hval,hdesc,hlast⟩:=runs_ok (yr ss) ss.length hS.rise k (by omega)
  have hy:=hS.yr_bd k h
  have hsl:=slice_mid ss k (k+1) (by omega) h (by omega)
  have hxs:(ss.take (k+1)).drop k=[ss.getD k (0,0)]:=by
   apply List.ext_getElem
   ·simp;omega
   ·intro i h1 h2
    simp at h2;subst h2
    simp [List.getD_eq_getElem?_getD,h]
  have he:=hS.each _ (getD_in ss k (0,0) h)
  have h196: ∀st,run L 196 [.lst .full 2 (((ss.take (k+1)).drop k).map prAV)] st=some (.agg [I (yr ss k),I 1],st):=fun st=>by
   have hne:((ss.take (k+1)).drop k).map prAV≠[]:=by rw [hxs];simp
   refine (run_args (fn:=ir196) rfl rfl st (args':=[sl 2 false (((ss.take (k+1)).drop k).map prAV)]) ?_).trans (c196 (yr ss k) hy _ (fun p hp=> ?_) (by rw [hxs];simp) (by rw [hxs];simp) st)
   ·rw [sl_ne hne];rfl
   ·rw [hxs] at hp;simp at hp;subst hp;exact ⟨rfl,he.2.2⟩
  generalize ((ss.take (k+1)).drop k).map prAV=xs at*
  cases hR:runsY (yr ss) k with
  |nil=>
   have hn:=runsY_nil (yr ss) k hR
   rw [hR] at hch
   have hk0:k=0:=hch
   have hget: ∀X T,mapGetAV zb true ⟨mpB []::X,T⟩ (.obj true 0) (I k)=some (.tup [zb,B false]):=fun X T=>get_miss zb k [] (fun x hx=>by simp at hx) X T
   have hput: ∀X T,mapPutAV ⟨mpB []::X,T⟩ (.obj true 0) (I (k+1:Nat)) (.agg [I k,I (k+1:Nat),I (yr ss k),I 1])=some ⟨mpB (runsY (yr ss) (k+1))::X,T⟩:=fun X T=>by
    rw [hn];exact put_new ⟨k,k+1,yr ss k⟩ [] (fun x hx=>by simp at hx) X T
   generalize yr ss k=y at*
   simp only [go_sem,reduceIte,Nat.reduceEqDiff,Nat.reduceAdd,Nat.reduceSub,Nat.reduceLeDiff,Nat.reduceLT,reduceCtorEq,Int.reduceLT,Int.reduceLE,Int.reduceEq,Int.reduceBEq,Int.reduceSub,Int.reduceAdd,Int.reduceMul,Int.reduceNeg,Int.reduceToNat,Nat.reduceMul,Nat.reduceBEq,index_rsl_if,setm,make_ints,condK_dec,wantK_dec,not_dec,and_dec,or_dec,seqK_ite,seqK_none,blockK_ite,blockK_none,opsK_ite,opsK_none,stepK_ite,stepK_none,bodyK_ite,bodyK_none,resK_ite,resK_none,leaveK_ite,leaveK_none,only_ite,only_none,bind_ite,gives_some,gives_none,gives_ite,then_normal,then_ret,then_exit,then_none,then_ite,Option.bind_none,Bool.not_eq_true',decide_eq_false_iff_not,Bool.and_eq_true,Bool.or_eq_true,Option.some.injEq,Int.not_lt,Int.not_le,lp161_1,hlt,hd,hsl,h196,hget,List.length_map]
   generalize hg:lim (headed pure (run L) true _ lp161_0 _ _) _ _=o
   obtain ⟨x,en,s,rfl,h2⟩: ∃x en s,o=some (x,en,s)∧_:=by rw [←hg];exact loop161x ss (k+1) false [] k (k+1) y hy 0 0 0 0 (fun h=>by cases h) 0 trivial _ _ (by simp only [go_sem,reduceIte,Nat.reduceEqDiff,Nat.reduceAdd,Nat.reduceSub,Nat.reduceLeDiff,Nat.reduceLT,reduceCtorEq,Int.reduceLT,Int.reduceLE,Int.reduceEq,Int.reduceBEq,Int.reduceSub,Int.reduceAdd,Int.reduceMul,Int.reduceNeg,Int.reduceToNat,Nat.reduceMul,Nat.reduceBEq,okRefsM,renCellsM,Int.natCast_zero]<;>rfl)
   clear hg
   obtain ⟨rfl,g0,g3,g4,g5,rfl⟩:=h2
   simp only [go_sem,reduceIte,Nat.reduceEqDiff,Nat.reduceAdd,Nat.reduceSub,Nat.reduceLeDiff,Nat.reduceLT,reduceCtorEq,Int.reduceLT,Int.reduceLE,Int.reduceEq,Int.reduceBEq,Int.reduceSub,Int.reduceAdd,Int.reduceMul,Int.reduceNeg,Int.reduceToNat,Nat.reduceMul,Nat.reduceBEq,index_rsl_if,setm,make_ints,condK_dec,wantK_dec,not_dec,and_dec,or_dec,seqK_ite,seqK_none,blockK_ite,blockK_none,opsK_ite,opsK_none,stepK_ite,stepK_none,bodyK_ite,bodyK_none,resK_ite,resK_none,leaveK_ite,leaveK_none,only_ite,only_none,bind_ite,gives_some,gives_none,gives_ite,then_normal,then_ret,then_exit,then_none,then_ite,Option.bind_none,Bool.not_eq_true',decide_eq_false_iff_not,Bool.and_eq_true,Bool.or_eq_true,Option.some.injEq,Int.not_lt,Int.not_le,lp161_1,g0,g3,g4,g5,hput,hs]
   refine ⟨(k+1),by simp only [go_sem,reduceIte,Nat.reduceEqDiff,Nat.reduceAdd,Nat.reduceSub,Nat.reduceLeDiff,Nat.reduceLT,reduceCtorEq,Int.reduceLT,Int.reduceLE,Int.reduceEq,Int.reduceBEq,Int.reduceSub,Int.reduceAdd,Int.reduceMul,Int.reduceNeg,Int.reduceToNat,Nat.reduceMul,Nat.reduceBEq,ren1_locm,loc_tips,locT_eq,okRefsM,renCellsM,g0,g3]<;>rfl,?_,?_,fun x en s hq=> ?_⟩
   ·omega
   ·omega
   ·exact hq
  |cons r R=>
   rw [hR] at hch hval hdesc
   obtain ⟨hc1,hc2,hc3⟩:=hch
   have hle:=fun x hx=>ch_le hc3 x hx
   have hry:r.y≤yr ss k:=by
    rw [hlast r R hR]
    have:=hS.rise (k-1) (by omega)
    rwa [show k-1+1=k by omega] at this
   have hr0:0≤r.y∧r.y≤100:=by
    rw [hlast r R hR];exact hS.yr_bd (k-1) (by omega)
   have hget: ∀X T,mapGetAV zb true ⟨mpB (r::R)::X,T⟩ (.obj true 0) (I k)=some (.tup [.agg [I r.b,I r.e,I r.y,I 1],B true]):=fun X T=>by
    have:=get_hit zb r R (fun x hx=>by have:=hle x hx;omega) X T
    rw [hc1] at this
    exact this
   by_cases q:r.y=yr ss k
   ·have hn:=runsY_eq (yr ss) k hR q
    have hput: ∀X T,mapPutAV ⟨mpB R::X,T⟩ (.obj true 0) (I (k+1:Nat)) (.agg [I r.b,I (k+1:Nat),I r.y,I 1])=some ⟨mpB (runsY (yr ss) (k+1))::X,T⟩:=fun X T=>by
     rw [hn];exact put_new ⟨r.b,k+1,r.y⟩ R (fun x hx=>by have:=hle x hx;show x.e≠k+1;omega) X T
    have hrr:r=⟨r.b,k,r.y⟩:=by rw [←hc1]
    have hD: ∀x A,R=x::A→x.y<r.y∧0≤x.y:=fun x A e=>by
     subst e
     refine ⟨hdesc.1,?_⟩
     have hxe:=hle x (by simp)
     have:=hc3.2.1
     rw [←hval x (by simp) x.b (Nat.le_refl _) (by have:=hc3.1;omega)]
     exact (hS.yr_bd x.b (by have:=hc3.1;omega)).1
    have hsame: ∀i,r.b≤i→i<k+1→(ss.getD i (0,0)).1=r.y:=fun i hi1 hi2=>by
     by_cases e:i=k
     ·rw [e];exact q.symm
     ·exact hval r (by simp) i hi1 (by omega)
    rw [←q] at h196 hy
    have hmr:mpB (r::R)=mpB (⟨r.b,k,r.y⟩::R):=by rw [←hrr]
    rw [hc1] at hget
    rw [hmr] at hget⊢
    have hb:r.b<k:=hc2
    generalize r.b=b at*
    generalize r.y=y at*
    simp only [go_sem,reduceIte,Nat.reduceEqDiff,Nat.reduceAdd,Nat.reduceSub,Nat.reduceLeDiff,Nat.reduceLT,reduceCtorEq,Int.reduceLT,Int.reduceLE,Int.reduceEq,Int.reduceBEq,Int.reduceSub,Int.reduceAdd,Int.reduceMul,Int.reduceNeg,Int.reduceToNat,Nat.reduceMul,Nat.reduceBEq,index_rsl_if,setm,make_ints,condK_dec,wantK_dec,not_dec,and_dec,or_dec,seqK_ite,seqK_none,blockK_ite,blockK_none,opsK_ite,opsK_none,stepK_ite,stepK_none,bodyK_ite,bodyK_none,resK_ite,resK_none,leaveK_ite,leaveK_none,only_ite,only_none,bind_ite,gives_some,gives_none,gives_ite,then_normal,then_ret,then_exit,then_none,then_ite,Option.bind_none,Bool.not_eq_true',decide_eq_false_iff_not,Bool.and_eq_true,Bool.or_eq_true,Option.some.injEq,Int.not_lt,Int.not_le,lp161_1,hlt,hd,hsl,h196,hget,List.length_map]
    generalize hg:lim (headed pure (run L) true _ lp161_0 _ _) _ _=o
    obtain ⟨x,en,s,rfl,h2⟩: ∃x en s,o=some (x,en,s)∧_:=by rw [←hg];exact loop161e ss hS k b y hy h hb R hc3 hD hsame false hb _ _ (by simp only [go_sem,reduceIte,Nat.reduceEqDiff,Nat.reduceAdd,Nat.reduceSub,Nat.reduceLeDiff,Nat.reduceLT,reduceCtorEq,Int.reduceLT,Int.reduceLE,Int.reduceEq,Int.reduceBEq,Int.reduceSub,Int.reduceAdd,Int.reduceMul,Int.reduceNeg,Int.reduceToNat,Nat.reduceMul,Nat.reduceBEq,okRefsM,renCellsM,Bool.false_eq_true,if_false]<;>rfl)
    clear hg
    obtain ⟨rfl,g0,g3,g4,g5,X,rfl⟩:=h2
    simp only [go_sem,reduceIte,Nat.reduceEqDiff,Nat.reduceAdd,Nat.reduceSub,Nat.reduceLeDiff,Nat.reduceLT,reduceCtorEq,Int.reduceLT,Int.reduceLE,Int.reduceEq,Int.reduceBEq,Int.reduceSub,Int.reduceAdd,Int.reduceMul,Int.reduceNeg,Int.reduceToNat,Nat.reduceMul,Nat.reduceBEq,index_rsl_if,setm,make_ints,condK_dec,wantK_dec,not_dec,and_dec,or_dec,seqK_ite,seqK_none,blockK_ite,blockK_none,opsK_ite,opsK_none,stepK_ite,stepK_none,bodyK_ite,bodyK_none,resK_ite,resK_none,leaveK_ite,leaveK_none,only_ite,only_none,bind_ite,gives_some,gives_none,gives_ite,then_normal,then_ret,then_exit,then_none,then_ite,Option.bind_none,Bool.not_eq_true',decide_eq_false_iff_not,Bool.and_eq_true,Bool.or_eq_true,Option.some.injEq,Int.not_lt,Int.not_le,lp161_1,g0,g3,g4,g5,hput,hs]
    refine ⟨(k+1),by simp only [go_sem,reduceIte,Nat.reduceEqDiff,Nat.reduceAdd,Nat.reduceSub,Nat.reduceLeDiff,Nat.reduceLT,reduceCtorEq,Int.reduceLT,Int.reduceLE,Int.reduceEq,Int.reduceBEq,Int.reduceSub,Int.reduceAdd,Int.reduceMul,Int.reduceNeg,Int.reduceToNat,Nat.reduceMul,Nat.reduceBEq,ren1_locm,loc_tips,locT_eq,okRefsM,renCellsM,g0,g3]<;>rfl,?_,?_,fun x en s hq=> ?_⟩
    ·omega
    ·omega
    ·exact hq
   ·have hn:=runsY_lt (yr ss) k hR q
    have hput: ∀X T,mapPutAV ⟨mpB (r::R)::X,T⟩ (.obj true 0) (I (k+1:Nat)) (.agg [I k,I (k+1:Nat),I (yr ss k),I 1])=some ⟨mpB (runsY (yr ss) (k+1))::X,T⟩:=fun X T=>by
     rw [hn];exact put_new ⟨k,k+1,yr ss k⟩ (r::R) (fun x hx=>by
      rcases List.mem_cons.1 hx with rfl|hx
      ·show x.e≠k+1;omega
      ·have:=hle x hx;show x.e≠k+1;omega) X T
    have hlt2:r.y<yr ss k:=by omega
    generalize yr ss k=y at*
    simp only [go_sem,reduceIte,Nat.reduceEqDiff,Nat.reduceAdd,Nat.reduceSub,Nat.reduceLeDiff,Nat.reduceLT,reduceCtorEq,Int.reduceLT,Int.reduceLE,Int.reduceEq,Int.reduceBEq,Int.reduceSub,Int.reduceAdd,Int.reduceMul,Int.reduceNeg,Int.reduceToNat,Nat.reduceMul,Nat.reduceBEq,index_rsl_if,setm,make_ints,condK_dec,wantK_dec,not_dec,and_dec,or_dec,seqK_ite,seqK_none,blockK_ite,blockK_none,opsK_ite,opsK_none,stepK_ite,stepK_none,bodyK_ite,bodyK_none,resK_ite,resK_none,leaveK_ite,leaveK_none,only_ite,only_none,bind_ite,gives_some,gives_none,gives_ite,then_normal,then_ret,then_exit,then_none,then_ite,Option.bind_none,Bool.not_eq_true',decide_eq_false_iff_not,Bool.and_eq_true,Bool.or_eq_true,Option.some.injEq,Int.not_lt,Int.not_le,lp161_1,hlt,hd,hsl,h196,hget,List.length_map]
    generalize hg:lim (headed pure (run L) true _ lp161_0 _ _) _ _=o
    obtain ⟨x,en,s,rfl,h2⟩: ∃x en s,o=some (x,en,s)∧_:=by rw [←hg];exact loop161x ss (k+1) true (r::R) k (k+1) y hy r.b r.e r.y 1 (fun _=>⟨hr0.1,hr0.2,rfl,hlt2⟩) 0 trivial _ _ (by simp only [go_sem,reduceIte,Nat.reduceEqDiff,Nat.reduceAdd,Nat.reduceSub,Nat.reduceLeDiff,Nat.reduceLT,reduceCtorEq,Int.reduceLT,Int.reduceLE,Int.reduceEq,Int.reduceBEq,Int.reduceSub,Int.reduceAdd,Int.reduceMul,Int.reduceNeg,Int.reduceToNat,Nat.reduceMul,Nat.reduceBEq,okRefsM,renCellsM]<;>rfl)
    clear hg
    obtain ⟨rfl,g0,g3,g4,g5,rfl⟩:=h2
    simp only [go_sem,reduceIte,Nat.reduceEqDiff,Nat.reduceAdd,Nat.reduceSub,Nat.reduceLeDiff,Nat.reduceLT,reduceCtorEq,Int.reduceLT,Int.reduceLE,Int.reduceEq,Int.reduceBEq,Int.reduceSub,Int.reduceAdd,Int.reduceMul,Int.reduceNeg,Int.reduceToNat,Nat.reduceMul,Nat.reduceBEq,index_rsl_if,setm,make_ints,condK_dec,wantK_dec,not_dec,and_dec,or_dec,seqK_ite,seqK_none,blockK_ite,blockK_none,opsK_ite,opsK_none,stepK_ite,stepK_none,bodyK_ite,bodyK_none,resK_ite,resK_none,leaveK_ite,leaveK_none,only_ite,only_none,bind_ite,gives_some,gives_none,gives_ite,then_normal,then_ret,then_exit,then_none,then_ite,Option.bind_none,Bool.not_eq_true',decide_eq_false_iff_not,Bool.and_eq_true,Bool.or_eq_true,Option.some.injEq,Int.not_lt,Int.not_le,lp161_1,g0,g3,g4,g5,hput,hs]
    refine ⟨(k+1),by simp only [go_sem,reduceIte,Nat.reduceEqDiff,Nat.reduceAdd,Nat.reduceSub,Nat.reduceLeDiff,Nat.reduceLT,reduceCtorEq,Int.reduceLT,Int.reduceLE,Int.reduceEq,Int.reduceBEq,Int.reduceSub,Int.reduceAdd,Int.reduceMul,Int.reduceNeg,Int.reduceToNat,Nat.reduceMul,Nat.reduceBEq,ren1_locm,loc_tips,locT_eq,okRefsM,renCellsM,g0,g3]<;>rfl,?_,?_,fun x en s hq=> ?_⟩
    ·omega
    ·omega
    ·exact hq
 ·have hlt:(((k+1:Nat):Int)≤(ss.length:Int))=False:=eq_false (by omega)
  obtain rfl:k=ss.length:=by omega
  simp only [go_sem,reduceIte,Nat.reduceEqDiff,Nat.reduceAdd,Nat.reduceSub,Nat.reduceLeDiff,Nat.reduceLT,reduceCtorEq,Int.reduceLT,Int.reduceLE,Int.reduceEq,Int.reduceBEq,Int.reduceSub,Int.reduceAdd,Int.reduceMul,Int.reduceNeg,Int.reduceToNat,Nat.reduceMul,Nat.reduceBEq,index_rsl_if,setm,make_ints,condK_dec,wantK_dec,not_dec,and_dec,or_dec,seqK_ite,seqK_none,blockK_ite,blockK_none,opsK_ite,opsK_none,stepK_ite,stepK_none,bodyK_ite,bodyK_none,resK_ite,resK_none,leaveK_ite,leaveK_none,only_ite,only_none,bind_ite,gives_some,gives_none,gives_ite,then_normal,then_ret,then_exit,then_none,then_ite,Option.bind_none,Bool.not_eq_true',decide_eq_false_iff_not,Bool.and_eq_true,Bool.or_eq_true,Option.some.injEq,Int.not_lt,Int.not_le,lp161_1,hlt,List.length_map]
attribute [local go_sem] ren1_obj
theorem blk_len (r:RunY):(blk r).length=4:=rfl
def flB (o:List RunY):List AV:=o.flatMap blk
theorem flB_len (o:List RunY):(flB o).length=4*o.length:=fl_len blk 4 blk_len o
def b4A (o:List RunY):AV:=if o=[] then .v (.slice none 0 0) else .rsl 1 0 o.length o.length 4 true
def b4S (o:List RunY):List (List AV):=if o=[] then [] else [flB o]
theorem b4A_ne {o:List RunY} (h:o≠[]):b4A o=.rsl 1 0 o.length o.length 4 true:=by unfold b4A;rw [if_neg h]
theorem b4S_ne {o:List RunY} (h:o≠[]):b4S o=[flB o]:=by unfold b4S;rw [if_neg h]
theorem flB_snoc (o:List RunY)(r:RunY):flB (o++ [r])=flB o++blk r:=by unfold flB;rw [List.flatMap_append];simp
theorem happ_nil4 (r:RunY)(S:List (List AV)):appendmAV 4 true (.v (.slice none 0 0)) [.agg (blk r)] ⟨S,[]⟩=some (.rsl S.length 0 1 1 4 true,⟨S++ [blk r],[]⟩):=by
 simp [appendmAV,newM,maxGrow,flatAV,AV.cells]
theorem happ_at4 (a:List AV)(o:List RunY)(r:RunY)(h:1≤o.length)(h2:o.length≤1000):appendmAV 4 true (.rsl 1 0 o.length o.length 4 true) [.agg (blk r)] ⟨[a,flB o],[]⟩=some (.rsl 2 0 (o.length+1) (o.length+1) 4 true,⟨[a,[],flB (o++ [r])],[]⟩):=by
 have hl:=flB_len o
 have htk:(flB o).take (o.length*4)=flB o:=List.take_of_length_le (by omega)
 simp only [appendmAV,List.getElem?_cons_succ,List.getElem?_cons_zero,List.length_cons,List.length_nil,htk]
 rw [if_pos ⟨trivial,trivial,Nat.le_refl _,by omega,by omega⟩,if_neg (by omega),if_pos ⟨trivial,by unfold maxGrow;omega,by omega⟩]
 simp [flatAV,flB_snoc,AV.cells]
theorem refsL_flB (k:Nat)(acc:List Nat)(o:List RunY):refsL k acc (flB o)=acc:=by
 unfold flB
 induction o with
 |nil=>simp only [List.flatMap_nil,refsL]
 |cons p r ih=>rw [List.flatMap_cons];simp only [blk,List.cons_append,List.nil_append,refsL,refsV,ih]
theorem mapLs_flB (k:Nat)(M:List Nat)(o:List RunY):mapLs k M (flB o)=flB o:=by
 unfold flB
 induction o with
 |nil=>simp only [List.flatMap_nil,mapLs]
 |cons p r ih=>rw [List.flatMap_cons];simp only [blk,List.cons_append,List.nil_append,mapLs,mapL,ih]
theorem okRefs_flB (k:Nat)(o:List RunY):okRefs k (flB o)=true:=by
 unfold flB
 induction o with
 |nil=>rfl
 |cons p r ih=>rw [List.flatMap_cons];simp only [blk,List.cons_append,List.nil_append,okRefs,okRef,ih];rfl
theorem renCells_flB (k:Nat)(T:List Nat)(acc:List (Nat×Nat))(o:List RunY):renCells k T acc (flB o)=(flB o,acc):=by
 unfold flB
 induction o with
 |nil=>rfl
 |cons p r ih=>rw [List.flatMap_cons];simp only [blk,List.cons_append,List.nil_append,renCells,ren1,ih]
theorem refsL_mpB (k:Nat)(acc:List Nat)(R:List RunY):refsL k acc (mpB R)=acc:=by
 have: ∀F:List RunY,refsL k acc (F.flatMap kv1)=acc:=by
  intro F
  induction F with
  |nil=>simp only [List.flatMap_nil,refsL]
  |cons p r ih=>rw [List.flatMap_cons];simp only [kv1,blk,List.cons_append,List.nil_append,refsL,refsV,ih]
 unfold mpB kvs mapHd
 simp only [refsL,refsV,this]
theorem mapLs_mpB (k:Nat)(M:List Nat)(R:List RunY):mapLs k M (mpB R)=mpB R:=by
 have: ∀F:List RunY,mapLs k M (F.flatMap kv1)=F.flatMap kv1:=by
  intro F
  induction F with
  |nil=>simp only [List.flatMap_nil,mapLs]
  |cons p r ih=>rw [List.flatMap_cons];simp only [kv1,blk,List.cons_append,List.nil_append,mapLs,mapL,ih]
 unfold mpB kvs mapHd
 simp only [mapLs,mapL,this]
set_option maxHeartbeats 2000000 in
theorem loop161_2 (F:List RunY)(hF:F.length≤8)(D:List RunY)(R:List RunY)(e:Nat)(hok:D++R=F∧Ch R e)(env:Env)(st:St)
  (hg:gcAV true 1 0 (canon env [3,8,9,3000000]) st=([(3,.obj true 0),(8,b4A D),(9,I e),(3000000,.any)],⟨mpB F::b4S D,[]⟩)):
  ∃x_1 en s,lim (headed pure (run L) true [3,8,9,3000000] lp161_2 1 0) env st=some (x_1,en,s)∧(x_1=.exit 4∧en.get 8=b4A F∧s=⟨mpB F::b4S F,[]⟩):=by
 refine loop_wp (α:=List RunY×List RunY×Nat) (fun ⟨D,R,e⟩=>R.length) (fun ⟨D,R,e⟩=>D++R=F∧Ch R e) (fun ⟨D,R,e⟩=>([(3,.obj true 0),(8,b4A D),(9,I e),(3000000,.any)],⟨mpB F::b4S D,[]⟩)) (fun ⟨D,R,e⟩ x_1 en s=>x_1=.exit 4∧en.get 8=b4A F∧s=⟨mpB F::b4S F,[]⟩) (fun ⟨D,R,e⟩ hok=> ?_) ⟨D,R,e⟩ hok env st hg
 simp only at hok
 obtain ⟨h1,h2⟩:=hok
 dsimp only at h1 h2⊢
 cases R with
 |nil=>
  have he:e=0:=h2
  subst he
  rw [List.append_nil] at h1
  subst h1
  simp only [go_sem,reduceIte,Nat.reduceEqDiff,Nat.reduceAdd,Nat.reduceSub,Nat.reduceLeDiff,Nat.reduceLT,reduceCtorEq,Int.reduceLT,Int.reduceLE,Int.reduceEq,Int.reduceBEq,Int.reduceSub,Int.reduceAdd,Int.reduceMul,Int.reduceNeg,Int.reduceToNat,Nat.reduceMul,Nat.reduceBEq,index_rsl_if,setm,make_ints,condK_dec,wantK_dec,not_dec,and_dec,or_dec,seqK_ite,seqK_none,blockK_ite,blockK_none,opsK_ite,opsK_none,stepK_ite,stepK_none,bodyK_ite,bodyK_none,resK_ite,resK_none,leaveK_ite,leaveK_none,only_ite,only_none,bind_ite,gives_some,gives_none,gives_ite,then_normal,then_ret,then_exit,then_none,then_ite,Option.bind_none,Bool.not_eq_true',decide_eq_false_iff_not,Bool.and_eq_true,Bool.or_eq_true,Option.some.injEq,Int.not_lt,Int.not_le,lp161_2,Int.natCast_zero]
 |cons r A=>
  obtain ⟨c1,c2,c3⟩:=h2
  have hpos:(0<(e:Int))=True:=eq_true (by omega)
  have hget: ∀X T,mapGetAV zb false ⟨mpB F::X,T⟩ (.obj true 0) (I e)=some (.agg [I r.b,I r.e,I r.y,I 1]):=fun X T=>by
   have:=get_at zb r D A (fun x hx=>by have:=ch_le c3 x hx;omega) X T
   rw [h1,c1] at this
   exact this
  have hDl:D.length≤8:=by
   have:=congrArg List.length h1
   rw [List.length_append] at this;omega
  have hap:(D++ [r])++A=F:=by rw [←h1];simp
  by_cases hD:D=[]
  ·subst hD
   have eA:b4A []=.v (.slice none 0 0):=rfl
   have eS:b4S []=[]:=rfl
   have happ:=happ_nil4 r [mpB F]
   have eA2:b4A [r]=.rsl 1 0 1 1 4 true:=rfl
   have eS2:b4S [r]=[[I r.b,I r.e,I r.y,I 1]]:=rfl
   unfold blk at happ
   simp only [go_sem,reduceIte,Nat.reduceEqDiff,Nat.reduceAdd,Nat.reduceSub,Nat.reduceLeDiff,Nat.reduceLT,reduceCtorEq,Int.reduceLT,Int.reduceLE,Int.reduceEq,Int.reduceBEq,Int.reduceSub,Int.reduceAdd,Int.reduceMul,Int.reduceNeg,Int.reduceToNat,Nat.reduceMul,Nat.reduceBEq,index_rsl_if,setm,make_ints,condK_dec,wantK_dec,not_dec,and_dec,or_dec,seqK_ite,seqK_none,blockK_ite,blockK_none,opsK_ite,opsK_none,stepK_ite,stepK_none,bodyK_ite,bodyK_none,resK_ite,resK_none,leaveK_ite,leaveK_none,only_ite,only_none,bind_ite,gives_some,gives_none,gives_ite,then_normal,then_ret,then_exit,then_none,then_ite,Option.bind_none,Bool.not_eq_true',decide_eq_false_iff_not,Bool.and_eq_true,Bool.or_eq_true,Option.some.injEq,Int.not_lt,Int.not_le,lp161_2,hpos,hget,eA,eS,happ]
   refine ⟨([r],A,r.b),by simp only [go_sem,reduceIte,Nat.reduceEqDiff,Nat.reduceAdd,Nat.reduceSub,Nat.reduceLeDiff,Nat.reduceLT,reduceCtorEq,Int.reduceLT,Int.reduceLE,Int.reduceEq,Int.reduceBEq,Int.reduceSub,Int.reduceAdd,Int.reduceMul,Int.reduceNeg,Int.reduceToNat,Nat.reduceMul,Nat.reduceBEq,ren1_locm,loc_tips,locT_eq,eA2,eS2,okRefsM,renCellsM,refsL_mpB,mapLs_mpB,compact,compactW,refsEnv,refsV,refsL,refsStore,refsAt,mapEnv,mapL,mapLs,newName,posOf,mapStore,pickStore,namesOk,List.contains_nil,List.contains_cons,Option.getD_some,hasKey]<;>rfl,?_,?_,fun x en s hq=> ?_⟩
   ·dsimp only;exact ⟨hap,c3⟩
   ·dsimp only;simp
   ·exact hq
  ·have eA:=b4A_ne hD
   have eS:=b4S_ne hD
   have hp1:1≤D.length:=List.length_pos_iff.2 hD
   have happ:=happ_at4 (mpB F) D r hp1 (by omega)
   have eA2:b4A (D++ [r])=.rsl 1 0 (D.length+1) (D.length+1) 4 true:=by rw [b4A_ne (by simp)];simp
   have eS2:b4S (D++ [r])=[flB (D++ [r])]:=b4S_ne (by simp)
   unfold blk at happ
   simp only [go_sem,reduceIte,Nat.reduceEqDiff,Nat.reduceAdd,Nat.reduceSub,Nat.reduceLeDiff,Nat.reduceLT,reduceCtorEq,Int.reduceLT,Int.reduceLE,Int.reduceEq,Int.reduceBEq,Int.reduceSub,Int.reduceAdd,Int.reduceMul,Int.reduceNeg,Int.reduceToNat,Nat.reduceMul,Nat.reduceBEq,index_rsl_if,setm,make_ints,condK_dec,wantK_dec,not_dec,and_dec,or_dec,seqK_ite,seqK_none,blockK_ite,blockK_none,opsK_ite,opsK_none,stepK_ite,stepK_none,bodyK_ite,bodyK_none,resK_ite,resK_none,leaveK_ite,leaveK_none,only_ite,only_none,bind_ite,gives_some,gives_none,gives_ite,then_normal,then_ret,then_exit,then_none,then_ite,Option.bind_none,Bool.not_eq_true',decide_eq_false_iff_not,Bool.and_eq_true,Bool.or_eq_true,Option.some.injEq,Int.not_lt,Int.not_le,lp161_2,hpos,hget,eA,eS,happ]
   refine ⟨(D++ [r],A,r.b),by simp only [go_sem,reduceIte,Nat.reduceEqDiff,Nat.reduceAdd,Nat.reduceSub,Nat.reduceLeDiff,Nat.reduceLT,reduceCtorEq,Int.reduceLT,Int.reduceLE,Int.reduceEq,Int.reduceBEq,Int.reduceSub,Int.reduceAdd,Int.reduceMul,Int.reduceNeg,Int.reduceToNat,Nat.reduceMul,Nat.reduceBEq,ren1_locm,loc_tips,locT_eq,eA2,eS2,okRefsM,renCellsM,refsL_mpB,mapLs_mpB,okRefs_flB,renCells_flB,refsL_flB,mapLs_flB,compact,compactW,refsEnv,refsV,refsL,refsStore,refsAt,mapEnv,mapL,mapLs,newName,posOf,mapStore,pickStore,namesOk,List.contains_nil,List.contains_cons,Option.getD_some,hasKey]<;>rfl,?_,?_,fun x en s hq=> ?_⟩
   ·dsimp only;exact ⟨hap,c3⟩
   ·dsimp only;simp
   ·exact hq
attribute [local go_sem] ren1_obj
abbrev r0:RunY:=⟨0,0,0⟩
def revTo (o:List RunY) (i:Nat):List RunY:=(List.range o.length).map fun a=>if a<i∨o.length-i≤a then o.getD (o.length-1-a) r0 else o.getD a r0
theorem revTo_len (o:List RunY)(i:Nat):(revTo o i).length=o.length:=by simp [revTo]
theorem revTo_get (o:List RunY)(i a:Nat)(h:a<o.length):(revTo o i)[a]'(by rw [revTo_len];exact h)=if a<i∨o.length-i≤a then o.getD (o.length-1-a) r0 else o.getD a r0:=by
 simp [revTo]
theorem getD_eqR (o:List RunY)(a:Nat)(h:a<o.length):o.getD a r0=o[a]:=by
 rw [List.getD_eq_getElem?_getD,List.getElem?_eq_getElem h];rfl
theorem revTo_zero (o:List RunY):revTo o 0=o:=by
 refine List.ext_getElem (revTo_len o 0) fun a h1 h2=> ?_
 rw [revTo_get o 0 a h2,if_neg (by omega),getD_eqR o a h2]
theorem revTo_end (o:List RunY)(i:Nat)(h:o.length≤2*i+1)(hi:2*i≤o.length):revTo o i=o.reverse:=by
 refine List.ext_getElem (by rw [revTo_len,List.length_reverse]) fun a h1 h2=> ?_
 rw [List.length_reverse] at h2
 rw [revTo_get o i a h2,List.getElem_reverse]
 by_cases p:a<i∨o.length-i≤a
 ·rw [if_pos p,getD_eqR o _ (by omega)]
 ·rw [if_neg p,getD_eqR o _ h2]
  congr 1;omega
theorem revTo_step (o:List RunY)(i:Nat)(h:2*i+1<o.length):((revTo o i).set i ((revTo o i).getD (o.length-1-i) r0)).set (o.length-1-i) ((revTo o i).getD i r0)=revTo o (i+1):=by
 have hl:=revTo_len o i
 have g1:(revTo o i).getD i r0=o.getD i r0:=by
  rw [getD_eqR _ _ (by omega),revTo_get o i i (by omega),if_neg (by omega)]
 have g2:(revTo o i).getD (o.length-1-i) r0=o.getD (o.length-1-i) r0:=by
  rw [getD_eqR _ _ (by omega),revTo_get o i _ (by omega),if_neg (by omega)]
 rw [g1,g2]
 refine List.ext_getElem (by rw [List.length_set,List.length_set,hl,revTo_len]) fun a h1 h2=> ?_
 rw [revTo_len] at h2
 rw [revTo_get o (i+1) a h2,List.getElem_set]
 by_cases p1:o.length-1-i=a
 ·rw [if_pos p1,if_pos (by omega)]
  congr 1;omega
 ·rw [if_neg p1,List.getElem_set]
  by_cases p2:i=a
  ·rw [if_pos p2,if_pos (by omega)]
   congr 1;omega
  ·rw [if_neg p2,revTo_get o i a h2]
   by_cases p3:a<i∨o.length-i≤a
   ·rw [if_pos p3,if_pos (by omega)]
   ·rw [if_neg p3,if_neg (by omega)]
theorem flB_take (o:List RunY)(a:Nat)(h:a<o.length):List.take 4 (List.drop (a*4) (flB o))=[I (o.getD a r0).b,I (o.getD a r0).e,I (o.getD a r0).y,I 1]:=fl_take blk 4 blk_len o a r0 h
theorem flB_set (o:List RunY)(a:Nat)(r:RunY)(h:a<o.length):putCells (flB o) (a*4) [I r.b,I r.e,I r.y,I 1]=flB (o.set a r):=fl_put blk 4 blk_len r o a h
set_option maxHeartbeats 2000000 in
theorem loop198 (M:List AV)(o:List RunY)(hn:o.length≤100)(h1n:1≤o.length)(i:Nat)(hok:2*i≤o.length∧i<o.length)(env:Env)(st:St)
  (hg:gcAV false 2 0 (canon env [0,2,3]) st=([(0,.rsl 1 0 o.length o.length 4 true),(2,I i),(3,I (o.length-1-i:Nat))],⟨[M,flB (revTo o i)],[]⟩)):
  ∃x_1 en s,lim (headed pure (run L) false [0,2,3] lp198_0 2 0) env st=some (x_1,en,s)∧(x_1=.exit 0∧s=⟨[M,flB o.reverse],[]⟩):=by
 refine loop_wp (α:=Nat) (fun i=>o.length-2*i) (fun i=>2*i≤o.length∧i<o.length) (fun i=>([(0,.rsl 1 0 o.length o.length 4 true),(2,I i),(3,I (o.length-1-i:Nat))],⟨[M,flB (revTo o i)],[]⟩)) (fun i x_1 en s=>x_1=.exit 0∧s=⟨[M,flB o.reverse],[]⟩) (fun i hok=> ?_) i hok env st hg
 obtain ⟨h1,h2⟩:=hok
 by_cases h:2*i+1<o.length
 ·have hlt:((i:Int)<((o.length-1-i:Nat):Int))=True:=eq_true (by omega)
  have hs:=succ64 i (by omega)
  have hd:IntKind.i64.wrap (((o.length-1-i:Nat):Int)-1)=((o.length-1-(i+1):Nat):Int):=by rw [wrap64]<;>omega
  have hl:=revTo_len o i
  have hfl:=flB_len (revTo o i)
  rw [hl] at hfl
  have t1:=flB_take (revTo o i) i (by omega)
  have t2:=flB_take (revTo o i) (o.length-1-i) (by omega)
  have p1:=flB_set (revTo o i) i ((revTo o i).getD (o.length-1-i) r0) (by omega)
  have p2:=flB_set ((revTo o i).set i ((revTo o i).getD (o.length-1-i) r0)) (o.length-1-i) ((revTo o i).getD i r0) (by rw [List.length_set];omega)
  rw [revTo_step o i h] at p2
  have hfl2:=flB_len ((revTo o i).set i ((revTo o i).getD (o.length-1-i) r0))
  rw [List.length_set,hl] at hfl2
  simp only [putCells] at p1 p2
  have b1:((i:Int)<(o.length:Int))=True:=eq_true (by omega)
  have b2:(((o.length-1-i:Nat):Int)<(o.length:Int))=True:=eq_true (by omega)
  have b3:(i*4+4≤4*o.length)=True:=eq_true (by omega)
  have b4:((o.length-1-i)*4+4≤4*o.length)=True:=eq_true (by omega)
  generalize (revTo o i).set i ((revTo o i).getD (o.length-1-i) r0)=o2 at*
  generalize (revTo o i).getD i r0=ra at*
  generalize (revTo o i).getD (o.length-1-i) r0=rb at*
  generalize hj:o.length-1-i=j at*
  simp only [go_sem,reduceIte,Nat.reduceEqDiff,Nat.reduceAdd,Nat.reduceSub,Nat.reduceLeDiff,Nat.reduceLT,reduceCtorEq,Int.reduceLT,Int.reduceLE,Int.reduceEq,Int.reduceBEq,Int.reduceSub,Int.reduceAdd,Int.reduceMul,Int.reduceNeg,Int.reduceToNat,Nat.reduceMul,Nat.reduceBEq,index_rsl_if,setm,make_ints,condK_dec,wantK_dec,not_dec,and_dec,or_dec,seqK_ite,seqK_none,blockK_ite,blockK_none,opsK_ite,opsK_none,stepK_ite,stepK_none,bodyK_ite,bodyK_none,resK_ite,resK_none,leaveK_ite,leaveK_none,only_ite,only_none,bind_ite,gives_some,gives_none,gives_ite,then_normal,then_ret,then_exit,then_none,then_ite,Option.bind_none,Bool.not_eq_true',decide_eq_false_iff_not,Bool.and_eq_true,Bool.or_eq_true,Option.some.injEq,Int.not_lt,Int.not_le,lp198_0,hlt,hs,hd,b1,b2,b3,b4,t1,t2,p1,p2,hfl,hfl2,Int.natCast_nonneg]
  refine ⟨(i+1),by simp only [go_sem,reduceIte,Nat.reduceEqDiff,Nat.reduceAdd,Nat.reduceSub,Nat.reduceLeDiff,Nat.reduceLT,reduceCtorEq,Int.reduceLT,Int.reduceLE,Int.reduceEq,Int.reduceBEq,Int.reduceSub,Int.reduceAdd,Int.reduceMul,Int.reduceNeg,Int.reduceToNat,Nat.reduceMul,Nat.reduceBEq,ren1_locm,loc_tips,locT_eq,okRefs_flB]<;>rfl,?_,?_,fun x en s hq=> ?_⟩
  ·omega
  ·omega
  ·exact hq
 ·have hlt:((i:Int)<((o.length-1-i:Nat):Int))=False:=eq_false (by omega)
  rw [revTo_end o i (by omega) h1]
  simp only [go_sem,reduceIte,Nat.reduceEqDiff,Nat.reduceAdd,Nat.reduceSub,Nat.reduceLeDiff,Nat.reduceLT,reduceCtorEq,Int.reduceLT,Int.reduceLE,Int.reduceEq,Int.reduceBEq,Int.reduceSub,Int.reduceAdd,Int.reduceMul,Int.reduceNeg,Int.reduceToNat,Nat.reduceMul,Nat.reduceBEq,index_rsl_if,setm,make_ints,condK_dec,wantK_dec,not_dec,and_dec,or_dec,seqK_ite,seqK_none,blockK_ite,blockK_none,opsK_ite,opsK_none,stepK_ite,stepK_none,bodyK_ite,bodyK_none,resK_ite,resK_none,leaveK_ite,leaveK_none,only_ite,only_none,bind_ite,gives_some,gives_none,gives_ite,then_normal,then_ret,then_exit,then_none,then_ite,Option.bind_none,Bool.not_eq_true',decide_eq_false_iff_not,Bool.and_eq_true,Bool.or_eq_true,Option.some.injEq,Int.not_lt,Int.not_le,lp198_0,hlt]
theorem c198 (M:List AV)(w:List RunY)(hn:w.length≤100)(h1n:1≤w.length):run L 198 [.rsl 1 0 w.length w.length 4 true] ⟨[M,flB w],[]⟩=some (.tup [],⟨[M,flB w.reverse],[]⟩):=by
 rw [run_shared (fn:=ir198) rfl rfl]
 have hw:IntKind.i64.wrap ((w.length:Int)-1)=((w.length-1-0:Nat):Int):=by rw [wrap64]<;>omega
 have hz:=revTo_zero w
 simp only [ir198,go_sem,reduceIte,Nat.reduceEqDiff,Nat.reduceAdd,Nat.reduceSub,Nat.reduceLeDiff,Nat.reduceLT,reduceCtorEq,Int.reduceLT,Int.reduceLE,Int.reduceEq,Int.reduceBEq,Int.reduceSub,Int.reduceAdd,Int.reduceMul,Int.reduceNeg,Int.reduceToNat,Nat.reduceMul,Nat.reduceBEq,hw]
 generalize hg:lim (headed pure (run L) false _ lp198_0 _ _) _ _=o
 obtain ⟨x,en,s,rfl,h2⟩: ∃x en s,o=some (x,en,s)∧_:=by rw [←hg];exact loop198 M w hn h1n 0 ⟨by omega,by omega⟩ _ _ (by simp only [go_sem,reduceIte,Nat.reduceEqDiff,Nat.reduceAdd,Nat.reduceSub,Nat.reduceLeDiff,Nat.reduceLT,reduceCtorEq,Int.reduceLT,Int.reduceLE,Int.reduceEq,Int.reduceBEq,Int.reduceSub,Int.reduceAdd,Int.reduceMul,Int.reduceNeg,Int.reduceToNat,Nat.reduceMul,Nat.reduceBEq,hz,Int.natCast_zero]<;>rfl)
 clear hg
 obtain ⟨rfl,rfl⟩:=h2
 simp only [go_sem,reduceIte,Nat.reduceEqDiff,Nat.reduceAdd,Nat.reduceSub,Nat.reduceLeDiff,Nat.reduceLT,reduceCtorEq,Int.reduceLT,Int.reduceLE,Int.reduceEq,Int.reduceBEq,Int.reduceSub,Int.reduceAdd,Int.reduceMul,Int.reduceNeg,Int.reduceToNat,Nat.reduceMul,Nat.reduceBEq]
theorem pubs_flB (o:List RunY):pubs (flB o)=flB o:=by
 unfold flB
 induction o with
 |nil=>rfl
 |cons p r ih=>
  rw [List.flatMap_cons]
  show I p.b::I p.e::I p.y::I 1::pubs (r.flatMap blk)=_
  rw [ih];rfl
theorem runsY_len (f:Nat→Int): ∀k,(runsY f k).length≤k
 |0=>by simp [runsY]
 |k+1=>by
  have ih:=runsY_len f k
  simp only [runsY]
  split
  ·simp
  ·next r R e=>
   rw [e] at ih
   split
   ·simp only [List.length_cons] at ih⊢;omega
   ·simp only [List.length_cons] at ih⊢;omega
theorem c161 (ss:List (Int×Int))(hS:SrcOk ss)(st:St):run L 161 [srAV ss] st=some (sl 4 false ((runsY (yr ss) ss.length).reverse.map fun r=> .agg (blk r)),st):=by
 rw [run_pure (fn:=ir161) rfl rfl]
 have h1:=hS.n1
 have h2:=hS.n2
 obtain ⟨hch,_,_,_⟩:=runs_ok (yr ss) ss.length hS.rise ss.length (Nat.le_refl _)
 have hrl:=runsY_len (yr ss) ss.length
 have hne:runsY (yr ss) ss.length≠[]:=by
  intro e
  rw [e] at hch
  have:ss.length=0:=hch
  omega
 have hpos:1≤(runsY (yr ss) ss.length).length:=List.length_pos_iff.2 hne
 have hm0: ∀X:List (List AV),[mapHd]::X=mpB (runsY (yr ss) 0)::X:=fun X=>rfl
 have e1:((0+1:Nat):Int)=1:=rfl
 simp only [ir161,go_sem,reduceIte,Nat.reduceEqDiff,Nat.reduceAdd,Nat.reduceSub,Nat.reduceLeDiff,Nat.reduceLT,reduceCtorEq,Int.reduceLT,Int.reduceLE,Int.reduceEq,Int.reduceBEq,Int.reduceSub,Int.reduceAdd,Int.reduceMul,Int.reduceNeg,Int.reduceToNat,Nat.reduceMul,Nat.reduceBEq,List.length_map]
 generalize hg:lim (headed pure (run L) true _ lp161_1 _ _) _ _=o
 obtain ⟨x,en,s,rfl,h2⟩: ∃x en s,o=some (x,en,s)∧_:=by rw [←hg];exact loop161_1 ss hS 0 (Nat.zero_le _) _ _ (by simp only [go_sem,reduceIte,Nat.reduceEqDiff,Nat.reduceAdd,Nat.reduceSub,Nat.reduceLeDiff,Nat.reduceLT,reduceCtorEq,Int.reduceLT,Int.reduceLE,Int.reduceEq,Int.reduceBEq,Int.reduceSub,Int.reduceAdd,Int.reduceMul,Int.reduceNeg,Int.reduceToNat,Nat.reduceMul,Nat.reduceBEq,hm0,okRefsM,renCellsM,e1]<;>rfl)
 clear hg
 obtain ⟨rfl,g0,g3,gK,rfl⟩:=h2
 generalize runsY (yr ss) ss.length=F at*
 have eA0:b4A []=.v (.slice none 0 0):=rfl
 have eS0:b4S []=[]:=rfl
 have eA:=b4A_ne hne
 have eS:=b4S_ne hne
 have h198:=c198 (mpB F) F (by omega) hpos
 have hlen:=flB_len F.reverse
 rw [List.length_reverse] at hlen
 have hgr:group true 4 F.length (flB F.reverse)=F.reverse.map fun r=> .agg (blk r):=group_fl blk 4 blk_len _ _ (List.length_reverse)
 simp only [go_sem,reduceIte,Nat.reduceEqDiff,Nat.reduceAdd,Nat.reduceSub,Nat.reduceLeDiff,Nat.reduceLT,reduceCtorEq,Int.reduceLT,Int.reduceLE,Int.reduceEq,Int.reduceBEq,Int.reduceSub,Int.reduceAdd,Int.reduceMul,Int.reduceNeg,Int.reduceToNat,Nat.reduceMul,Nat.reduceBEq,g0,g3,List.length_map]
 generalize hg:lim (headed pure (run L) true _ lp161_2 _ _) _ _=o
 obtain ⟨x,en,s,rfl,h2⟩: ∃x en s,o=some (x,en,s)∧_:=by rw [←hg];exact loop161_2 F (by omega) [] F ss.length ⟨rfl,hch⟩ _ _ (by simp only [go_sem,reduceIte,Nat.reduceEqDiff,Nat.reduceAdd,Nat.reduceSub,Nat.reduceLeDiff,Nat.reduceLT,reduceCtorEq,Int.reduceLT,Int.reduceLE,Int.reduceEq,Int.reduceBEq,Int.reduceSub,Int.reduceAdd,Int.reduceMul,Int.reduceNeg,Int.reduceToNat,Nat.reduceMul,Nat.reduceBEq,g3,gK,eA0,eS0,okRefsM,renCellsM,refsL_mpB,mapLs_mpB,compact,compactW,refsEnv,refsV,refsL,refsStore,refsAt,mapEnv,mapL,mapLs,newName,posOf,mapStore,pickStore,namesOk,List.contains_nil,List.contains_cons,Option.getD_some,hasKey]<;>rfl)
 clear hg
 obtain ⟨rfl,g8,rfl⟩:=h2
 rw [eA] at g8
 rw [eS]
 simp only [go_sem,reduceIte,Nat.reduceEqDiff,Nat.reduceAdd,Nat.reduceSub,Nat.reduceLeDiff,Nat.reduceLT,reduceCtorEq,Int.reduceLT,Int.reduceLE,Int.reduceEq,Int.reduceBEq,Int.reduceSub,Int.reduceAdd,Int.reduceMul,Int.reduceNeg,Int.reduceToNat,Nat.reduceMul,Nat.reduceBEq,g8,h198,fin,pubs_flB,hgr,hlen,sl_false]
 rw [if_pos (by omega)]
attribute [local go_sem] ren1_obj
def plAV (o:List (Int×Int)):AV:=loc 2 0 (o.map prAV)
def plT (o:List (Int×Int)):List Nat:=locT 0 (o.map prAV)
def plAcc (o:List (Int×Int)):List (Nat×Nat):=if (o.map prAV).length=0 then [] else [(0,(o.map prAV).length)]
theorem okRef_pl (n:Nat)(o:List (Int×Int)):okRef n (plAV o)=true:=okRef_loc _ _ _ _
theorem storable_pl (o:List (Int×Int)):storable (plAV o)=true:=storable_loc _ _ _
theorem shaped_pl (o:List (Int×Int)):(plAV o).shaped=true:=shaped_loc _ _ _
theorem cells_pl (o:List (Int×Int)):(plAV o).cells=[plAV o]:=cells_loc _ _ _
theorem ren1_pl (o:List (Int×Int)):ren1 0 (plT o) [] (plAV o)=(plAV o,plAcc o):=ren1_loc (k:=0) 2 (o.map prAV)
theorem plAcc_snd (o:List (Int×Int)):(plAcc o).map (fun x=>x.2)=plT o:=by
 unfold plAcc plT locT;split<;>rfl
theorem fin_pl (st:St)(o:List (Int×Int)):fin st (plAV o)=srAV o:=fin_loc st 2 0 _
theorem pub_pl (o:List (Int×Int)):pub (plAV o)=srAV o:=pub_loc 2 0 _
theorem len_pl (o:List (Int×Int)):lenAV (plAV o)=some (I o.length):=by
 have:=len_loc 2 0 (o.map prAV)
 rw [List.length_map] at this;exact this
theorem append_pl (o:List (Int×Int))(x:Int×Int)(s:List (List AV))(h:o.length<1000000):appendAV 2 (plAV o) [prAV x] ⟨s,plT o⟩=some (plAV (o++ [x]),⟨s,plT (o++ [x])⟩):=
 append_locm (z:=2) (k:=0) prAV o x s (by omega) (by unfold maxGrow;omega)
theorem pl_start: .v (.slice none 0 0)=plAV []:=rfl
theorem plT_nil:plT []=[]:=rfl
attribute [local go_sem] okRef_pl storable_pl shaped_pl cells_pl fin_pl pub_pl len_pl
abbrev bkV (r:RunY):AV:=.agg (blk r)
theorem index_blk (F:List RunY)(i:Nat)(h:i<F.length):indexSAV 4 (sl 4 false (F.map bkV)) (.v (.int .i64 i))=some (.eptr (.agg [I (F.getD i r0).b,I (F.getD i r0).e,I (F.getD i r0).y,I 1]) 0):=by
 rw [index_sl _ _ _ _ _ (by omega) (by simpa using h)]
 simp [List.getD_eq_getElem?_getD,h,blk]
theorem ren1_pl1 (o:List (Int×Int))(h:o≠[])(T:List Nat)(acc:List (Nat×Nat)):ren1 1 T acc (plAV o)=(plAV o,acc):=by
 have hl:(o.map prAV).length≠0:=by simpa using h
 unfold plAV loc
 rw [if_neg hl]
 simp [ren1]
theorem take_plT (o:List (Int×Int)):(plT o).take 1=plT o:=by
 unfold plT locT;split<;>rfl
theorem loop111_0 (r:RunY)(m:Nat)(hm:m≤8)(F:List RunY)(x y:Int)(hi:Nat)(hh:hi≤1)(i:Nat)(q:List (Int×Int))(hok:i≤m∧q.length≤100+i∧(hi=1→q≠[]))(env:Env)(st:St)
  (hg:gcAV true 1 hi (canon env [3,5,7,8,9,17,18]) st=([(3,plAV q),(5,.ptr 0 0),(7,sl 4 false (F.map bkV)),(8,I x),(9,I y),(17,I m),(18,I i)],⟨[[I r.b,I r.e,I r.y,I 1]],plT q⟩)):
  ∃x_1 en s,lim (headed pure (run L) true [3,5,7,8,9,17,18] lp111_0 1 hi) env st=some (x_1,en,s)∧(x_1=.exit 2∧en.get 3=plAV (q++List.replicate (m-i) (r.y,1))∧en.get 7=sl 4 false (F.map bkV)∧en.get 8=I x∧en.get 9=I y∧s=⟨[[I r.b,I r.e,I r.y,I 1]],plT (q++List.replicate (m-i) (r.y,1))⟩):=by
 refine loop_wp (α:=Nat×List (Int×Int)) (fun ⟨i,q⟩=>m-i) (fun ⟨i,q⟩=>i≤m∧q.length≤100+i∧(hi=1→q≠[])) (fun ⟨i,q⟩=>([(3,plAV q),(5,.ptr 0 0),(7,sl 4 false (F.map bkV)),(8,I x),(9,I y),(17,I m),(18,I i)],⟨[[I r.b,I r.e,I r.y,I 1]],plT q⟩)) (fun ⟨i,q⟩ x_1 en s=>x_1=.exit 2∧en.get 3=plAV (q++List.replicate (m-i) (r.y,1))∧en.get 7=sl 4 false (F.map bkV)∧en.get 8=I x∧en.get 9=I y∧s=⟨[[I r.b,I r.e,I r.y,I 1]],plT (q++List.replicate (m-i) (r.y,1))⟩) (fun ⟨i,q⟩ hok=> ?_) ⟨i,q⟩ hok env st hg
 simp only at hok
 obtain ⟨h1,h2,h3⟩:=hok
 dsimp only at h1 h2 h3⊢
 by_cases h:i<m
 ·have hs:=succ64 i (by omega)
  have hlt:((i:Int)<(m:Int))=True:=eq_true (by omega)
  have happ:=fun s=>append_pl q (r.y,1) s (by omega)
  have hrep:q++List.replicate (m-i) (r.y,(1:Int))=(q++ [(r.y,1)])++List.replicate (m-(i+1)) (r.y,1):=by
   rw [show m-i=(m-(i+1))+1 by omega,List.replicate_succ];simp
  rw [hrep]
  have hne:q++ [(r.y,(1:Int))]≠[]:=by simp
  have hql:(q++ [(r.y,(1:Int))]).length≤100+(i+1):=by rw [List.length_append];simp;omega
  generalize q++ [(r.y,(1:Int))]=q2 at*
  generalize hX:List.replicate (m-(i+1)) (r.y,(1:Int))=X at*
  rcases (show hi=0∨hi=1 by omega) with rfl|rfl
  ·have hren:=ren1_pl q2
   simp only [go_sem,reduceIte,Nat.reduceEqDiff,Nat.reduceAdd,Nat.reduceSub,Nat.reduceLeDiff,Nat.reduceLT,reduceCtorEq,Int.reduceLT,Int.reduceLE,Int.reduceEq,Int.reduceBEq,Int.reduceSub,Int.reduceAdd,Int.reduceMul,Int.reduceNeg,Int.reduceToNat,Nat.reduceMul,Nat.reduceBEq,index_rsl_if,setm,make_ints,condK_dec,wantK_dec,not_dec,and_dec,or_dec,seqK_ite,seqK_none,blockK_ite,blockK_none,opsK_ite,opsK_none,stepK_ite,stepK_none,bodyK_ite,bodyK_none,resK_ite,resK_none,leaveK_ite,leaveK_none,only_ite,only_none,bind_ite,gives_some,gives_none,gives_ite,then_normal,then_ret,then_exit,then_none,then_ite,Option.bind_none,Bool.not_eq_true',decide_eq_false_iff_not,Bool.and_eq_true,Bool.or_eq_true,Option.some.injEq,Int.not_lt,Int.not_le,lp111_0,hlt,happ,hs]
   refine ⟨(i+1,q2),by simp only [go_sem,reduceIte,Nat.reduceEqDiff,Nat.reduceAdd,Nat.reduceSub,Nat.reduceLeDiff,Nat.reduceLT,reduceCtorEq,Int.reduceLT,Int.reduceLE,Int.reduceEq,Int.reduceBEq,Int.reduceSub,Int.reduceAdd,Int.reduceMul,Int.reduceNeg,Int.reduceToNat,Nat.reduceMul,Nat.reduceBEq,ren1_locm,loc_tips,locT_eq,hren,plAcc_snd]<;>rfl,?_,?_,fun x en s hq=> ?_⟩
   ·dsimp only;exact ⟨by omega,hql,fun _=>hne⟩
   ·dsimp only;omega
   ·rw [hX] at hq;exact hq
  ·have hren:=ren1_pl1 q2 hne
   have htk:=take_plT q2
   simp only [go_sem,reduceIte,Nat.reduceEqDiff,Nat.reduceAdd,Nat.reduceSub,Nat.reduceLeDiff,Nat.reduceLT,reduceCtorEq,Int.reduceLT,Int.reduceLE,Int.reduceEq,Int.reduceBEq,Int.reduceSub,Int.reduceAdd,Int.reduceMul,Int.reduceNeg,Int.reduceToNat,Nat.reduceMul,Nat.reduceBEq,index_rsl_if,setm,make_ints,condK_dec,wantK_dec,not_dec,and_dec,or_dec,seqK_ite,seqK_none,blockK_ite,blockK_none,opsK_ite,opsK_none,stepK_ite,stepK_none,bodyK_ite,bodyK_none,resK_ite,resK_none,leaveK_ite,leaveK_none,only_ite,only_none,bind_ite,gives_some,gives_none,gives_ite,then_normal,then_ret,then_exit,then_none,then_ite,Option.bind_none,Bool.not_eq_true',decide_eq_false_iff_not,Bool.and_eq_true,Bool.or_eq_true,Option.some.injEq,Int.not_lt,Int.not_le,lp111_0,hlt,happ,hs]
   refine ⟨(i+1,q2),by simp only [go_sem,reduceIte,Nat.reduceEqDiff,Nat.reduceAdd,Nat.reduceSub,Nat.reduceLeDiff,Nat.reduceLT,reduceCtorEq,Int.reduceLT,Int.reduceLE,Int.reduceEq,Int.reduceBEq,Int.reduceSub,Int.reduceAdd,Int.reduceMul,Int.reduceNeg,Int.reduceToNat,Nat.reduceMul,Nat.reduceBEq,ren1_locm,loc_tips,locT_eq,hren,htk]<;>rfl,?_,?_,fun x en s hq=> ?_⟩
   ·dsimp only;exact ⟨by omega,hql,fun _=>hne⟩
   ·dsimp only;omega
   ·rw [hX] at hq;exact hq
 ·have hlt:((i:Int)<(m:Int))=False:=eq_false (by omega)
  obtain rfl:i=m:=by omega
  rw [Nat.sub_self,List.replicate_zero,List.append_nil]
  simp only [go_sem,reduceIte,Nat.reduceEqDiff,Nat.reduceAdd,Nat.reduceSub,Nat.reduceLeDiff,Nat.reduceLT,reduceCtorEq,Int.reduceLT,Int.reduceLE,Int.reduceEq,Int.reduceBEq,Int.reduceSub,Int.reduceAdd,Int.reduceMul,Int.reduceNeg,Int.reduceToNat,Nat.reduceMul,Nat.reduceBEq,index_rsl_if,setm,make_ints,condK_dec,wantK_dec,not_dec,and_dec,or_dec,seqK_ite,seqK_none,blockK_ite,blockK_none,opsK_ite,opsK_none,stepK_ite,stepK_none,bodyK_ite,bodyK_none,resK_ite,resK_none,leaveK_ite,leaveK_none,only_ite,only_none,bind_ite,gives_some,gives_none,gives_ite,then_normal,then_ret,then_exit,then_none,then_ite,Option.bind_none,Bool.not_eq_true',decide_eq_false_iff_not,Bool.and_eq_true,Bool.or_eq_true,Option.some.injEq,Int.not_lt,Int.not_le,lp111_0,hlt]
def exF (F:List RunY):List (Int×Int):=F.flatMap exR
theorem loop111_1 (F:List RunY)(hF: ∀r∈F,r.b<r.e∧r.e≤8)(hl:F.length≤8)(i:Nat)(q:List (Int×Int))(hok:i≤F.length∧q.length≤10*i)(env:Env)(st:St)
  (hg:gcAV true 0 0 (canon env [3,7,8,9]) st=([(3,plAV q),(7,sl 4 false (F.map bkV)),(8,I F.length),(9,I i)],⟨[],plT q⟩)):
  ∃x_1 en s,lim (headed pure (run L) true [3,7,8,9] lp111_1 0 0) env st=some (x_1,en,s)∧(x_1=.exit 0∧en.get 3=plAV (q++exF (F.drop i))∧s=⟨[],plT (q++exF (F.drop i))⟩):=by
 refine loop_wp (α:=Nat×List (Int×Int)) (fun ⟨i,q⟩=>F.length-i) (fun ⟨i,q⟩=>i≤F.length∧q.length≤10*i) (fun ⟨i,q⟩=>([(3,plAV q),(7,sl 4 false (F.map bkV)),(8,I F.length),(9,I i)],⟨[],plT q⟩)) (fun ⟨i,q⟩ x_1 en s=>x_1=.exit 0∧en.get 3=plAV (q++exF (F.drop i))∧s=⟨[],plT (q++exF (F.drop i))⟩) (fun ⟨i,q⟩ hok=> ?_) ⟨i,q⟩ hok env st hg
 simp only at hok
 obtain ⟨h1,h2⟩:=hok
 dsimp only at h1 h2⊢
 by_cases h:i<F.length
 ·have hs:=succ64 i (by omega)
  have hlt:((i:Int)<(F.length:Int))=True:=eq_true (by omega)
  have hx:=index_blk F i h
  have hr:=hF _ (getD_in F i r0 h)
  have hd:F.drop i=F.getD i r0::F.drop (i+1):=by
   rw [List.drop_eq_getElem_cons h];simp [List.getD_eq_getElem?_getD,h]
  rw [hd]
  generalize F.getD i r0=r at*
  have hw:IntKind.i64.wrap ((r.e:Int)-(r.b:Int))=((r.e-r.b:Nat):Int):=by rw [wrap64]<;>omega
  have hex:q++exF (r::F.drop (i+1))=(q++List.replicate (r.e-r.b) (r.y,1))++exF (F.drop (i+1)):=by simp [exF,exR]
  rw [hex]
  have hql:(q++List.replicate (r.e-r.b) (r.y,(1:Int))).length≤10*(i+1):=by rw [List.length_append,List.length_replicate];omega
  have hren:=ren1_pl (q++List.replicate (r.e-r.b) (r.y,1))
  by_cases e:q=[]
  ·subst e
   have hp0:plT []=[]:=rfl
   have hr0: ∀n T acc,ren1 n T acc (plAV [])=(plAV [],acc):=fun _ _ _=>rfl
   simp only [go_sem,reduceIte,Nat.reduceEqDiff,Nat.reduceAdd,Nat.reduceSub,Nat.reduceLeDiff,Nat.reduceLT,reduceCtorEq,Int.reduceLT,Int.reduceLE,Int.reduceEq,Int.reduceBEq,Int.reduceSub,Int.reduceAdd,Int.reduceMul,Int.reduceNeg,Int.reduceToNat,Nat.reduceMul,Nat.reduceBEq,index_rsl_if,setm,make_ints,condK_dec,wantK_dec,not_dec,and_dec,or_dec,seqK_ite,seqK_none,blockK_ite,blockK_none,opsK_ite,opsK_none,stepK_ite,stepK_none,bodyK_ite,bodyK_none,resK_ite,resK_none,leaveK_ite,leaveK_none,only_ite,only_none,bind_ite,gives_some,gives_none,gives_ite,then_normal,then_ret,then_exit,then_none,then_ite,Option.bind_none,Bool.not_eq_true',decide_eq_false_iff_not,Bool.and_eq_true,Bool.or_eq_true,Option.some.injEq,Int.not_lt,Int.not_le,lp111_1,hlt,hx,hw,hp0]
   generalize hg:lim (headed pure (run L) true _ lp111_0 _ _) _ _=o
   obtain ⟨x,en,s,rfl,h2⟩: ∃x en s,o=some (x,en,s)∧_:=by rw [←hg];exact loop111_0 r (r.e-r.b) (by omega) F F.length i 0 (by omega) 0 [] ⟨by omega,by simp,fun h=>by cases h⟩ _ _ (by simp only [go_sem,reduceIte,Nat.reduceEqDiff,Nat.reduceAdd,Nat.reduceSub,Nat.reduceLeDiff,Nat.reduceLT,reduceCtorEq,Int.reduceLT,Int.reduceLE,Int.reduceEq,Int.reduceBEq,Int.reduceSub,Int.reduceAdd,Int.reduceMul,Int.reduceNeg,Int.reduceToNat,Nat.reduceMul,Nat.reduceBEq,hr0,hp0,Int.natCast_zero]<;>rfl)
   clear hg
   rw [Nat.sub_zero] at h2
   obtain ⟨rfl,g3,g7,g8,g9,rfl⟩:=h2
   rw [List.nil_append] at g3 hql hren
   simp only [List.nil_append]
   generalize List.replicate (r.e-r.b) (r.y,(1:Int))=q2 at*
   simp only [go_sem,reduceIte,Nat.reduceEqDiff,Nat.reduceAdd,Nat.reduceSub,Nat.reduceLeDiff,Nat.reduceLT,reduceCtorEq,Int.reduceLT,Int.reduceLE,Int.reduceEq,Int.reduceBEq,Int.reduceSub,Int.reduceAdd,Int.reduceMul,Int.reduceNeg,Int.reduceToNat,Nat.reduceMul,Nat.reduceBEq,index_rsl_if,setm,make_ints,condK_dec,wantK_dec,not_dec,and_dec,or_dec,seqK_ite,seqK_none,blockK_ite,blockK_none,opsK_ite,opsK_none,stepK_ite,stepK_none,bodyK_ite,bodyK_none,resK_ite,resK_none,leaveK_ite,leaveK_none,only_ite,only_none,bind_ite,gives_some,gives_none,gives_ite,then_normal,then_ret,then_exit,then_none,then_ite,Option.bind_none,Bool.not_eq_true',decide_eq_false_iff_not,Bool.and_eq_true,Bool.or_eq_true,Option.some.injEq,Int.not_lt,Int.not_le,lp111_1,g3,g7,g8,g9,hs]
   refine ⟨(i+1,q2),by simp only [go_sem,reduceIte,Nat.reduceEqDiff,Nat.reduceAdd,Nat.reduceSub,Nat.reduceLeDiff,Nat.reduceLT,reduceCtorEq,Int.reduceLT,Int.reduceLE,Int.reduceEq,Int.reduceBEq,Int.reduceSub,Int.reduceAdd,Int.reduceMul,Int.reduceNeg,Int.reduceToNat,Nat.reduceMul,Nat.reduceBEq,ren1_locm,loc_tips,locT_eq,g3,g7,g8,hren,plAcc_snd]<;>rfl,?_,?_,fun x en s hq=> ?_⟩
   ·dsimp only;exact ⟨by omega,hql⟩
   ·dsimp only;omega
   ·exact hq
  ·have hpl:(plT q).length=1:=by
    unfold plT locT;rw [if_neg (by simpa using e)];rfl
   have hr1:=ren1_pl1 q e
   have htk:=take_plT q
   simp only [go_sem,reduceIte,Nat.reduceEqDiff,Nat.reduceAdd,Nat.reduceSub,Nat.reduceLeDiff,Nat.reduceLT,reduceCtorEq,Int.reduceLT,Int.reduceLE,Int.reduceEq,Int.reduceBEq,Int.reduceSub,Int.reduceAdd,Int.reduceMul,Int.reduceNeg,Int.reduceToNat,Nat.reduceMul,Nat.reduceBEq,index_rsl_if,setm,make_ints,condK_dec,wantK_dec,not_dec,and_dec,or_dec,seqK_ite,seqK_none,blockK_ite,blockK_none,opsK_ite,opsK_none,stepK_ite,stepK_none,bodyK_ite,bodyK_none,resK_ite,resK_none,leaveK_ite,leaveK_none,only_ite,only_none,bind_ite,gives_some,gives_none,gives_ite,then_normal,then_ret,then_exit,then_none,then_ite,Option.bind_none,Bool.not_eq_true',decide_eq_false_iff_not,Bool.and_eq_true,Bool.or_eq_true,Option.some.injEq,Int.not_lt,Int.not_le,lp111_1,hlt,hx,hw,hpl]
   generalize hg:lim (headed pure (run L) true _ lp111_0 _ _) _ _=o
   obtain ⟨x,en,s,rfl,h2⟩: ∃x en s,o=some (x,en,s)∧_:=by rw [←hg];exact loop111_0 r (r.e-r.b) (by omega) F F.length i 1 (by omega) 0 q ⟨by omega,by omega,fun _=>e⟩ _ _ (by simp only [go_sem,reduceIte,Nat.reduceEqDiff,Nat.reduceAdd,Nat.reduceSub,Nat.reduceLeDiff,Nat.reduceLT,reduceCtorEq,Int.reduceLT,Int.reduceLE,Int.reduceEq,Int.reduceBEq,Int.reduceSub,Int.reduceAdd,Int.reduceMul,Int.reduceNeg,Int.reduceToNat,Nat.reduceMul,Nat.reduceBEq,hr1,htk,hpl,Int.natCast_zero]<;>rfl)
   clear hg
   rw [Nat.sub_zero] at h2
   obtain ⟨rfl,g3,g7,g8,g9,rfl⟩:=h2
   generalize q++List.replicate (r.e-r.b) (r.y,(1:Int))=q2 at*
   simp only [go_sem,reduceIte,Nat.reduceEqDiff,Nat.reduceAdd,Nat.reduceSub,Nat.reduceLeDiff,Nat.reduceLT,reduceCtorEq,Int.reduceLT,Int.reduceLE,Int.reduceEq,Int.reduceBEq,Int.reduceSub,Int.reduceAdd,Int.reduceMul,Int.reduceNeg,Int.reduceToNat,Nat.reduceMul,Nat.reduceBEq,index_rsl_if,setm,make_ints,condK_dec,wantK_dec,not_dec,and_dec,or_dec,seqK_ite,seqK_none,blockK_ite,blockK_none,opsK_ite,opsK_none,stepK_ite,stepK_none,bodyK_ite,bodyK_none,resK_ite,resK_none,leaveK_ite,leaveK_none,only_ite,only_none,bind_ite,gives_some,gives_none,gives_ite,then_normal,then_ret,then_exit,then_none,then_ite,Option.bind_none,Bool.not_eq_true',decide_eq_false_iff_not,Bool.and_eq_true,Bool.or_eq_true,Option.some.injEq,Int.not_lt,Int.not_le,lp111_1,g3,g7,g8,g9,hs]
   refine ⟨(i+1,q2),by simp only [go_sem,reduceIte,Nat.reduceEqDiff,Nat.reduceAdd,Nat.reduceSub,Nat.reduceLeDiff,Nat.reduceLT,reduceCtorEq,Int.reduceLT,Int.reduceLE,Int.reduceEq,Int.reduceBEq,Int.reduceSub,Int.reduceAdd,Int.reduceMul,Int.reduceNeg,Int.reduceToNat,Nat.reduceMul,Nat.reduceBEq,ren1_locm,loc_tips,locT_eq,g3,g7,g8,hren,plAcc_snd]<;>rfl,?_,?_,fun x en s hq=> ?_⟩
   ·dsimp only;exact ⟨by omega,hql⟩
   ·dsimp only;omega
   ·exact hq
 ·have hlt:((i:Int)<(F.length:Int))=False:=eq_false (by omega)
  have hd:F.drop i=[]:=List.drop_eq_nil_of_le (by omega)
  rw [hd,show exF []=[] from rfl,List.append_nil]
  simp only [go_sem,reduceIte,Nat.reduceEqDiff,Nat.reduceAdd,Nat.reduceSub,Nat.reduceLeDiff,Nat.reduceLT,reduceCtorEq,Int.reduceLT,Int.reduceLE,Int.reduceEq,Int.reduceBEq,Int.reduceSub,Int.reduceAdd,Int.reduceMul,Int.reduceNeg,Int.reduceToNat,Nat.reduceMul,Nat.reduceBEq,index_rsl_if,setm,make_ints,condK_dec,wantK_dec,not_dec,and_dec,or_dec,seqK_ite,seqK_none,blockK_ite,blockK_none,opsK_ite,opsK_none,stepK_ite,stepK_none,bodyK_ite,bodyK_none,resK_ite,resK_none,leaveK_ite,leaveK_none,only_ite,only_none,bind_ite,gives_some,gives_none,gives_ite,then_normal,then_ret,then_exit,then_none,then_ite,Option.bind_none,Bool.not_eq_true',decide_eq_false_iff_not,Bool.and_eq_true,Bool.or_eq_true,Option.some.injEq,Int.not_lt,Int.not_le,lp111_1,hlt]
def nearY (ss:List (Int×Int)):List (Int×Int):=(List.range ss.length).map fun i=>(yr ss i,1)
theorem c111 (ss:List (Int×Int))(hS:SrcOk ss)(st:St):run L 111 [srAV ss] st=some (srAV (nearY ss),st):=by
 rw [run_pure (fn:=ir111) rfl rfl]
 have h8:=hS.n2
 have h161:=fun st=>c161 ss hS st
 have hrl:=runsY_len (yr ss) ss.length
 have hall: ∀j,j≤ss.length→Ch (runsY (yr ss) j) j:=fun j hj=>(runs_ok (yr ss) ss.length hS.rise j hj).1
 have hch:=hall ss.length (Nat.le_refl _)
 have hex:exF (runsY (yr ss) ss.length).reverse=nearY ss:=ex_runs (yr ss) ss.length hch hall
 have hF: ∀r∈(runsY (yr ss) ss.length).reverse,r.b<r.e∧r.e≤8:=by
  intro r hr
  rw [List.mem_reverse] at hr
  have h1:=ch_le hch r hr
  refine ⟨?_,by omega⟩
  have: ∀(R:List RunY) (k:Nat),Ch R k→∀r∈R,r.b<r.e:=by
   intro R
   induction R with
   |nil=>intro k _ r hr;simp at hr
   |cons a A ih=>
    intro k h r hr
    obtain ⟨c1,c2,c3⟩:=h
    rcases List.mem_cons.1 hr with rfl|hr
    ·omega
    ·exact ih _ c3 r hr
  exact this _ _ hch r hr
 have hFl:(runsY (yr ss) ss.length).reverse.length≤8:=by rw [List.length_reverse];omega
 generalize (runsY (yr ss) ss.length).reverse=F at*
 simp only [ir111,go_sem,reduceIte,Nat.reduceEqDiff,Nat.reduceAdd,Nat.reduceSub,Nat.reduceLeDiff,Nat.reduceLT,reduceCtorEq,Int.reduceLT,Int.reduceLE,Int.reduceEq,Int.reduceBEq,Int.reduceSub,Int.reduceAdd,Int.reduceMul,Int.reduceNeg,Int.reduceToNat,Nat.reduceMul,Nat.reduceBEq,h161,List.length_map]
 generalize hg:lim (headed pure (run L) true _ lp111_1 _ _) _ _=o
 obtain ⟨x,en,s,rfl,h2⟩: ∃x en s,o=some (x,en,s)∧_:=by rw [←hg];exact loop111_1 F hF hFl 0 [] ⟨by omega,by simp⟩ _ _ (by simp only [go_sem,reduceIte,Nat.reduceEqDiff,Nat.reduceAdd,Nat.reduceSub,Nat.reduceLeDiff,Nat.reduceLT,reduceCtorEq,Int.reduceLT,Int.reduceLE,Int.reduceEq,Int.reduceBEq,Int.reduceSub,Int.reduceAdd,Int.reduceMul,Int.reduceNeg,Int.reduceToNat,Nat.reduceMul,Nat.reduceBEq,←pl_start,plT_nil,Int.natCast_zero]<;>rfl)
 clear hg
 rw [List.drop_zero,List.nil_append,hex] at h2
 obtain ⟨rfl,g3,rfl⟩:=h2
 simp only [go_sem,reduceIte,Nat.reduceEqDiff,Nat.reduceAdd,Nat.reduceSub,Nat.reduceLeDiff,Nat.reduceLT,reduceCtorEq,Int.reduceLT,Int.reduceLE,Int.reduceEq,Int.reduceBEq,Int.reduceSub,Int.reduceAdd,Int.reduceMul,Int.reduceNeg,Int.reduceToNat,Nat.reduceMul,Nat.reduceBEq,g3]
theorem c48 (ss:List (Int×Int))(hS:SrcOk ss)(st:St):run L 48 [srAV ss] st=some (.tup [srAV (nearY ss),I 0],st):=by
 rw [run_pure (fn:=ir48) rfl rfl]
 have h110:=fun st=>c110 ss hS st
 have h111:=fun st=>c111 ss hS st
 simp only [ir48,go_sem,reduceIte,Nat.reduceEqDiff,Nat.reduceAdd,Nat.reduceSub,Nat.reduceLeDiff,Nat.reduceLT,reduceCtorEq,Int.reduceLT,Int.reduceLE,Int.reduceEq,Int.reduceBEq,Int.reduceSub,Int.reduceAdd,Int.reduceMul,Int.reduceNeg,Int.reduceToNat,Nat.reduceMul,Nat.reduceBEq,h110,h111]
attribute [local go_sem] okRef_li storable_li shaped_li cells_li fin_li1 fin_li0 pub_li1 pub_li0
attribute [local go_sem] okRef_pl storable_pl shaped_pl cells_pl fin_pl pub_pl len_pl
def srcTo (S:List Int) (k:Nat):List (Int×Int):=(List.range k).map fun (i:Nat)=>(S.getD i 0,((1+i:Nat):Int))
theorem srcTo_succ (S:List Int)(k:Nat):srcTo S (k+1)=srcTo S k++ [(S.getD k 0,((1+k:Nat):Int))]:=by simp [srcTo,List.range_succ]
theorem srcTo_len (S:List Int)(k:Nat):(srcTo S k).length=k:=by simp [srcTo]
theorem srcTo_get (S:List Int)(k i:Nat)(h:i<k):(srcTo S k).getD i (0,0)=(S.getD i 0,((1+i:Nat):Int)):=by
 simp [srcTo,List.getD_eq_getElem?_getD,h]
theorem loop9_0 (zs:List Int)(w:Int)(ws:List Int)(S:List Int)(hS: ∀i,i<S.length→0≤S.getD i 0∧S.getD i 0≤i)(hl:S.length≤8)(i:Nat)(hok:i≤S.length)(env:Env)(st:St)
  (hg:gcAV true 2 0 (canon env [10,39,40,41]) st=([(10,plAV (srcTo S i)),(39,sl 1 true (S.map I)),(40,I S.length),(41,I i)],⟨[zs.map B8,[I w,sl 1 true (ws.map I)]],plT (srcTo S i)⟩)):
  ∃x_1 en s,lim (headed pure (run L) true [10,39,40,41] lp9_0 2 0) env st=some (x_1,en,s)∧(x_1=.exit 0∧en.get 10=plAV (srcTo S S.length)∧s=⟨[zs.map B8,[I w,sl 1 true (ws.map I)]],plT (srcTo S S.length)⟩):=by
 refine loop_wp (α:=Nat) (fun i=>S.length-i) (fun i=>i≤S.length) (fun i=>([(10,plAV (srcTo S i)),(39,sl 1 true (S.map I)),(40,I S.length),(41,I i)],⟨[zs.map B8,[I w,sl 1 true (ws.map I)]],plT (srcTo S i)⟩)) (fun i x_1 en s=>x_1=.exit 0∧en.get 10=plAV (srcTo S S.length)∧s=⟨[zs.map B8,[I w,sl 1 true (ws.map I)]],plT (srcTo S S.length)⟩) (fun i hok=> ?_) i hok env st hg
 by_cases h:i<S.length
 ·have hs:=succ64 i (by omega)
  have hlt:((i:Int)<(S.length:Int))=True:=eq_true (by omega)
  have hx:=index_ints true S i h
  have hge:S[i]=S.getD i 0:=by simp [List.getD_eq_getElem?_getD,h]
  have hb:=hS i h
  rw [hge] at hx
  have hsl:=srcTo_len S i
  have happ:=fun s=>append_pl (srcTo S i) (S.getD i 0,((1+i:Nat):Int)) s (by omega)
  rw [←srcTo_succ] at happ
  have p1:(S.getD i 0<0)=False:=eq_false (by omega)
  have p2:((i:Int)<S.getD i 0)=False:=eq_false (by omega)
  have hw:IntKind.i64.wrap (1+(i:Int))=((1+i:Nat):Int):=by rw [wrap64]<;>omega
  have hren:=ren1_pl (srcTo S (i+1))
  generalize S.getD i 0=c at*
  generalize hA:srcTo S (i+1)=A at*
  simp only [go_sem,reduceIte,Nat.reduceEqDiff,Nat.reduceAdd,Nat.reduceSub,Nat.reduceLeDiff,Nat.reduceLT,reduceCtorEq,Int.reduceLT,Int.reduceLE,Int.reduceEq,Int.reduceBEq,Int.reduceSub,Int.reduceAdd,Int.reduceMul,Int.reduceNeg,Int.reduceToNat,Nat.reduceMul,Nat.reduceBEq,index_rsl_if,setm,make_ints,condK_dec,wantK_dec,not_dec,and_dec,or_dec,seqK_ite,seqK_none,blockK_ite,blockK_none,opsK_ite,opsK_none,stepK_ite,stepK_none,bodyK_ite,bodyK_none,resK_ite,resK_none,leaveK_ite,leaveK_none,only_ite,only_none,bind_ite,gives_some,gives_none,gives_ite,then_normal,then_ret,then_exit,then_none,then_ite,Option.bind_none,Bool.not_eq_true',decide_eq_false_iff_not,Bool.and_eq_true,Bool.or_eq_true,Option.some.injEq,Int.not_lt,Int.not_le,lp9_0,hlt,hx,p1,p2,hw,happ,hs]
  refine ⟨(i+1),by simp only [go_sem,reduceIte,Nat.reduceEqDiff,Nat.reduceAdd,Nat.reduceSub,Nat.reduceLeDiff,Nat.reduceLT,reduceCtorEq,Int.reduceLT,Int.reduceLE,Int.reduceEq,Int.reduceBEq,Int.reduceSub,Int.reduceAdd,Int.reduceMul,Int.reduceNeg,Int.reduceToNat,Nat.reduceMul,Nat.reduceBEq,ren1_locm,loc_tips,locT_eq,hA,hren,plAcc_snd,okRefsB,renCellsB]<;>rfl,?_,?_,fun x en s hq=> ?_⟩
  all_goals first|exact hq|omega
 ·have hlt:((i:Int)<(S.length:Int))=False:=eq_false (by omega)
  obtain rfl:i=S.length:=by omega
  simp only [go_sem,reduceIte,Nat.reduceEqDiff,Nat.reduceAdd,Nat.reduceSub,Nat.reduceLeDiff,Nat.reduceLT,reduceCtorEq,Int.reduceLT,Int.reduceLE,Int.reduceEq,Int.reduceBEq,Int.reduceSub,Int.reduceAdd,Int.reduceMul,Int.reduceNeg,Int.reduceToNat,Nat.reduceMul,Nat.reduceBEq,index_rsl_if,setm,make_ints,condK_dec,wantK_dec,not_dec,and_dec,or_dec,seqK_ite,seqK_none,blockK_ite,blockK_none,opsK_ite,opsK_none,stepK_ite,stepK_none,bodyK_ite,bodyK_none,resK_ite,resK_none,leaveK_ite,leaveK_none,only_ite,only_none,bind_ite,gives_some,gives_none,gives_ite,then_normal,then_ret,then_exit,then_none,then_ite,Option.bind_none,Bool.not_eq_true',decide_eq_false_iff_not,Bool.and_eq_true,Bool.or_eq_true,Option.some.injEq,Int.not_lt,Int.not_le,lp9_0,hlt]
theorem index_pl (o:List (Int×Int))(i:Nat)(h:i<o.length):indexSAV 2 (plAV o) (.v (.int .i64 i))=some (.eptr (prAV (o.getD i (0,0))) 0):=by
 unfold plAV
 rw [index_loc_if (d:=(0,0)) 2 0 prAV o .i64 i (by omega),if_pos (by omega)]
 simp
theorem near_get (ss:List (Int×Int))(i:Nat)(h:i<ss.length):(nearY ss).getD i (0,0)=((ss.getD i (0,0)).1,1):=by
 simp [nearY,yr,List.getD_eq_getElem?_getD,h]
theorem near_len (ss:List (Int×Int)):(nearY ss).length=ss.length:=by simp [nearY]
theorem loop9_1 (zs:List Int)(w:Int)(ws:List Int)(ss:List (Int×Int))(hl:ss.length≤8)(hne:ss≠[])(i:Nat)(hok:i≤ss.length)(env:Env)(st:St)
  (hg:gcAV true 2 1 (canon env [10,98,99,100]) st=([(10,plAV ss),(98,srAV (nearY ss)),(99,I ss.length),(100,I i)],⟨[zs.map B8,[I w,sl 1 true (ws.map I)]],plT ss⟩)):
  ∃x_1 en s,lim (headed pure (run L) true [10,98,99,100] lp9_1 2 1) env st=some (x_1,en,s)∧(x_1=.exit 2):=by
 refine loop_wp (α:=Nat) (fun i=>ss.length-i) (fun i=>i≤ss.length) (fun i=>([(10,plAV ss),(98,srAV (nearY ss)),(99,I ss.length),(100,I i)],⟨[zs.map B8,[I w,sl 1 true (ws.map I)]],plT ss⟩)) (fun i x_1 en s=>x_1=.exit 2) (fun i hok=> ?_) i hok env st hg
 have hr1:=ren1_pl1 ss hne
 have htk:=take_plT ss
 by_cases h:i<ss.length
 ·have hs:=succ64 i (by omega)
  have hlt:((i:Int)<(ss.length:Int))=True:=eq_true (by omega)
  have hx:=index_prs true (nearY ss) i (by rw [near_len];exact h)
  have hx2:=index_pl ss i h
  rw [near_get ss i h] at hx
  generalize ss.getD i (0,0)=p at*
  simp only [go_sem,reduceIte,Nat.reduceEqDiff,Nat.reduceAdd,Nat.reduceSub,Nat.reduceLeDiff,Nat.reduceLT,reduceCtorEq,Int.reduceLT,Int.reduceLE,Int.reduceEq,Int.reduceBEq,Int.reduceSub,Int.reduceAdd,Int.reduceMul,Int.reduceNeg,Int.reduceToNat,Nat.reduceMul,Nat.reduceBEq,index_rsl_if,setm,make_ints,condK_dec,wantK_dec,not_dec,and_dec,or_dec,seqK_ite,seqK_none,blockK_ite,blockK_none,opsK_ite,opsK_none,stepK_ite,stepK_none,bodyK_ite,bodyK_none,resK_ite,resK_none,leaveK_ite,leaveK_none,only_ite,only_none,bind_ite,gives_some,gives_none,gives_ite,then_normal,then_ret,then_exit,then_none,then_ite,Option.bind_none,Bool.not_eq_true',decide_eq_false_iff_not,Bool.and_eq_true,Bool.or_eq_true,Option.some.injEq,Int.not_lt,Int.not_le,lp9_1,hlt,hx,hx2,hs]
  refine ⟨(i+1),by simp only [go_sem,reduceIte,Nat.reduceEqDiff,Nat.reduceAdd,Nat.reduceSub,Nat.reduceLeDiff,Nat.reduceLT,reduceCtorEq,Int.reduceLT,Int.reduceLE,Int.reduceEq,Int.reduceBEq,Int.reduceSub,Int.reduceAdd,Int.reduceMul,Int.reduceNeg,Int.reduceToNat,Nat.reduceMul,Nat.reduceBEq,ren1_locm,loc_tips,locT_eq,hr1,htk,okRefsB,renCellsB]<;>rfl,?_,?_,fun x en s hq=> ?_⟩
  all_goals first|exact hq|omega
 ·have hlt:((i:Int)<(ss.length:Int))=False:=eq_false (by omega)
  simp only [go_sem,reduceIte,Nat.reduceEqDiff,Nat.reduceAdd,Nat.reduceSub,Nat.reduceLeDiff,Nat.reduceLT,reduceCtorEq,Int.reduceLT,Int.reduceLE,Int.reduceEq,Int.reduceBEq,Int.reduceSub,Int.reduceAdd,Int.reduceMul,Int.reduceNeg,Int.reduceToNat,Nat.reduceMul,Nat.reduceBEq,index_rsl_if,setm,make_ints,condK_dec,wantK_dec,not_dec,and_dec,or_dec,seqK_ite,seqK_none,blockK_ite,blockK_none,opsK_ite,opsK_none,stepK_ite,stepK_none,bodyK_ite,bodyK_none,resK_ite,resK_none,leaveK_ite,leaveK_none,only_ite,only_none,bind_ite,gives_some,gives_none,gives_ite,then_normal,then_ret,then_exit,then_none,then_ite,Option.bind_none,Bool.not_eq_true',decide_eq_false_iff_not,Bool.and_eq_true,Bool.or_eq_true,Option.some.injEq,Int.not_lt,Int.not_le,lp9_1,hlt]
theorem years_src {w:Int} {ws:List Int} (hT:TextOk w ws)(h8:ws.length≤8):SrcOk (srcTo ((List.range ws.length).map (startZ (lsum ws) w ws.length)) ws.length):=by
 have hS:=sums_ok hT
 have hg: ∀i,i<ws.length→((List.range ws.length).map (startZ (lsum ws) w ws.length)).getD i 0=startZ (lsum ws) w ws.length i:=fun i hi=>by
  simp [List.getD_eq_getElem?_getD,hi]
 refine ⟨by rw [srcTo_len];exact hT.n1,by rw [srcTo_len];exact h8,fun p hp=> ?_,fun i hi=> ?_⟩
 ·obtain ⟨i,hi,rfl⟩:=List.mem_map.1 hp
  have hi':=List.mem_range.1 hi
  have:=start_range hS i hi'
  simp only
  rw [hg i hi']
  omega
 ·rw [srcTo_len] at hi
  rw [srcTo_get _ _ _ (by omega),srcTo_get _ _ _ hi]
  simp only
  rw [hg i (by omega),hg (i+1) hi]
  exact start_mono hS i hi
theorem setW_ok {w:Int} (hw:1≤w∧w≤40) {zs:List Int} (hz: ∀x∈zs,Byte x) {k:Nat} (hk:1≤k∧k≤8)(hzl:zs.length=8):TextOk w (setW w zs k):=by
 refine ⟨hw.1,hw.2,?_,?_,fun x hx=> ?_⟩
 ·simp [setW];omega
 ·simp [setW];omega
 ·obtain ⟨y,hy,rfl⟩:=List.mem_map.1 hx
  have:=mod_range y w (by omega)
  omega
theorem c9 (a k:Int)(ha:Byte a)(hk:Byte k)(zs:List Int)(hzl:zs.length=8)(hz: ∀x∈zs,Byte x)(st:St):run L 9 [B8 a,B8 k,.agg (zs.map B8)] st=some (B true,st):=by
 rw [run_pure (fn:=ir9) rfl rfl]
 unfold Byte at ha hk
 have hm:=mod_range a 20 (by omega)
 have hm8:=mod_range k 8 (by omega)
 have hw1:=wrap64 a (by omega) (by omega)
 have h31:=fun st=>c31 a 20 ha (by omega) k hk zs hzl hz st
 have hset:(setW (1+a % 20) zs (1+k % 8).toNat).length≤8:=by simp [setW];omega
 have hT0:TextOk (1+a % 20) (setW (1+a % 20) zs (1+k % 8).toNat):=setW_ok (by omega) hz (by omega) hzl
 generalize 1+a % 20=w at*
 generalize setW w zs (1+k % 8).toNat=ws at*
 have hS:=sums_ok hT0
 have h46:=fun st=>c46 true w ws hT0 st
 have hsrc:=years_src hT0 hset
 have hSl:((List.range ws.length).map (startZ (lsum ws) w ws.length)).length=ws.length:=by simp
 have hrng: ∀i,i<((List.range ws.length).map (startZ (lsum ws) w ws.length)).length→0≤((List.range ws.length).map (startZ (lsum ws) w ws.length)).getD i 0∧((List.range ws.length).map (startZ (lsum ws) w ws.length)).getD i 0≤i:=fun i hi=>by
  rw [hSl] at hi
  have:((List.range ws.length).map (startZ (lsum ws) w ws.length)).getD i 0=startZ (lsum ws) w ws.length i:=by simp [List.getD_eq_getElem?_getD,hi]
  rw [this]
  exact start_range hS i hi
 generalize (List.range ws.length).map (startZ (lsum ws) w ws.length)=S at*
 have htk:(zs.map B8).take 8=zs.map B8:=List.take_of_length_le (by rw [List.length_map];omega)
 have hsl:=srcTo_len S ws.length
 have hs0:srcTo S 0=[]:=rfl
 simp only [ir9,go_sem,reduceIte,Nat.reduceEqDiff,Nat.reduceAdd,Nat.reduceSub,Nat.reduceLeDiff,Nat.reduceLT,reduceCtorEq,Int.reduceLT,Int.reduceLE,Int.reduceEq,Int.reduceBEq,Int.reduceSub,Int.reduceAdd,Int.reduceMul,Int.reduceNeg,Int.reduceToNat,Nat.reduceMul,Nat.reduceBEq,hw1,h31,htk,h46,List.length_map,hzl,okRefsB,storableB,pubsB,hSl]
 generalize hg:lim (headed pure (run L) true _ lp9_0 _ _) _ _=o
 obtain ⟨x,en,s,rfl,h2⟩: ∃x en s,o=some (x,en,s)∧_:=by rw [←hg];exact loop9_0 zs w ws S hrng (by omega) 0 (Nat.zero_le _) _ _ (by simp only [go_sem,reduceIte,Nat.reduceEqDiff,Nat.reduceAdd,Nat.reduceSub,Nat.reduceLeDiff,Nat.reduceLT,reduceCtorEq,Int.reduceLT,Int.reduceLE,Int.reduceEq,Int.reduceBEq,Int.reduceSub,Int.reduceAdd,Int.reduceMul,Int.reduceNeg,Int.reduceToNat,Nat.reduceMul,Nat.reduceBEq,hs0,hSl,←pl_start,plT_nil,okRefsB,renCellsB,Int.natCast_zero]<;>rfl)
 clear hg
 rw [hSl] at h2
 obtain ⟨rfl,g10,rfl⟩:=h2
 generalize srcTo S ws.length=ss at*
 have h47: ∀st,run L 47 [plAV ss] st=some (.tup [I 0,I 13],st):=fun st=>(run_args (fn:=ir47) rfl rfl st (by simp only [pubs,pub_pl,pub_sl])).trans (c47 ss hsrc st)
 have h48: ∀st,run L 48 [plAV ss] st=some (.tup [srAV (nearY ss),I 0],st):=fun st=>(run_args (fn:=ir48) rfl rfl st (by simp only [pubs,pub_pl,pub_sl])).trans (c48 ss hsrc st)
 have h49: ∀st,run L 49 [plAV ss] st=some (.tup [.v (.slice none 0 0),I 0],st):=fun st=>(run_args (fn:=ir49) rfl rfl st (by simp only [pubs,pub_pl,pub_sl])).trans (c49 ss hsrc st)
 have hne:ss≠[]:=by
  intro e;have:=hsrc.n1;rw [e] at this;simp at this
 have hpl:(plT ss).length=1:=by
  unfold plT locT;rw [if_neg (by simpa using hne)];rfl
 have hnl:=near_len ss
 have hr1:=ren1_pl1 ss hne
 have htk2:=take_plT ss
 simp only [go_sem,reduceIte,Nat.reduceEqDiff,Nat.reduceAdd,Nat.reduceSub,Nat.reduceLeDiff,Nat.reduceLT,reduceCtorEq,Int.reduceLT,Int.reduceLE,Int.reduceEq,Int.reduceBEq,Int.reduceSub,Int.reduceAdd,Int.reduceMul,Int.reduceNeg,Int.reduceToNat,Nat.reduceMul,Nat.reduceBEq,g10,h47,h48,h49,hnl,List.length_map,hpl]
 generalize hg:lim (headed pure (run L) true _ lp9_1 _ _) _ _=o
 obtain ⟨x,en,s,rfl,h2⟩: ∃x en s,o=some (x,en,s)∧_:=by rw [←hg];exact loop9_1 zs w ws ss (by omega) hne 0 (Nat.zero_le _) _ _ (by simp only [go_sem,reduceIte,Nat.reduceEqDiff,Nat.reduceAdd,Nat.reduceSub,Nat.reduceLeDiff,Nat.reduceLT,reduceCtorEq,Int.reduceLT,Int.reduceLE,Int.reduceEq,Int.reduceBEq,Int.reduceSub,Int.reduceAdd,Int.reduceMul,Int.reduceNeg,Int.reduceToNat,Nat.reduceMul,Nat.reduceBEq,g10,hr1,htk2,hpl,okRefsB,renCellsB,Int.natCast_zero]<;>rfl)
 clear hg
 subst h2
 simp only [go_sem,reduceIte,Nat.reduceEqDiff,Nat.reduceAdd,Nat.reduceSub,Nat.reduceLeDiff,Nat.reduceLT,reduceCtorEq,Int.reduceLT,Int.reduceLE,Int.reduceEq,Int.reduceBEq,Int.reduceSub,Int.reduceAdd,Int.reduceMul,Int.reduceNeg,Int.reduceToNat,Nat.reduceMul,Nat.reduceBEq,c35]
end Go.Proofs.YtdnjagnechibhaaGreatDoor.Vm
