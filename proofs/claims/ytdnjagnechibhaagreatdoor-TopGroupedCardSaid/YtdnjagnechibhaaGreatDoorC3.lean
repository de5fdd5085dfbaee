/- What is proved: what each function of this program computes, as equations on the evaluator. No condition. -/
import Derived.Test.YtdnjagnechibhaaGreatDoorC2
import Derived.KernelRfl
import Derived.Test.YtdnjagnechibhaaGreatDoorT0g
import Derived.WalkKit
import Derived.ProofKit
import Derived.OpenShut
set_option linter.all false
namespace Go.Proofs.YtdnjagnechibhaaGreatDoor.Vm
open Go Go.Ev
set_option maxRecDepth 100001
def tipX (z:Nat) (o:Option Nat) (xs:List AV):AV:=match o with|none=> .v (.slice none 0 0)|some i=> .lst (.own i xs.length) z xs
def tipOk (o:Option Nat) (n:Nat) (T:List Nat):Prop:=match o with|none=>n=0|some i=>T[i]? =some n∧0<n
def apI (o:Option Nat) (T:List Nat):Option Nat:=match o with|none=>some T.length|some i=>some i
def apT (o:Option Nat) (T:List Nat) (n:Nat):List Nat:=match o with|none=>T++ [n]|some i=>T.set i n
def reI (hi:Nat) (acc:List (Nat×Nat)) (o:Option Nat):Option Nat:=match o with|none=>none|some i=>if i<hi then some i else some (hi+acc.length)
def reA (hi:Nat) (acc:List (Nat×Nat)) (o:Option Nat) (n:Nat):List (Nat×Nat):=match o with|none=>acc|some i=>if i<hi then acc else acc++ [(i,n)]
theorem okRef_tip (n z:Nat)(o:Option Nat)(xs:List AV):okRef n (tipX z o xs)=true:=by cases o<;>rfl
theorem storable_tip (z:Nat)(o:Option Nat)(xs:List AV):storable (tipX z o xs)=true:=by cases o<;>rfl
theorem shaped_tip (z:Nat)(o:Option Nat)(xs:List AV):(tipX z o xs).shaped=true:=by cases o<;>rfl
theorem cells_tip (z:Nat)(o:Option Nat)(xs:List AV):(tipX z o xs).cells=[tipX z o xs]:=by cases o<;>rfl
theorem isAgg_tip (z:Nat)(o:Option Nat)(xs:List AV):Go.Ev.isAgg (tipX z o xs)=false:=by cases o<;>rfl
theorem pub_tip (z:Nat)(o:Option Nat)(xs:List AV) {T:List Nat} (h:tipOk o xs.length T):pub (tipX z o xs)=sl z true xs:=by
 cases o with
 |none=>
  have:xs=[]:=List.eq_nil_of_length_eq_zero h
  subst this;rfl
 |some i=>
  have:xs≠[]:=by rintro rfl;exact absurd h.2 (by simp)
  rw [sl_ne this];rfl
theorem append_tip (z:Nat)(o:Option Nat)(xs:List AV)(y:AV)(S:List (List AV))(T:List Nat)(h:tipOk o xs.length T)(hm:xs.length<1000000):
  appendAV z (tipX z o xs) [y] ⟨S,T⟩=some (tipX z (apI o T) (xs++ [y]),⟨S,apT o T (xs.length+1)⟩):=by
 have hg:xs.length+1≤maxGrow:=by unfold maxGrow;omega
 cases o with
 |none=>
  have:xs=[]:=List.eq_nil_of_length_eq_zero h
  subst this
  have:1≤maxGrow:=by unfold maxGrow;omega
  simp [tipX,appendAV,apI,apT,this]
 |some i=>simp [tipX,appendAV,apI,apT,hg,h.1]
theorem append_tipm {β:Type} (z:Nat)(f:β→AV)(o:Option Nat)(xs:List β)(y:β)(S:List (List AV))(T:List Nat)(h:tipOk o xs.length T)(hm:xs.length<1000000):
  appendAV z (tipX z o (xs.map f)) [f y] ⟨S,T⟩=some (tipX z (apI o T) ((xs++ [y]).map f),⟨S,apT o T (xs.length+1)⟩):=by
 rw [append_tip z o (xs.map f) (f y) S T (by simpa using h) (by simpa using hm)]
 simp
theorem apOk (o:Option Nat)(n:Nat)(T:List Nat)(m:Nat)(h:tipOk o n T)(hm:0<m):tipOk (apI o T) m (apT o T m):=by
 cases o with
 |none=>simp [apI,apT,tipOk,hm]
 |some i=>
  have:i<T.length:=(List.getElem?_eq_some_iff.1 h.1).1
  simp [apI,apT,tipOk,this,hm]
def apart (o p:Option Nat):Prop:=∀i,o=some i→p≠some i
theorem apart_symm {o p:Option Nat} (h:apart o p):apart p o:=fun i hp ho=>h i ho hp
theorem apOk_other {o p:Option Nat} {n m k:Nat} {T:List Nat} (h:tipOk p k T)(ho:tipOk o n T)(hd:apart o p):tipOk p k (apT o T m)∧apart (apI o T) p:=by
 cases p with
 |none=>exact ⟨h,fun i _=>by simp⟩
 |some j=>
  have hj:j<T.length:=(List.getElem?_eq_some_iff.1 h.1).1
  cases o with
  |none=>
   refine ⟨⟨?_,h.2⟩,fun i hi hp=> ?_⟩
   ·simp only [apT];rw [List.getElem?_append_left hj];exact h.1
   ·simp only [apI,Option.some.injEq] at hi hp;omega
  |some i=>
   have hij:i≠j:=fun e=>hd i rfl (by rw [e])
   refine ⟨⟨?_,h.2⟩,fun x hx hp=> ?_⟩
   ·simp only [apT];rw [List.getElem?_set_ne hij];exact h.1
   ·simp only [apI,Option.some.injEq] at hx hp;omega
theorem ren1_tip (hi z:Nat)(T:List Nat)(acc:List (Nat×Nat))(o:Option Nat)(xs:List AV)(h:tipOk o xs.length T)(hf: ∀i,o=some i→hi≤i→∀p∈acc,p.1≠i):
  ren1 hi T acc (tipX z o xs)=(tipX z (reI hi acc o) xs,reA hi acc o xs.length):=by
 cases o with
 |none=>rfl
 |some i=>
  simp only [tipX,ren1,reI,reA]
  by_cases q:i<hi
  ·simp [q]
  ·rw [if_neg q,if_neg q,if_neg q,if_pos]
   refine ⟨h.1,?_⟩
   rw [List.all_eq_true]
   intro p hp
   simpa using hf i rfl (by omega) p hp
theorem ren1_tipm {β:Type} (hi z:Nat)(T:List Nat)(acc:List (Nat×Nat))(f:β→AV)(o:Option Nat)(xs:List β)(h:tipOk o xs.length T)(hf: ∀i,o=some i→hi≤i→∀p∈acc,p.1≠i):
  ren1 hi T acc (tipX z o (xs.map f))=(tipX z (reI hi acc o) (xs.map f),reA hi acc o xs.length):=by
 rw [ren1_tip hi z T acc o (xs.map f) (by simpa using h) hf,lm_]
theorem reOk (hi:Nat)(T:List Nat)(acc acc':List (Nat×Nat))(o:Option Nat)(n:Nat)(h:tipOk o n T)(hl:hi≤T.length)(hp:reA hi acc o n<+:acc'):tipOk (reI hi acc o) n (T.take hi++acc'.map fun x=>x.2):=by
 cases o with
 |none=>exact h
 |some i=>
  simp only [reI]
  have htl:(T.take hi).length=hi:=by rw [List.length_take];omega
  by_cases q:i<hi
  ·rw [if_pos q]
   refine ⟨?_,h.2⟩
   rw [List.getElem?_append_left (by omega),List.getElem?_take_of_lt q]
   exact h.1
  ·rw [if_neg q]
   refine ⟨?_,h.2⟩
   rw [List.getElem?_append_right (by omega),htl,Nat.add_sub_cancel_left]
   simp only [reA,if_neg q] at hp
   obtain ⟨r,hr⟩:=hp
   rw [←hr]
   simp
theorem reA_pre (hi:Nat)(acc:List (Nat×Nat))(o:Option Nat)(n:Nat):acc<+:reA hi acc o n:=by
 cases o with
 |none=>exact List.prefix_refl _
 |some i=>
  simp only [reA]
  split
  ·exact List.prefix_refl _
  ·exact List.prefix_append _ _
theorem reA_mem {hi:Nat} {acc:List (Nat×Nat)} {o:Option Nat} {n:Nat} {p:Nat×Nat} (h:p∈reA hi acc o n):p∈acc∨o=some p.1:=by
 cases o with
 |none=>exact .inl h
 |some i=>
  simp only [reA] at h
  split at h
  ·exact .inl h
  ·rw [List.mem_append,List.mem_singleton] at h
   rcases h with h|rfl
   ·exact .inl h
   ·exact .inr rfl
theorem re_apart {hi:Nat} {acc acc':List (Nat×Nat)} {o p:Option Nat} {n:Nat} (hd:apart o p)(hp:reA hi acc o n<+:acc'):apart (reI hi acc o) (reI hi acc' p):=by
 intro i h1 h2
 cases o with
 |none=>simp [reI] at h1
 |some a=>
  cases p with
  |none=>simp [reI] at h2
  |some b=>
   simp only [reI] at h1 h2
   have hab:a≠b:=fun e=>hd a rfl (by rw [e])
   by_cases qa:a<hi
   ·rw [if_pos qa] at h1
    by_cases qb:b<hi
    ·rw [if_pos qb] at h2
     rw [Option.some.injEq] at h1 h2;omega
    ·rw [if_neg qb] at h2
     rw [Option.some.injEq] at h1 h2;omega
   ·rw [if_neg qa] at h1
    simp only [reA,if_neg qa] at hp
    have hl:=hp.length_le
    rw [List.length_append,List.length_singleton] at hl
    by_cases qb:b<hi
    ·rw [if_pos qb] at h2
     rw [Option.some.injEq] at h1 h2;omega
    ·rw [if_neg qb] at h2
     rw [Option.some.injEq] at h1 h2;omega
theorem reI_old {hi:Nat} {o:Option Nat} (h: ∀i,o=some i→i<hi)(acc:List (Nat×Nat)):reI hi acc o=o:=by
 cases o with
 |none=>rfl
 |some i=>simp [reI,h i rfl]
theorem reA_old {hi:Nat} {o:Option Nat} (h: ∀i,o=some i→i<hi)(acc:List (Nat×Nat))(n:Nat):reA hi acc o n=acc:=by
 cases o with
 |none=>rfl
 |some i=>simp [reA,h i rfl]
theorem two_next {hi:Nat} {T:List Nat} {o6 o9 oP:Option Nat} {n6 n9 nP:Nat} (h6: ∀i,o6=some i→i<hi)(hl:hi≤T.length)(k2:tipOk o6 n6 T)(k3:tipOk o9 n9 T)(k4:tipOk oP nP T)(k5:apart o6 o9)(k6:apart o6 oP)(k7:apart o9 oP):
  (∀i,oP=some i→hi≤i→∀p∈reA hi [] o9 n9,p.1≠i)∧hi≤(T.take hi++(reA hi (reA hi [] o9 n9) oP nP).map fun x=>x.2).length∧tipOk o6 n6 (T.take hi++(reA hi (reA hi [] o9 n9) oP nP).map fun x=>x.2)∧tipOk (reI hi [] o9) n9 (T.take hi++(reA hi (reA hi [] o9 n9) oP nP).map fun x=>x.2)∧tipOk (reI hi (reA hi [] o9 n9) oP) nP (T.take hi++(reA hi (reA hi [] o9 n9) oP nP).map fun x=>x.2)∧
  apart o6 (reI hi [] o9)∧apart o6 (reI hi (reA hi [] o9 n9) oP)∧apart (reI hi [] o9) (reI hi (reA hi [] o9 n9) oP):=by
 have e6:=reI_old h6 []
 have e6a:=reA_old h6 [] n6
 refine ⟨fun i hi2 _ p hp e=> ?_,?_,?_,?_,?_,?_,?_,?_⟩
 ·rcases reA_mem hp with h|h
  ·simp at h
  ·exact k7 p.1 h (by rw [hi2,e])
 ·rw [List.length_append,List.length_take];omega
 ·have:=reOk hi T [] (reA hi (reA hi [] o9 n9) oP nP) o6 n6 k2 hl (by rw [e6a];exact List.nil_prefix)
  rwa [e6] at this
 ·exact reOk hi T [] _ o9 n9 k3 hl (reA_pre _ _ _ _)
 ·exact reOk hi T _ _ oP nP k4 hl (List.prefix_refl _)
 ·have:=re_apart (acc:=[]) (acc':=[]) (n:=n6) k5 (by rw [e6a];exact List.prefix_refl _)
  rwa [e6] at this
 ·have:=re_apart (acc:=[]) (acc':=reA hi [] o9 n9) (n:=n6) k6 (by rw [e6a];exact List.nil_prefix)
  rwa [e6] at this
 ·exact re_apart k7 (List.prefix_refl _)
theorem two_next' {hi:Nat} {T:List Nat} {o9 oP:Option Nat} {n9 nP:Nat} (hl:hi≤T.length)(k3:tipOk o9 n9 T)(k4:tipOk oP nP T)(k7:apart o9 oP):
  (∀i,oP=some i→hi≤i→∀p∈reA hi [] o9 n9,p.1≠i)∧hi≤(T.take hi++(reA hi (reA hi [] o9 n9) oP nP).map fun x=>x.2).length∧tipOk (reI hi [] o9) n9 (T.take hi++(reA hi (reA hi [] o9 n9) oP nP).map fun x=>x.2)∧tipOk (reI hi (reA hi [] o9 n9) oP) nP (T.take hi++(reA hi (reA hi [] o9 n9) oP nP).map fun x=>x.2)∧
  apart (reI hi [] o9) (reI hi (reA hi [] o9 n9) oP):=by
 obtain ⟨h1,h2,_,h3,h4,_,_,h5⟩:=two_next (o6:=none) (n6:=0) (fun i h=>by simp at h) hl rfl k3 k4 (fun i h=>by simp at h) (fun i h=>by simp at h) k7
 exact ⟨h1,h2,h3,h4,h5⟩
theorem fin_tip (st:St)(z:Nat)(o:Option Nat)(xs:List AV) {T:List Nat} (h:tipOk o xs.length T):fin st (tipX z o xs)=sl z true xs:=by
 cases o with
 |none=>
  have:xs=[]:=List.eq_nil_of_length_eq_zero h
  subst this;simp [tipX,fin];rfl
 |some i=>
  have:xs≠[]:=by rintro rfl;exact absurd h.2 (by simp)
  rw [sl_ne this];simp [tipX,fin]
theorem len_tip (z:Nat)(o:Option Nat)(xs:List AV) {T:List Nat} (h:tipOk o xs.length T):lenAV (tipX z o xs)=some (I xs.length):=by
 cases o with
 |none=>
  have:xs=[]:=List.eq_nil_of_length_eq_zero h
  subst this;rfl
 |some i=>rfl
end Go.Proofs.YtdnjagnechibhaaGreatDoor.Vm
namespace Go.Proofs.YtdnjagnechibhaaGreatDoor.Vm
open Go Go.Ev
set_option maxRecDepth 100000
set_option maxHeartbeats 4000000
attribute [local go_sem] m_ x_ l_ k_ o_ t_ a_ s_ q_ b_ c_ u_ g_ cells_any storable_any ren1_any shaped_ptr cells_ptr storable_ptr ren1_ptr shaped_eptr cells_eptr storable_eptr ren1_eptr shaped_rsl cells_rsl storable_rsl ren1_rsl shaped_int cells_int storable_int ren1_int shaped_bool cells_bool storable_bool ren1_bool shaped_nils cells_nils storable_nils ren1_nils shaped_lst cells_lst storable_lst shaped_fn cells_fn storable_fn ren1_fn shaped_ifc cells_ifc storable_ifc ren1_ifc shaped_agg cells_agg storable_agg ren1_agg shaped_tup cells_tup storable_tup ren1_tup shaped_nif cells_nif storable_nif ren1_nif ren1_lany ren1_lfull ren1_lown len_lst len_rsl len_nil load_ptr load_eptr isRsl_lst isRsl_nil isRsl_rsl elems_nil elems_lst elems_sl isRsl_sl body_eq bodyK_normal bodyK_ret resK_some leaveK_some only_some code_skip code_exit code_ret code_ops code_seq code_cond code_block seqK_normal seqK_ret seqK_exit condK_true condK_false blockK_normal blockK_ret blockK_exit opsK_some ops_nil ops_cons wantK_true wantK_false stepK_some pubs pub pub_sl params okRef_loc storable_loc shaped_loc cells_loc isRsl_loc elems_loc len_loc untips untip untip_sl wantedAV setElems withO isAgg_v isAgg_agg isAgg_lst isAgg_ptr isAgg_fn isAgg_ifc isAgg_rsl isAgg_sl isAgg_loc List.replicate_succ List.replicate_zero opAV valAV aval avals ofVal Env.get setD canon gcAV renAll renEnv renStore renCells ren1_sl cutSt okEnv okStore okRefs okRef okRef_sl bin_int bin_bool bin_lst bin_rsl bin_nil bin_agg cellsEq cellEq isShift intOp boolOp min_int max_int beq_int bne resAV tupAV leave_eq fin_sl fin_loc fins fin_v fin_lst fin_agg fin_tup fin_fn storeAV readCells putCells cells_sl shaped_sl storable_sl fieldAddrAV len_sl goI List.getElem?_cons_zero List.getElem?_cons_succ List.getElem?_nil Option.bind_some Option.map_some List.length_cons List.length_nil List.all_cons List.all_nil Bool.and_true Bool.true_and Bool.and_false Bool.false_and and_true true_and and_false false_and Bool.false_eq_true List.set_cons_zero List.set_cons_succ List.append_nil List.nil_append List.cons_append List.take_zero List.take_succ_cons List.take_nil List.drop_zero List.drop_succ_cons List.map_cons List.map_nil decide_true decide_false beq_self_eq_true Bool.not_true Bool.not_false or_true true_or or_false false_or Nat.zero_add Nat.add_zero Nat.le_refl Nat.lt_irrefl decide_eq_true_eq eq_self_iff_true not_true_eq_false not_false_eq_true List.getD_cons_zero code_loop Nat.zero_le Nat.not_lt_zero Bool.true_beq Bool.false_beq beq_true beq_false ge_iff_le gt_iff_lt keepR keepT ownTop Lpure pus Option.map_none assert_ifc assert_nil idxA_ptr idxA_eptr idxV_agg Int.cast_ofNat_Int Nat.mul_one Nat.zero_mul Int.toNat_natCast Int.toNat_zero setParts withO2 hasKey eqnil_sl nenil_sl eqnil_loc nenil_loc map_nil_iff elemsM_nil elemsM_lst elemsM_sl elemsM_loc elemsM_rsl elemsM_agg setElemsR pubR_v pubR_rsl pubE_v pubE_rsl okRefs_ints renCells_ints index_rsl_if setm make_ints condK_dec wantK_dec not_dec and_dec or_dec seqK_ite seqK_none blockK_ite blockK_none opsK_ite opsK_none stepK_ite stepK_none bodyK_ite bodyK_none resK_ite resK_none leaveK_ite leaveK_none only_ite only_none bind_ite gives_some gives_none gives_ite then_normal then_ret then_exit then_none then_ite Option.bind_none Bool.not_eq_true' decide_eq_false_iff_not Bool.and_eq_true Bool.or_eq_true Option.some.injEq Int.not_lt Int.not_le
attribute [local go_sem_proc] reduceIte Nat.reduceEqDiff Nat.reduceAdd Nat.reduceSub Nat.reduceLeDiff Nat.reduceLT reduceCtorEq Int.reduceLT Int.reduceLE Int.reduceEq Int.reduceBEq Int.reduceSub Int.reduceAdd Int.reduceMul Int.reduceNeg Int.reduceToNat Nat.reduceMul Nat.reduceBEq
attribute [local go_sem] m_ x_ l_ k_ o_ t_ a_ s_ q_ b_ c_ u_ g_ okRef_tip storable_tip shaped_tip cells_tip isAgg_tip
theorem indexOf_at (a:Int): ∀(l:List Int) (i:Nat),a∈l→∃j,j<l.length∧indexOf a l i=((i+j:Nat):Int)∧l[j]? =some a
 | [],i,h=>by simp at h
 |b::r,i,h=>by
  simp only [indexOf]
  by_cases q:a=b
  ·rw [if_pos q];exact ⟨0,by simp,by simp,by simp [q]⟩
  ·rw [if_neg q]
   obtain ⟨j,h1,h2,h3⟩:=indexOf_at a r (i+1) (by rcases List.mem_cons.1 h with h|h;exact absurd h q;exact h)
   exact ⟨j+1,by simp;omega,by rw [h2];congr 1;omega,by simpa using h3⟩
theorem indexOf_no (a:Int): ∀(l:List Int) (i:Nat),a ∉ l→indexOf a l i= -1
 | [],i,_=>rfl
 |b::r,i,hn=>by
  simp only [List.mem_cons,not_or] at hn
  simp only [indexOf];rw [if_neg hn.1];exact indexOf_no a r _ hn.2
def tidF:List Int→List Int→List Nat
 | [],_=> []
 |s::r,met=>if s∈met then (indexOf s met 0).toNat::tidF r met else met.length::tidF r (met++ [s])
theorem tidF_len: ∀(os met:List Int),(tidF os met).length=os.length
 | [],_=>rfl
 |s::r,met=>by
  simp only [tidF]
  split
  ·simp [tidF_len r met]
  ·simp [tidF_len r (met++ [s])]
theorem tidF_rgs: ∀(os met:List Int),rgs (tidF os met) met.length
 | [],_=>trivial
 |s::r,met=>by
  simp only [tidF]
  split
  ·next h=>
   obtain ⟨j,h1,h2,_⟩:=indexOf_at s met 0 h
   have e:(indexOf s met 0).toNat=j:=by omega
   rw [e]
   refine ⟨by omega,?_⟩
   rw [if_neg (by omega)]
   exact tidF_rgs r met
  ·refine ⟨Nat.le_refl _,?_⟩
   rw [if_pos rfl]
   have:=tidF_rgs r (met++ [s])
   simpa using this
theorem loop95 (nl:Bool)(os:List Int)(n:Nat)(hl:os.length=n)(hn:n≤1000)(i:Nat)(met:List Int)(out:List Nat)(o3:Option Nat)(o4:Option Nat)(T:List Nat)(hok:i≤n∧out.length=i∧met.length≤i∧tidF os []=out++tidF (os.drop i) met∧tipOk o3 met.length T∧tipOk o4 out.length T∧apart o3 o4)(env:Env)(st:St)
  (hg:gcAV true 0 0 (canon env [3,4,8,9,10]) st=([(3,tipX 1 o3 (met.map I)),(4,tipX 1 o4 (out.map J)),(8,sl 1 nl (os.map I)),(9,I n),(10,I i)],⟨[],T⟩)):
  ∃x_1 en s,lim (headed pure (run L) true [3,4,8,9,10] lp95_0 0 0) env st=some (x_1,en,s)∧(x_1=.exit 0∧∃o T',en.get 4=tipX 1 o ((tidF os []).map J)∧tipOk o (tidF os []).length T'∧s=⟨[],T'⟩):=by
 refine loop_wp (α:=Nat×List Int×List Nat×Option Nat×Option Nat×List Nat) (fun ⟨i,met,out,o3,o4,T⟩=>n-i) (fun ⟨i,met,out,o3,o4,T⟩=>i≤n∧out.length=i∧met.length≤i∧tidF os []=out++tidF (os.drop i) met∧tipOk o3 met.length T∧tipOk o4 out.length T∧apart o3 o4) (fun ⟨i,met,out,o3,o4,T⟩=>([(3,tipX 1 o3 (met.map I)),(4,tipX 1 o4 (out.map J)),(8,sl 1 nl (os.map I)),(9,I n),(10,I i)],⟨[],T⟩)) (fun ⟨i,met,out,o3,o4,T⟩ x_1 en s=>x_1=.exit 0∧∃o T',en.get 4=tipX 1 o ((tidF os []).map J)∧tipOk o (tidF os []).length T'∧s=⟨[],T'⟩) (fun ⟨i,met,out,o3,o4,T⟩ hok=> ?_) ⟨i,met,out,o3,o4,T⟩ hok env st hg
 simp only at hok
 obtain ⟨h1,h2,h3,h4,k3,k4,k5⟩:=hok
 dsimp only at h1 h2 h3 h4 k3 k4 k5⊢
 by_cases h:i<n
 ·have hs:=succ64 i (by omega)
  have hlt:((i:Int)<(n:Int))=True:=eT (by omega)
  have hx:=index_ints nl os i (by omega)
  have hd:os.drop i=os[i]'(by omega)::os.drop (i+1):=List.drop_eq_getElem_cons (by omega)
  rw [hd] at h4
  generalize os[i]'(by omega)=s at*
  have hlm:=len_tip 1 o3 (met.map I) (T:=T) (by simpa using k3)
  rw [lm_] at hlm
  have h69: ∀st,run L 69 [tipX 1 o3 (met.map I),I s] st=some (I (indexOf s met 0),st):=fun st=>(run_args (fn:=ir69) rfl rfl st (by rw [show pubs [tipX 1 o3 (met.map I),I s]=[pub (tipX 1 o3 (met.map I)),I s] from rfl,pub_tip 1 o3 (met.map I) (T:=T) (by simpa using k3),show pubs [sl 1 true (met.map I),I s]=[pub (sl 1 true (met.map I)),I s] from rfl,pub_sl])).trans (c69 true met (by omega) s st)
  have hi2:(out++ [i]).length=i+1:=by simp [h2]
  simp only [tidF] at h4
  by_cases q:s∈met
  ·rw [if_pos q] at h4
   obtain ⟨j,g1,g2,_⟩:=indexOf_at s met 0 q
   rw [Nat.zero_add] at g2
   rw [g2] at h69 h4
   rw [Int.toNat_natCast] at h4
   have hneg:((j:Int)<0)=False:=eF (by omega)
   have happ:=fun S=>append_tipm 1 J o4 out j S T k4 (by omega)
   have a4:=apOk o4 out.length T (out.length+1) k4 (by omega)
   obtain ⟨a3,a5⟩:=apOk_other (m:=out.length+1) k3 k4 (apart_symm k5)
   have hol:(out++ [j]).length=out.length+1:=by simp
   have hr3:=ren1_tipm 0 1 (apT o4 T (out.length+1)) [] I o3 met a3 (fun _ _ _ p hp=>by simp at hp)
   obtain ⟨z1,z2,z3,z4,z5⟩:=two_next' (hi:=0) (Nat.zero_le _) a3 a4 (apart_symm a5)
   have hr4:=ren1_tipm 0 1 (apT o4 T (out.length+1)) (reA 0 [] o3 met.length) J (apI o4 T) (out++ [j]) (by rw [hol];exact a4) z1
   rw [hol] at hr4
   simp only [go_sem,lp95_0,hlt,hs,hx,h69,hneg,happ]
   refine ⟨(i+1,met,out++ [j],reI 0 [] o3,reI 0 (reA 0 [] o3 met.length) (apI o4 T),List.take 0 (apT o4 T (out.length+1))++(reA 0 (reA 0 [] o3 met.length) (apI o4 T) (out.length+1)).map fun x=>x.2),by simp only [go_sem,ren1_locm,loc_tips,locT_eq,hr3,hr4]<;>rfl,?_,?_,fun x en s hq=> ?_⟩
   ·dsimp only
    exact ⟨by omega,by rw [hol,h2],by omega,by rw [h4];simp,z3,by rw [hol];exact z4,z5⟩
   ·dsimp only;omega
   ·exact hq
  ·rw [if_neg q] at h4
   have g2:=indexOf_no s met 0 q
   rw [g2] at h69
   have happ3:=fun S=>append_tipm 1 I o3 met s S T k3 (by omega)
   have a3:=apOk o3 met.length T (met.length+1) k3 (by omega)
   obtain ⟨a4,a5⟩:=apOk_other (m:=met.length+1) k4 k3 k5
   have happ4:=fun S=>append_tipm 1 J o4 out met.length S (apT o3 T (met.length+1)) a4 (by omega)
   have b4:=apOk o4 out.length (apT o3 T (met.length+1)) (out.length+1) a4 (by omega)
   obtain ⟨b3,b5⟩:=apOk_other (m:=out.length+1) a3 a4 (apart_symm a5)
   have hol:(out++ [met.length]).length=out.length+1:=by simp
   have hml:(met++ [s]).length=met.length+1:=by simp
   generalize hT2:apT o4 (apT o3 T (met.length+1)) (out.length+1)=T2 at*
   have hr3:=ren1_tipm 0 1 T2 [] I (apI o3 T) (met++ [s]) (by rw [hml];exact b3) (fun _ _ _ p hp=>by simp at hp)
   obtain ⟨z1,z2,z3,z4,z5⟩:=two_next' (hi:=0) (Nat.zero_le _) b3 b4 (apart_symm b5)
   have hr4:=ren1_tipm 0 1 T2 (reA 0 [] (apI o3 T) (met.length+1)) J (apI o4 (apT o3 T (met.length+1))) (out++ [met.length]) (by rw [hol];exact b4) z1
   rw [hol] at hr4
   rw [hml] at hr3
   simp only [go_sem,lp95_0,hlt,hs,hx,h69,hlm,happ3,happ4]
   refine ⟨(i+1,met++ [s],out++ [met.length],reI 0 [] (apI o3 T),reI 0 (reA 0 [] (apI o3 T) (met.length+1)) (apI o4 (apT o3 T (met.length+1))),List.take 0 T2++(reA 0 (reA 0 [] (apI o3 T) (met.length+1)) (apI o4 (apT o3 T (met.length+1))) (out.length+1)).map fun x=>x.2),by simp only [go_sem,ren1_locm,loc_tips,locT_eq,hT2,hr3,hr4]<;>rfl,?_,?_,fun x en s hq=> ?_⟩
   ·dsimp only
    exact ⟨by omega,by rw [hol,h2],by rw [hml];omega,by rw [h4];simp,by rw [hml];exact z3,by rw [hol];exact z4,z5⟩
   ·dsimp only;omega
   ·exact hq
 ·have hlt:((i:Int)<(n:Int))=False:=eF (by omega)
  obtain rfl:i=n:=by omega
  rw [List.drop_eq_nil_of_le (by omega),show tidF [] met=[] from rfl,List.append_nil] at h4
  simp only [go_sem,lp95_0,hlt]
  exact ⟨o4,T,by rw [h4],by rw [h4];exact k4,rfl⟩
theorem c95 (nl:Bool)(os:List Int)(hl:os.length≤1000)(st:St):run L 95 [sl 1 nl (os.map I)] st=some (sl 1 true ((tidF os []).map J),st):=by
 rw [run_pure (fn:=ir95) rfl rfl]
 simp only [ir95,go_sem,lm_]
 generalize hg:lim (headed pure (run L) true _ lp95_0 _ _) _ _=o
 obtain ⟨x,en,s,rfl,h2⟩: ∃x en s,o=some (x,en,s)∧_:=by rw [←hg];exact loop95 nl os os.length rfl hl 0 [] [] none none [] ⟨Nat.zero_le _,rfl,Nat.zero_le _,rfl,rfl,rfl,fun i h=>by simp at h⟩ _ _ (by simp only [go_sem,Int.natCast_zero]<;>rfl)
 clear hg
 obtain ⟨rfl,o,T',g4,ho,rfl⟩:=h2
 have hf:=fin_tip ⟨[],T'⟩ 1 o ((tidF os []).map J) (T:=T') (by simpa using ho)
 simp only [go_sem,g4,hf]
theorem getI (o:List Int)(a:Nat)(h:a<o.length):(o.map I)[a]? =some (I (o.getD a 0)):=by
 rw [getm I o 0 a,if_pos h]
theorem loop93r (st0:St)(k:Nat)(hk:pure k=false)(caps:List AV)(b:Nat)(xs:List Int)(hlen:xs.length<1000000)(hst:st0.store[b]? =some (xs.map I))(p:Int→Bool)(hc: ∀x∈xs,run L k (I x::caps) st0=some (B (p x),st0))(lo hi:Nat)(i:Nat)(hok:i≤xs.length)(env:Env)(st:St)
  (hg:gcAV false lo hi (canon env [0,1,7,8]) st=([(0,.rsl b 0 xs.length xs.length 1 false),(1,.fn (.func k) [] caps),(7,J xs.length),(8,J i)],st0)):
  ∃x_1 en s,lim (headed pure (run L) false [0,1,7,8] lp93_0 lo hi) env st=some (x_1,en,s)∧(s=st0∧((x_1=.exit 0∧(xs.drop i).findIdx? p=none)∨(x_1=.ret∧∃j:Nat,(xs.drop i).findIdx? p=some j∧en.get 4=J (i+j)))):=by
 refine loop_wp (α:=Nat) (fun i=>xs.length-i) (fun i=>i≤xs.length) (fun i=>([(0,.rsl b 0 xs.length xs.length 1 false),(1,.fn (.func k) [] caps),(7,J xs.length),(8,J i)],st0)) (fun i x_1 en s=>s=st0∧((x_1=.exit 0∧(xs.drop i).findIdx? p=none)∨(x_1=.ret∧∃j:Nat,(xs.drop i).findIdx? p=some j∧en.get 4=J (i+j)))) (fun i hok=> ?_) i hok env st hg
 by_cases h:i<xs.length
 ·have hx:(xs.map I)[i]? =some (I xs[i]):=by simp [h]
  have hst:=hst
  have hin:(i<xs.length)=True:=eT h
  have hs:=succ64 i (by omega)
  have hd:xs.drop i=xs[i]::xs.drop (i+1):=List.drop_eq_getElem_cons h
  have hcall:=hc xs[i] (List.getElem_mem h)
  have hlt:((i:Int)<(xs.length:Int))=True:=eT (by omega)
  rw [hd,List.findIdx?_cons]
  generalize xs[i]=a at*
  cases hp:p a with
  |true=>
   rw [hp] at hcall
   simp only [go_sem,lp93_0,hst,hx,hin,nn_,hlt,hk,hcall]
   exact ⟨0,rfl,rfl⟩
  |false=>
   rw [hp] at hcall
   simp only [go_sem,lp93_0,hst,hx,hin,nn_,hlt,hk,hcall,hs]
   refine ⟨i+1,by simp only [go_sem,ren1_locm,loc_tips,locT_eq]<;>rfl,?_,?_,fun x en s hq=> ?_⟩
   ·omega
   ·omega
   ·obtain ⟨rfl,hq⟩:=hq
    refine ⟨rfl,?_⟩
    rcases hq with ⟨rfl,hq⟩ | ⟨rfl,j,hq,hj⟩
    ·left;rw [hq];exact ⟨rfl,rfl⟩
    ·right;refine ⟨rfl,j+1,by rw [hq];rfl,?_⟩
     rw [hj,show i+1+j=i+(j+1) by omega]
 ·have hd:xs.drop i=[]:=List.drop_eq_nil_of_le (by omega)
  have hlt:((i:Int)<(xs.length:Int))=False:=eF (by omega)
  rw [hd]
  simp only [go_sem,lp93_0,hlt]
  trivial
theorem c93r (st0:St)(k:Nat)(hk:pure k=false)(caps:List AV)(b:Nat)(xs:List Int)(hlen:xs.length<1000000)(hst:st0.store[b]? =some (xs.map I))(p:Int→Bool)(hc: ∀x∈xs,run L k (I x::caps) st0=some (B (p x),st0)):
  run L 93 [.rsl b 0 xs.length xs.length 1 false,.fn (.func k) [] caps] st0=some (I (idxF p xs),st0):=by
 rw [run_shared (fn:=ir93) rfl rfl]
 simp only [ir93,go_sem]
 generalize hg:lim (headed pure (run L) false _ lp93_0 _ _) _ _=o
 obtain ⟨x,en,s,rfl,h2⟩: ∃x en s,o=some (x,en,s)∧_:=by rw [←hg];exact loop93r st0 k hk caps b xs hlen hst p hc _ _ 0 (by omega) _ _ (by simp only [go_sem]<;>rfl)
 clear hg
 rw [List.drop_zero] at h2
 obtain ⟨rfl,h2⟩:=h2
 unfold idxF
 rcases h2 with ⟨rfl,h2⟩ | ⟨rfl,j,h2,h3⟩
 ·rw [h2]
  simp only [go_sem]
 ·rw [h2]
  rw [Nat.zero_add] at h3
  simp only [go_sem,h3]
theorem c112r (st0:St)(k:Nat)(hk:pure k=false)(caps:List AV)(b:Nat)(xs:List Int)(hlen:xs.length<1000000)(hst:st0.store[b]? =some (xs.map I))(p:Int→Bool)(hc: ∀x∈xs,run L k (I x::caps) st0=some (B (p x),st0)):
  run L 112 [.rsl b 0 xs.length xs.length 1 false,.fn (.func k) [] caps] st0=some (B (xs.any p),st0):=by
 have h:=c93r st0 k hk caps b xs hlen hst p hc
 rw [run_shared (fn:=ir112) rfl rfl]
 simp only [ir112,go_sem,h,idxF_any]
theorem c120 (x:Int)(hx:0≤x)(st:St):run L 120 [I x] st=some (B false,st):=by
 rw [run_shared (fn:=ir120) rfl rfl]
 have p:(x<0)=False:=eF (by omega)
 simp only [ir120,go_sem,p]
end Go.Proofs.YtdnjagnechibhaaGreatDoor.Vm
namespace Go.Proofs.YtdnjagnechibhaaGreatDoor.Vm
open Go Go.Ev
set_option maxRecDepth 100001
theorem sum_upd (f g:Nat→Int)(i:Nat)(d:Int)(h: ∀j,j≠i→g j=f j)(hi:g i=f i+d): ∀n,((List.range n).map g).sum=((List.range n).map f).sum+if i<n then d else 0
 |0=>by simp
 |n+1=>by
  rw [List.range_succ,List.map_append,List.map_append,List.sum_append,List.sum_append,sum_upd f g i d h hi n]
  simp only [List.map_cons,List.map_nil,List.sum_cons,List.sum_nil]
  by_cases q:n=i
  ·subst q
   rw [hi,if_neg (Nat.lt_irrefl _),if_pos (Nat.lt_succ_self _)];omega
  ·rw [h n q]
   by_cases q2:i<n
   ·rw [if_pos q2,if_pos (by omega)];omega
   ·rw [if_neg q2,if_neg (by omega)];omega
theorem sum_zero (f:Nat→Int): ∀n,(∀j,j<n→f j=0)→((List.range n).map f).sum=0
 |0,_=>by simp
 |n+1,h=>by
  rw [List.range_succ,List.map_append,List.sum_append,sum_zero f n (fun j hj=>h j (by omega))]
  simp [h n (by omega)]
theorem sum_mono (f g:Nat→Int): ∀n,(∀j,j<n→f j≤g j)→((List.range n).map f).sum≤((List.range n).map g).sum
 |0,_=>by simp
 |n+1,h=>by
  rw [List.range_succ,List.map_append,List.map_append,List.sum_append,List.sum_append]
  have:=sum_mono f g n (fun j hj=>h j (by omega))
  have:=h n (by omega)
  simp only [List.map_cons,List.map_nil,List.sum_cons,List.sum_nil];omega
def loadF (n:Nat) (o ps:List Int) (s:Int):Int:=((List.range n).map fun j=>if o.getD j 0=s then ps.getD j 0 else 0).sum
structure FitInv (size:Int) (ps:List Int) (n:Nat) (done:List Nat) (o lf:List Int):Prop where
 len:o.length=n
 yes: ∀j,j<n→j∈done→0≤o.getD j 0∧o.getD j 0<(lf.length:Int)
 no: ∀j,j<n→j ∉ done→o.getD j 0= -1
 sum: ∀s:Nat,s<lf.length→lf.getD s 0+loadF n o ps s=size
 pos: ∀s:Nat,s<lf.length→0≤lf.getD s 0
 few:lf.length≤done.length
theorem fit_start (size:Int)(ps:List Int)(n:Nat):FitInv size ps n [] (List.replicate n (-1)) []:=
 ⟨by simp,fun j _ h=>by simp at h,fun j hj _=>by simp [List.getD_eq_getElem?_getD,hj],fun s hs=>by simp at hs,fun s hs=>by simp at hs,Nat.le_refl _⟩
section
variable {size:Int} {ps:List Int} {n:Nat} {done:List Nat} {o lf:List Int} (h:FitInv size ps n done o lf) {i:Nat} (hi:i<n) (hd:i ∉ done)
include h hi hd
theorem fit_load (k s:Nat):loadF n (o.set i (k:Int)) ps s=loadF n o ps s+if s=k then ps.getD i 0 else 0:=by
 have hl:=h.len
 have hno:=h.no i hi hd
 have h1: ∀j,j≠i→(if (o.set i (k:Int)).getD j 0=(s:Int) then ps.getD j 0 else 0)=if o.getD j 0=(s:Int) then ps.getD j 0 else 0:=fun j hj=>by
  have:(o.set i (k:Int)).getD j 0=o.getD j 0:=by
   simp only [List.getD_eq_getElem?_getD];rw [List.getElem?_set_ne (by omega)]
  rw [this]
 have h2:(if (o.set i (k:Int)).getD i 0=(s:Int) then ps.getD i 0 else 0)=(if o.getD i 0=(s:Int) then ps.getD i 0 else 0)+if s=k then ps.getD i 0 else 0:=by
  have e1:(o.set i (k:Int)).getD i 0=(k:Int):=by
   simp [List.getD_eq_getElem?_getD,show i<o.length by omega]
  rw [e1,hno]
  (repeat' split)<;>omega
 unfold loadF
 rw [sum_upd (fun j=>if o.getD j 0=(s:Int) then ps.getD j 0 else 0) (fun j=>if (o.set i (k:Int)).getD j 0=(s:Int) then ps.getD j 0 else 0) i _ h1 h2 n,if_pos hi]
theorem fit_get (k j:Nat):(o.set i (k:Int)).getD j 0=if j=i then (k:Int) else o.getD j 0:=by
 have hl:=h.len
 by_cases q:j=i
 ·subst q;rw [if_pos rfl];simp [List.getD_eq_getElem?_getD,show j<o.length by omega]
 ·rw [if_neg q];simp only [List.getD_eq_getElem?_getD];rw [List.getElem?_set_ne (by omega)]
theorem fit_old {k:Nat} (hk:k<lf.length)(hx:ps.getD i 0≤lf.getD k 0):FitInv size ps n (done++ [i]) (o.set i (k:Int)) (lf.set k (lf.getD k 0-ps.getD i 0)):=by
 have hg:=fit_get h hi hd k
 have hset: ∀s,s<lf.length→(lf.set k (lf.getD k 0-ps.getD i 0)).getD s 0=if s=k then lf.getD k 0-ps.getD i 0 else lf.getD s 0:=fun s hs=>by
  by_cases q:s=k
  ·subst q;rw [if_pos rfl];simp [List.getD_eq_getElem?_getD,hs]
  ·rw [if_neg q];simp only [List.getD_eq_getElem?_getD];rw [List.getElem?_set_ne (by omega)]
 refine ⟨by simp [h.len],fun j hj hjd=> ?_,fun j hj hjd=> ?_,fun s hs=> ?_,fun s hs=> ?_,by simp;have:=h.few;omega⟩
 ·rw [hg,List.length_set]
  by_cases q:j=i
  ·rw [if_pos q];omega
  ·rw [if_neg q];exact h.yes j hj (by simpa [q] using hjd)
 ·rw [hg,if_neg (by rintro rfl;simp at hjd)]
  exact h.no j hj (fun hm=>hjd (by simp [hm]))
 ·rw [List.length_set] at hs
  rw [hset s hs,fit_load h hi hd]
  have:=h.sum s hs
  by_cases q:s=k
  ·subst q;rw [if_pos rfl,if_pos rfl];omega
  ·rw [if_neg q,if_neg q];omega
 ·rw [List.length_set] at hs
  rw [hset s hs]
  have:=h.pos s hs
  split<;>omega
theorem fit_new (hx:ps.getD i 0≤size):FitInv size ps n (done++ [i]) (o.set i (lf.length:Int)) (lf++ [size-ps.getD i 0]):=by
 have hg:=fit_get h hi hd lf.length
 have hl1:(lf++ [size-ps.getD i 0]).length=lf.length+1:=by simp
 have hget: ∀s,s<lf.length+1→(lf++ [size-ps.getD i 0]).getD s 0=if s=lf.length then size-ps.getD i 0 else lf.getD s 0:=fun s hs=>by
  by_cases q:s=lf.length
  ·rw [if_pos q,q];simp [List.getD_eq_getElem?_getD]
  ·rw [if_neg q];simp only [List.getD_eq_getElem?_getD];rw [List.getElem?_append_left (by omega)]
 have h0:loadF n o ps (lf.length:Int)=0:=by
  unfold loadF
  refine sum_zero _ n fun j hj=> ?_
  rw [if_neg]
  by_cases q:j∈done
  ·have:=h.yes j hj q;omega
  ·have:=h.no j hj q;omega
 refine ⟨by simp [h.len],fun j hj hjd=> ?_,fun j hj hjd=> ?_,fun s hs=> ?_,fun s hs=> ?_,by simp;exact h.few⟩
 ·rw [hg,hl1]
  by_cases q:j=i
  ·rw [if_pos q];omega
  ·rw [if_neg q];have:=h.yes j hj (by simpa [q] using hjd);omega
 ·rw [hg,if_neg (by rintro rfl;simp at hjd)]
  exact h.no j hj (fun hm=>hjd (by simp [hm]))
 ·rw [hl1] at hs
  rw [hget s hs,fit_load h hi hd]
  by_cases q:s=lf.length
  ·subst q;rw [if_pos rfl,if_pos rfl,h0];omega
  ·rw [if_neg q,if_neg q]
   have:=h.sum s (by omega);omega
 ·rw [hl1] at hs
  rw [hget s hs]
  by_cases q:s=lf.length
  ·rw [if_pos q];omega
  ·rw [if_neg q];exact h.pos s (by omega)
end
theorem idx_some {p:Int→Bool} {xs:List Int} {j:Nat} (h:xs.findIdx? p=some j):j<xs.length∧p (xs.getD j 0)=true∧idxF p xs=(j:Int):=by
 obtain ⟨h1,h2,_⟩:=List.findIdx?_eq_some_iff_getElem.1 h
 refine ⟨h1,?_,by unfold idxF;rw [h]⟩
 rw [show xs.getD j 0=xs[j] by simp [List.getD_eq_getElem?_getD,h1]]
 exact h2
theorem idx_none {p:Int→Bool} {xs:List Int} (h:xs.findIdx? p=none):idxF p xs= -1:=by unfold idxF;rw [h]
end Go.Proofs.YtdnjagnechibhaaGreatDoor.Vm
namespace Go.Proofs.YtdnjagnechibhaaGreatDoor.Vm
open Go Go.Ev
set_option maxRecDepth 100000
set_option maxHeartbeats 4000000
attribute [local go_sem] m_ x_ l_ k_ o_ t_ a_ s_ q_ b_ c_ u_ g_ cells_any storable_any ren1_any shaped_ptr cells_ptr storable_ptr ren1_ptr shaped_eptr cells_eptr storable_eptr ren1_eptr shaped_rsl cells_rsl storable_rsl ren1_rsl shaped_int cells_int storable_int ren1_int shaped_bool cells_bool storable_bool ren1_bool shaped_nils cells_nils storable_nils ren1_nils shaped_lst cells_lst storable_lst shaped_fn cells_fn storable_fn ren1_fn shaped_ifc cells_ifc storable_ifc ren1_ifc shaped_agg cells_agg storable_agg ren1_agg shaped_tup cells_tup storable_tup ren1_tup shaped_nif cells_nif storable_nif ren1_nif ren1_lany ren1_lfull ren1_lown len_lst len_rsl len_nil load_ptr load_eptr isRsl_lst isRsl_nil isRsl_rsl elems_nil elems_lst elems_sl isRsl_sl body_eq bodyK_normal bodyK_ret resK_some leaveK_some only_some code_skip code_exit code_ret code_ops code_seq code_cond code_block seqK_normal seqK_ret seqK_exit condK_true condK_false blockK_normal blockK_ret blockK_exit opsK_some ops_nil ops_cons wantK_true wantK_false stepK_some pubs pub pub_sl params okRef_loc storable_loc shaped_loc cells_loc isRsl_loc elems_loc len_loc untips untip untip_sl wantedAV setElems withO isAgg_v isAgg_agg isAgg_lst isAgg_ptr isAgg_fn isAgg_ifc isAgg_rsl isAgg_sl isAgg_loc List.replicate_succ List.replicate_zero opAV valAV aval avals ofVal Env.get setD canon gcAV renAll renEnv renStore renCells ren1_sl cutSt okEnv okStore okRefs okRef okRef_sl bin_int bin_bool bin_lst bin_rsl bin_nil bin_agg cellsEq cellEq isShift intOp boolOp min_int max_int beq_int bne resAV tupAV leave_eq fin_sl fin_loc fins fin_v fin_lst fin_agg fin_tup fin_fn storeAV readCells putCells cells_sl shaped_sl storable_sl fieldAddrAV len_sl goI List.getElem?_cons_zero List.getElem?_cons_succ List.getElem?_nil Option.bind_some Option.map_some List.length_cons List.length_nil List.all_cons List.all_nil Bool.and_true Bool.true_and Bool.and_false Bool.false_and and_true true_and and_false false_and Bool.false_eq_true List.set_cons_zero List.set_cons_succ List.append_nil List.nil_append List.cons_append List.take_zero List.take_succ_cons List.take_nil List.drop_zero List.drop_succ_cons List.map_cons List.map_nil decide_true decide_false beq_self_eq_true Bool.not_true Bool.not_false or_true true_or or_false false_or Nat.zero_add Nat.add_zero Nat.le_refl Nat.lt_irrefl decide_eq_true_eq eq_self_iff_true not_true_eq_false not_false_eq_true List.getD_cons_zero code_loop Nat.zero_le Nat.not_lt_zero Bool.true_beq Bool.false_beq beq_true beq_false ge_iff_le gt_iff_lt keepR keepT ownTop Lpure pus Option.map_none assert_ifc assert_nil idxA_ptr idxA_eptr idxV_agg Int.cast_ofNat_Int Nat.mul_one Nat.zero_mul Int.toNat_natCast Int.toNat_zero setParts withO2 hasKey eqnil_sl nenil_sl eqnil_loc nenil_loc map_nil_iff elemsM_nil elemsM_lst elemsM_sl elemsM_loc elemsM_rsl elemsM_agg setElemsR pubR_v pubR_rsl pubE_v pubE_rsl okRefs_ints renCells_ints index_rsl_if setm make_ints condK_dec wantK_dec not_dec and_dec or_dec seqK_ite seqK_none blockK_ite blockK_none opsK_ite opsK_none stepK_ite stepK_none bodyK_ite bodyK_none resK_ite resK_none leaveK_ite leaveK_none only_ite only_none bind_ite gives_some gives_none gives_ite then_normal then_ret then_exit then_none then_ite Option.bind_none Bool.not_eq_true' decide_eq_false_iff_not Bool.and_eq_true Bool.or_eq_true Option.some.injEq Int.not_lt Int.not_le
attribute [local go_sem_proc] reduceIte Nat.reduceEqDiff Nat.reduceAdd Nat.reduceSub Nat.reduceLeDiff Nat.reduceLT reduceCtorEq Int.reduceLT Int.reduceLE Int.reduceEq Int.reduceBEq Int.reduceSub Int.reduceAdd Int.reduceMul Int.reduceNeg Int.reduceToNat Nat.reduceMul Nat.reduceBEq
theorem refsL_I (n:Nat)(xs:List Int)(acc:List Nat):refsL n acc (xs.map I)=acc:=refsL_kind n (fun n=>Value.int .i64 n) xs acc
theorem mapLs_I (n:Nat)(M:List Nat)(xs:List Int):mapLs n M (xs.map I)=xs.map I:=mapLs_kind n M (fun n=>Value.int .i64 n) xs
theorem c94 (ps:List Int)(x b:Nat)(hx:x<ps.length)(S:List (List AV))(h0:S[0]? =some [sl 1 true (ps.map I)])(hb:S[b]? =some [J x])(v:Int)(T:List Nat):
  run L 94 [I v,.ptr 0 0,.ptr b 0] ⟨S,T⟩=some (B (decide (ps.getD x 0≤v)),⟨S,T⟩):=by
 rw [run_shared (fn:=ir94) rfl rfl]
 have hi:=index_ints true ps x hx
 rw [show ps[x]=ps.getD x 0 by simp [List.getD_eq_getElem?_getD,hx]] at hi
 simp only [ir94,go_sem,h0,hb,hi]
def lA (lf:List Int):AV:=if lf=[] then .v (.slice none 0 0) else .rsl 2 0 lf.length lf.length 1 false
def lS (lf:List Int):List (List AV):=if lf=[] then [] else [lf.map I]
theorem lA_ne {lf:List Int} (h:lf≠[]):lA lf=.rsl 2 0 lf.length lf.length 1 false:=if_neg h
theorem lS_ne {lf:List Int} (h:lf≠[]):lS lf=[lf.map I]:=if_neg h
theorem lA_one (x:Int):lA [x]=.rsl 2 0 1 1 1 false:=rfl
theorem lS_one (x:Int):lS [x]=[[I x]]:=rfl
theorem happ_two (a b c:List AV)(lf:List Int)(size:Int)(h:1≤lf.length)(h2:lf.length≤1000)(T:List Nat):appendmAV 1 false (.rsl 2 0 lf.length lf.length 1 false) [I size] ⟨[a,b,lf.map I,c],T⟩=some (.rsl 4 0 (lf.length+1) (lf.length+1) 1 false,⟨[a,b,[],c,(lf++ [size]).map I],T⟩):=by
 have htk:(lf.map I).take lf.length=lf.map I:=List.take_of_length_le (by simp)
 simp only [appendmAV,List.getElem?_cons_succ,List.getElem?_cons_zero,List.length_cons,List.length_nil,lm_,Nat.mul_one,htk]
 rw [if_pos ⟨trivial,trivial,Nat.le_refl _,by omega,by omega⟩,if_neg (by omega),if_pos ⟨trivial,by unfold maxGrow;omega,by omega⟩]
 simp [flatAV,AV.cells]
theorem loop37 (size:Int)(hsz:1≤size∧size≤24)(ps:List Int)(n:Nat)(hl:ps.length=n)(hn:n≤8)(hps: ∀x∈ps,1≤x∧x≤size)(nl:Bool)(od:List Nat)(hol:od.length=n)(hor: ∀x∈od,x<n)(hnd:od.Nodup)(i:Nat)(o:List Int)(lf:List Int)(hok:i≤n∧FitInv size ps n (od.take i) o lf)(env:Env)(st:St)
  (hg:gcAV true 2 0 (canon env [0,4,9,10,31,32,33,3000000]) st=([(0,I size),(4,.ptr 0 0),(9,.rsl 1 0 n n 1 false),(10,lA lf),(31,sl 1 nl (od.map J)),(32,J n),(33,J i),(3000000,.any)],⟨[sl 1 true (ps.map I)]::o.map I::lS lf,[]⟩)):
  ∃x_1 en s,lim (headed pure (run L) true [0,4,9,10,31,32,33,3000000] lp37_0 2 0) env st=some (x_1,en,s)∧(x_1=.exit 1∧en.get 9=.rsl 1 0 n n 1 false∧∃o lf,FitInv size ps n od o lf∧s=⟨[sl 1 true (ps.map I)]::o.map I::lS lf,[]⟩):=by
 refine loop_wp (α:=Nat×List Int×List Int) (fun ⟨i,o,lf⟩=>n-i) (fun ⟨i,o,lf⟩=>i≤n∧FitInv size ps n (od.take i) o lf) (fun ⟨i,o,lf⟩=>([(0,I size),(4,.ptr 0 0),(9,.rsl 1 0 n n 1 false),(10,lA lf),(31,sl 1 nl (od.map J)),(32,J n),(33,J i),(3000000,.any)],⟨[sl 1 true (ps.map I)]::o.map I::lS lf,[]⟩)) (fun ⟨i,o,lf⟩ x_1 en s=>x_1=.exit 1∧en.get 9=.rsl 1 0 n n 1 false∧∃o lf,FitInv size ps n od o lf∧s=⟨[sl 1 true (ps.map I)]::o.map I::lS lf,[]⟩) (fun ⟨i,o,lf⟩ hok=> ?_) ⟨i,o,lf⟩ hok env st hg
 simp only at hok
 obtain ⟨h1,hF⟩:=hok
 dsimp only at h1 hF⊢
 by_cases h:i<n
 ·have hs:=succ64 i (by omega)
  have hlt:((i:Int)<(n:Int))=True:=eT (by omega)
  have hx:=idx_sl J nl od i (by omega)
  have htk:od.take (i+1)=od.take i++ [od[i]'(by omega)]:=List.take_succ_eq_append_getElem (by omega)
  have hxn:=hor (od[i]'(by omega)) (List.getElem_mem _)
  have hxd:od[i]'(by omega) ∉ od.take i:=fun hm=>by
   have:=hnd.sublist (List.take_sublist (i+1) od)
   rw [htk,List.nodup_append] at this
   exact this.2.2 _ hm _ (List.mem_singleton.2 rfl) rfl
  generalize od[i]'(by omega)=x at*
  have hon:=hF.no x hxn hxd
  have hol2:=hF.len
  have hfew:=hF.few
  rw [List.length_take] at hfew
  have q1:((x:Int)<0)=False:=eF (by omega)
  have q2:((n:Int)≤(x:Int))=False:=eF (by omega)
  have q3:((x:Int)<(n:Int))=True:=eT (by omega)
  have q4:(x+1≤n)=True:=eT (by omega)
  have hgo:=getI o x (by omega)
  rw [hon] at hgo
  have q5:((0:Int)≤ -1)=False:=eF (by omega)
  have hp:=index_ints true ps x (by omega)
  rw [show ps[x]=ps.getD x 0 by simp [List.getD_eq_getElem?_getD,show x<ps.length by omega]] at hp
  have hpb:=hps (ps.getD x 0) (by
   rw [show ps.getD x 0=ps[x]'(by omega) by simp [List.getD_eq_getElem?_getD,show x<ps.length by omega]];exact List.getElem_mem _)
  have hR1:=refsL_I 2 o
  have hO:=okRefs_ints
  by_cases he:lf=[]
  ·subst he
   have eA:lA []=.v (.slice none 0 0):=rfl
   have eS:lS []=[]:=rfl
   rw [eA,eS]
   have hc:=c93 ⟨[[sl 1 true (ps.map I)],o.map I,[J x]],[]⟩ 94 rfl [.ptr 0 0,.ptr 2 0] (.v (.slice none 0 0)) [] (by simp) rfl (fun i h=>by simp at h) (fun _=>true) (fun y hy=>by simp at hy)
   rw [idx_none rfl] at hc
   have hap: ∀S T,appendmAV 1 false (.v (.slice none 0 0)) [I size] ⟨S,T⟩=some (.rsl S.length 0 1 1 1 false,⟨S++ [[I size]],T⟩):=fun S T=>by simp [appendmAV,newM,maxGrow,flatAV,AV.cells]
   have hN:=fit_new hF hxn hxd hpb.2
   rw [←htk] at hN
   simp only [List.length_nil,List.nil_append,Int.natCast_zero] at hN
   have hw:=wrap64 (size-ps.getD x 0) (by omega) (by omega)
   generalize ps.getD x 0=y at*
   have neg:((-1:Int)<0)=True:=eT (by omega)
   simp only [go_sem,lp37_0,hlt,hs,hx,q1,q2,q3,q4,hgo,q5,hp,hc,hap,hw,neg,hol2,hl,lm_,List.length_set,nn_]
   refine ⟨(i+1,o.set x 0,[size-y]),by simp only [go_sem,ren1_locm,loc_tips,locT_eq,lA_one,lS_one,compact,compactW,refsEnv,refsV,refsL,refsStore,refsAt,mapEnv,mapL,mapLs,newName,posOf,mapStore,pickStore,namesOk,refsV_sl,mapL_sl,List.contains_nil,List.contains_cons,Option.getD_some,hasKey,refsL_I,mapLs_I]<;>rfl,?_,?_,fun x en s hq=> ?_⟩
   ·dsimp only;exact ⟨by omega,hN⟩
   ·dsimp only;omega
   ·exact hq
  ·have eA:=lA_ne he
   have eS:=lS_ne he
   have hpos:1≤lf.length:=List.length_pos_iff.2 he
   rw [eA,eS]
   have hc:=c93r ⟨[[sl 1 true (ps.map I)],o.map I,lf.map I,[J x]],[]⟩ 94 rfl [.ptr 0 0,.ptr 3 0] 2 lf (by omega) rfl (fun v=>decide (ps.getD x 0≤v)) (fun v _=>c94 ps x 3 (by omega) _ rfl rfl v [])
   cases hf:lf.findIdx? (fun v=>decide (ps.getD x 0≤v)) with
   |some j=>
    obtain ⟨g1,g2,g3⟩:=idx_some hf
    rw [g3] at hc
    rw [decide_eq_true_eq] at g2
    have hN:=fit_old hF hxn hxd g1 g2
    rw [←htk] at hN
    have hgj:=getI lf j g1
    have hs1:=hF.sum j g1
    have hs2:=hF.pos j g1
    have hub:lf.getD j 0≤size:=by
     have:0≤loadF n o ps (j:Int):=by
      unfold loadF
      have:=sum_mono (fun _=>0) (fun k=>if o.getD k 0=(j:Int) then ps.getD k 0 else 0) n (fun k hk=>by
       show (0:Int)≤if o.getD k 0=(j:Int) then ps.getD k 0 else 0
       have:=hps (ps.getD k 0) (by
        rw [show ps.getD k 0=ps[k]'(by omega) by simp [List.getD_eq_getElem?_getD,show k<ps.length by omega]];exact List.getElem_mem _)
       split<;>omega)
      rw [sum_zero (fun _=>0) n (fun _ _=>rfl)] at this
      exact this
     omega
    have r1:((j:Int)<0)=False:=eF (by omega)
    have r2:((j:Int)<(lf.length:Int))=True:=eT (by omega)
    have r3:(j+1≤lf.length)=True:=eT (by omega)
    have hw:=wrap64 (lf.getD j 0-ps.getD x 0) (by omega) (by omega)
    have hne2:lf.set j (lf.getD j 0-ps.getD x 0)≠[]:=by intro e;have:=congrArg List.length e;rw [List.length_set,List.length_nil] at this;omega
    have eA2:=lA_ne hne2
    have eS2:=lS_ne hne2
    rw [List.length_set] at eA2
    generalize lf.getD j 0=z at*
    generalize ps.getD x 0=y at*
    simp only [go_sem,lp37_0,hlt,hs,hx,q1,q2,q3,q4,hgo,q5,hp,hc,hgj,hw,r1,r2,r3,hol2,hl,lm_,List.length_set,nn_]
    refine ⟨(i+1,o.set x (j:Int),lf.set j (z-y)),by simp only [go_sem,ren1_locm,loc_tips,locT_eq,eA2,eS2,compact,compactW,refsEnv,refsV,refsL,refsStore,refsAt,mapEnv,mapL,mapLs,newName,posOf,mapStore,pickStore,namesOk,refsV_sl,mapL_sl,List.contains_nil,List.contains_cons,Option.getD_some,hasKey,refsL_I,mapLs_I]<;>rfl,?_,?_,fun x en s hq=> ?_⟩
    ·dsimp only;exact ⟨by omega,hN⟩
    ·dsimp only;omega
    ·exact hq
   |none=>
    rw [idx_none hf] at hc
    have hN:=fit_new hF hxn hxd hpb.2
    rw [←htk] at hN
    have hap:=happ_two [sl 1 true (ps.map I)] (o.map I) [J x] lf size hpos (by omega) []
    have hgm:((lf++ [size]).map I)[lf.length]? =some (I size):=by simp
    have hsm:(lf++ [size]).set lf.length (size-ps.getD x 0)=lf++ [size-ps.getD x 0]:=by simp
    have hlm:(lf++ [size]).length=lf.length+1:=by simp
    have hw:=wrap64 (size-ps.getD x 0) (by omega) (by omega)
    have neg:((-1:Int)<0)=True:=eT (by omega)
    have r2:((lf.length:Int)<((lf.length+1:Nat):Int))=True:=eT (by omega)
    have hne2:lf++ [size-ps.getD x 0]≠[]:=by simp
    have eA2:=lA_ne hne2
    have eS2:=lS_ne hne2
    rw [show (lf++ [size-ps.getD x 0]).length=lf.length+1 by simp] at eA2
    generalize ps.getD x 0=y at*
    simp only [go_sem,lp37_0,hlt,hs,hx,q1,q2,q3,q4,hgo,q5,hp,hc,hap,hgm,hsm,hlm,hw,neg,r2,hol2,hl,lm_,List.length_set,nn_]
    refine ⟨(i+1,o.set x (lf.length:Int),lf++ [size-y]),by simp only [go_sem,ren1_locm,loc_tips,locT_eq,eA2,eS2,compact,compactW,refsEnv,refsV,refsL,refsStore,refsAt,mapEnv,mapL,mapLs,newName,posOf,mapStore,pickStore,namesOk,refsV_sl,mapL_sl,List.contains_nil,List.contains_cons,Option.getD_some,hasKey,refsL_I,mapLs_I]<;>rfl,?_,?_,fun x en s hq=> ?_⟩
    ·dsimp only;exact ⟨by omega,hN⟩
    ·dsimp only;omega
    ·exact hq
 ·have hlt:((i:Int)<(n:Int))=False:=eF (by omega)
  obtain rfl:i=n:=by omega
  rw [List.take_of_length_le (by omega)] at hF
  simp only [go_sem,lp37_0,hlt]
  exact ⟨o,lf,hF,rfl⟩
theorem all92:(List.range 9).map (fun (n:Nat)=>callAV L 100 92 [.lst .any 1 [I (-1)],I n] ⟨[],[]⟩)=(List.range 9).map (fun (n:Nat)=>some (.rsl 0 0 n n 1 false,(⟨[(List.replicate n (-1)).map I],[]⟩:St))):=by kernel_rfl
theorem c92 (n:Nat)(hn:n≤8):run L 92 [.lst .any 1 [I (-1)],I n] ⟨[],[]⟩=some (.rsl 0 0 n n 1 false,⟨[(List.replicate n (-1)).map I],[]⟩):=
 callAV_run L 100 _ _ _ _ (all_of all92 n (by omega))
theorem frz_out (a:List AV)(o:List Int)(n:Nat)(h:o.length=n)(hn:1≤n)(R:List (List AV))(T:List Nat):
  ∃S2,frzArgs (rslsOf [.rsl 1 0 n n 1 false]) [.rsl 1 0 n n 1 false] ⟨a::o.map I::R,T⟩=([sl 1 true (o.map I)],⟨S2,T⟩):=by
 subst h
 obtain ⟨x,r,rfl⟩: ∃x r,o=x::r:=by cases o with|nil=>simp at hn|cons x r=>exact ⟨x,r,rfl⟩
 have hp:pubs ((x::r).map I)=(x::r).map I:=pubs_map I (fun _=>rfl) _
 have hq:group false 1 (x::r).length ((x::r).map I)=(x::r).map I:=groupm_one I (fun _=>rfl) (x::r)
 have hsl:sl 1 true ((x::r).map I)=.lst .any 1 ((x::r).map I):=sl_ne (by simp)
 refine ⟨(frzStore 1 ((x::r).map I) (a::(x::r).map I::R)).set 1 [],?_⟩
 rw [hsl]
 have e1:frzA 1 ⟨a::(x::r).map I::R,T⟩ (.rsl 1 0 (x::r).length (x::r).length 1 false)=.lst .any 1 ((x::r).map I):=by
  show frzV 1 ((x::r).map I) _=_
  simp only [frzV]
  rw [if_pos ⟨trivial,by simp,.inr trivial,Nat.le_refl _⟩,List.drop_zero,hp,hq]
 simp only [rslsOf,frzArgs,List.map_cons,List.map_nil] at e1⊢
 rw [e1]
 rfl
theorem c37 (size:Int)(hsz:1≤size∧size≤24)(ps:List Int)(n:Nat)(hl:ps.length=n)(hn:1≤n∧n≤8)(hps: ∀x∈ps,1≤x∧x≤size)(nl:Bool)(od:List Nat)(hol:od.length=n)(hor: ∀x∈od,x<n)(hnd:od.Nodup)(st:St):
  ∃o lf,FitInv size ps n od o lf∧run L 37 [I size,sl 1 true (ps.map I),sl 1 nl (od.map J)] st=some (.tup [sl 1 true ((tidF o []).map J),I 0],st):=by
 rw [run_pure (fn:=ir37) rfl rfl]
 have h56:=fun st=>c56 size hsz true ps (by omega) hps st
 have h92:=c92 n hn.2
 simp only [ir37,go_sem,h56,lm_,hl,hol,h92,show pure 92=false from rfl,shStore,shV,shVs_I]
 generalize hg:lim (headed pure (run L) true _ lp37_0 _ _) _ _=o
 obtain ⟨x,en,s,rfl,h2⟩: ∃x en s,o=some (x,en,s)∧_:=by rw [←hg];exact loop37 size hsz ps n hl hn.2 hps nl od hol hor hnd 0 (List.replicate n (-1)) [] ⟨Nat.zero_le _,fit_start size ps n⟩ _ _ (by simp only [go_sem,Int.natCast_zero,lA,lS,if_true,compact,compactW,refsEnv,refsV,refsL,refsStore,refsAt,mapEnv,mapL,mapLs,newName,posOf,mapStore,pickStore,namesOk,refsV_sl,mapL_sl,List.contains_nil,List.contains_cons,Option.getD_some,hasKey,refsL_I,mapLs_I]<;>rfl)
 clear hg
 obtain ⟨rfl,g9,o,lf,hF,rfl⟩:=h2
 refine ⟨o,lf,hF,?_⟩
 obtain ⟨S2,hfz⟩:=frz_out [sl 1 true (ps.map I)] o n hF.len hn.1 (lS lf) []
 have h95:=fun st=>c95 true o (by have:=hF.len;omega) st
 simp only [go_sem,g9,hfz,h95]
end Go.Proofs.YtdnjagnechibhaaGreatDoor.Vm
namespace Go.Proofs.YtdnjagnechibhaaGreatDoor.Vm
open Go Go.Ev
set_option maxRecDepth 100001
theorem cntG_snoc: ∀(a:List Nat) (x g:Nat),cntG (a++ [x]) g=if x=cntG a g then cntG a g+1 else cntG a g
 | [],x,g=>rfl
 |y::r,x,g=>by
  simp only [List.cons_append,cntG]
  exact cntG_snoc r x _
theorem rgs_snoc: ∀(a:List Nat) (x g:Nat),rgs (a++ [x]) g→rgs a g∧x≤cntG a g
 | [],x,g,h=>⟨trivial,h.1⟩
 |y::r,x,g,h=>by
  simp only [List.cons_append,rgs,cntG] at h⊢
  obtain ⟨h1,h2⟩:=rgs_snoc r x _ h.2
  exact ⟨⟨h.1,h1⟩,h2⟩
theorem rgs_take: ∀(a:List Nat) (g i:Nat),rgs a g→rgs (a.take i) g
 | [],g,i,h=>by simp [rgs]
 |y::r,g,0,h=>trivial
 |y::r,g,i+1,h=>by
  simp only [List.take_succ_cons,rgs] at h⊢
  exact ⟨h.1,rgs_take r _ i h.2⟩
def gN (p:List Nat) (i:Nat):Nat:=cntG (p.take i) 0
theorem gN_succ (p:List Nat)(i:Nat)(hi:i<p.length):gN p (i+1)=if p.getD i 0=gN p i then gN p i+1 else gN p i:=by
 unfold gN
 rw [List.take_succ_eq_append_getElem hi,cntG_snoc]
 rw [show p.getD i 0=p[i] by simp [List.getD_eq_getElem?_getD,hi]]
theorem gN_le (p:List Nat)(hr:rgs p 0)(i:Nat)(hi:i<p.length):p.getD i 0≤gN p i:=by
 have h:=rgs_take p 0 (i+1) hr
 rw [List.take_succ_eq_append_getElem hi] at h
 rw [show p.getD i 0=p[i] by simp [List.getD_eq_getElem?_getD,hi]]
 exact (rgs_snoc _ _ _ h).2
theorem gN_lt (p:List Nat)(hr:rgs p 0)(i j:Nat)(hi:i≤p.length)(hj:j<i):p.getD j 0<gN p i:=by
 refine rgs_lt (p.take i) 0 (rgs_take p 0 i hr) _ ?_
 rw [show p.getD j 0=(p.take i)[j]'(by rw [List.length_take];omega) by simp [List.getD_eq_getElem?_getD,show j<p.length by omega]]
 exact List.getElem_mem _
theorem gN_i (p:List Nat)(i:Nat):gN p i≤i:=by
 have:=cntG_len (p.take i) 0
 rw [List.length_take] at this
 unfold gN;omega
def ldF (p:List Nat) (ps:List Int) (x i:Nat):Int:=((List.range i).map fun j=>if p.getD j 0=x then ps.getD j 0 else 0).sum
theorem ldF_succ (p:List Nat)(ps:List Int)(x i:Nat):ldF p ps x (i+1)=ldF p ps x i+if p.getD i 0=x then ps.getD i 0 else 0:=by
 unfold ldF
 rw [List.range_succ,List.map_append,List.sum_append];simp
theorem ldF_new (p:List Nat)(ps:List Int)(x i:Nat)(h: ∀j,j<i→p.getD j 0<x):ldF p ps x i=0:=by
 unfold ldF
 exact sum_zero _ i fun j hj=>by rw [if_neg (by have:=h j hj;omega)]
theorem ldF_bd (p:List Nat)(ps:List Int)(n:Nat)(hps: ∀j,j<n→0≤ps.getD j 0∧ps.getD j 0≤24)(x:Nat): ∀i,i≤n→0≤ldF p ps x i∧ldF p ps x i≤24*(i:Int)
 |0,_=>by simp [ldF]
 |i+1,h=>by
  have ih:=ldF_bd p ps n hps x i (by omega)
  have:=hps i (by omega)
  rw [ldF_succ]
  split<;>omega
def leL (size:Int) (p:List Nat) (ps:List Int) (i:Nat):List Int:=(List.range (gN p i)).map fun x=>size-ldF p ps x i
theorem leL_len (size:Int)(p:List Nat)(ps:List Int)(i:Nat):(leL size p ps i).length=gN p i:=by simp [leL]
theorem leL_get (size:Int)(p:List Nat)(ps:List Int)(i x:Nat)(h:x<gN p i):(leL size p ps i).getD x 0=size-ldF p ps x i:=by
 simp [leL,List.getD_eq_getElem?_getD,h]
theorem leL_old (size:Int)(p:List Nat)(ps:List Int)(i:Nat)(hi:i<p.length)(h:p.getD i 0<gN p i):(leL size p ps i).set (p.getD i 0) (size-ldF p ps (p.getD i 0) i-ps.getD i 0)=leL size p ps (i+1):=by
 have hg:=gN_succ p i hi
 rw [if_neg (by omega)] at hg
 apply List.ext_getElem
 ·rw [List.length_set,leL_len,leL_len,hg]
 ·intro x h1 h2
  rw [List.getElem_set]
  simp only [leL,List.getElem_map,List.getElem_range,ldF_succ]
  split
  ·next e=>subst e;first|omega|(rw [if_pos rfl];omega)
  ·next e=>first|omega|(rw [if_neg e];omega)
theorem leL_new (size:Int)(p:List Nat)(hr:rgs p 0)(ps:List Int)(i:Nat)(hi:i<p.length)(h:p.getD i 0=gN p i):(leL size p ps i)++ [size-ps.getD i 0]=leL size p ps (i+1):=by
 have hg:=gN_succ p i hi
 rw [if_pos h] at hg
 unfold leL
 rw [hg,List.range_succ,List.map_append]
 congr 1
 ·refine List.map_congr_left fun x hx=> ?_
  have:=List.mem_range.1 hx
  rw [ldF_succ,if_neg (by omega)];omega
 ·simp only [List.map_cons,List.map_nil,List.cons.injEq,and_true]
  rw [ldF_succ,if_pos h,ldF_new p ps _ i (fun j hj=>gN_lt p hr i j (by omega) hj)];omega
end Go.Proofs.YtdnjagnechibhaaGreatDoor.Vm
namespace Go.Proofs.YtdnjagnechibhaaGreatDoor.Vm
open Go Go.Ev
set_option maxRecDepth 100000
set_option maxHeartbeats 4000000
attribute [local go_sem] m_ x_ l_ k_ o_ t_ a_ s_ q_ b_ c_ u_ g_ cells_any storable_any ren1_any shaped_ptr cells_ptr storable_ptr ren1_ptr shaped_eptr cells_eptr storable_eptr ren1_eptr shaped_rsl cells_rsl storable_rsl ren1_rsl shaped_int cells_int storable_int ren1_int shaped_bool cells_bool storable_bool ren1_bool shaped_nils cells_nils storable_nils ren1_nils shaped_lst cells_lst storable_lst shaped_fn cells_fn storable_fn ren1_fn shaped_ifc cells_ifc storable_ifc ren1_ifc shaped_agg cells_agg storable_agg ren1_agg shaped_tup cells_tup storable_tup ren1_tup shaped_nif cells_nif storable_nif ren1_nif ren1_lany ren1_lfull ren1_lown len_lst len_rsl len_nil load_ptr load_eptr isRsl_lst isRsl_nil isRsl_rsl elems_nil elems_lst elems_sl isRsl_sl body_eq bodyK_normal bodyK_ret resK_some leaveK_some only_some code_skip code_exit code_ret code_ops code_seq code_cond code_block seqK_normal seqK_ret seqK_exit condK_true condK_false blockK_normal blockK_ret blockK_exit opsK_some ops_nil ops_cons wantK_true wantK_false stepK_some pubs pub pub_sl params okRef_loc storable_loc shaped_loc cells_loc isRsl_loc elems_loc len_loc untips untip untip_sl wantedAV setElems withO isAgg_v isAgg_agg isAgg_lst isAgg_ptr isAgg_fn isAgg_ifc isAgg_rsl isAgg_sl isAgg_loc List.replicate_succ List.replicate_zero opAV valAV aval avals ofVal Env.get setD canon gcAV renAll renEnv renStore renCells ren1_sl cutSt okEnv okStore okRefs okRef okRef_sl bin_int bin_bool bin_lst bin_rsl bin_nil bin_agg cellsEq cellEq isShift intOp boolOp min_int max_int beq_int bne resAV tupAV leave_eq fin_sl fin_loc fins fin_v fin_lst fin_agg fin_tup fin_fn storeAV readCells putCells cells_sl shaped_sl storable_sl fieldAddrAV len_sl goI List.getElem?_cons_zero List.getElem?_cons_succ List.getElem?_nil Option.bind_some Option.map_some List.length_cons List.length_nil List.all_cons List.all_nil Bool.and_true Bool.true_and Bool.and_false Bool.false_and and_true true_and and_false false_and Bool.false_eq_true List.set_cons_zero List.set_cons_succ List.append_nil List.nil_append List.cons_append List.take_zero List.take_succ_cons List.take_nil List.drop_zero List.drop_succ_cons List.map_cons List.map_nil decide_true decide_false beq_self_eq_true Bool.not_true Bool.not_false or_true true_or or_false false_or Nat.zero_add Nat.add_zero Nat.le_refl Nat.lt_irrefl decide_eq_true_eq eq_self_iff_true not_true_eq_false not_false_eq_true List.getD_cons_zero code_loop Nat.zero_le Nat.not_lt_zero Bool.true_beq Bool.false_beq beq_true beq_false ge_iff_le gt_iff_lt keepR keepT ownTop Lpure pus Option.map_none assert_ifc assert_nil idxA_ptr idxA_eptr idxV_agg Int.cast_ofNat_Int Nat.mul_one Nat.zero_mul Int.toNat_natCast Int.toNat_zero setParts withO2 hasKey eqnil_sl nenil_sl eqnil_loc nenil_loc map_nil_iff elemsM_nil elemsM_lst elemsM_sl elemsM_loc elemsM_rsl elemsM_agg setElemsR pubR_v pubR_rsl pubE_v pubE_rsl okRefs_ints renCells_ints index_rsl_if setm make_ints condK_dec wantK_dec not_dec and_dec or_dec seqK_ite seqK_none blockK_ite blockK_none opsK_ite opsK_none stepK_ite stepK_none bodyK_ite bodyK_none resK_ite resK_none leaveK_ite leaveK_none only_ite only_none bind_ite gives_some gives_none gives_ite then_normal then_ret then_exit then_none then_ite Option.bind_none Bool.not_eq_true' decide_eq_false_iff_not Bool.and_eq_true Bool.or_eq_true Option.some.injEq Int.not_lt Int.not_le
attribute [local go_sem_proc] reduceIte Nat.reduceEqDiff Nat.reduceAdd Nat.reduceSub Nat.reduceLeDiff Nat.reduceLT reduceCtorEq Int.reduceLT Int.reduceLE Int.reduceEq Int.reduceBEq Int.reduceSub Int.reduceAdd Int.reduceMul Int.reduceNeg Int.reduceToNat Nat.reduceMul Nat.reduceBEq
def shA (g:Nat):AV:=if g=0 then .v (.slice none 0 0) else .rsl (g-1) 0 g g 1 false
def shS (lf:List Int):List (List AV):=if lf=[] then [] else List.replicate (lf.length-1) []++ [lf.map I]
theorem shA_ne {g:Nat} (h:1≤g):shA g=.rsl (g-1) 0 g g 1 false:=if_neg (by omega)
theorem shS_ne {lf:List Int} (h:lf≠[]):shS lf=List.replicate (lf.length-1) []++ [lf.map I]:=if_neg h
theorem shS_get {lf:List Int} {g:Nat} (hg:lf.length=g)(h:1≤g):(shS lf)[g-1]? =some (lf.map I):=by
 subst hg
 rw [shS_ne (by intro e;rw [e] at h;simp at h),List.getElem?_append_right (by simp)];simp
theorem shS_set {lf l2:List Int} {g:Nat} (hg:lf.length=g)(h:1≤g)(h2:l2.length=g):(shS lf).set (g-1) (l2.map I)=shS l2:=by
 subst hg
 rw [shS_ne (by intro e;rw [e] at h;simp at h),shS_ne (by intro e;rw [e] at h2;simp at h2;omega),h2]
 rw [List.set_append_right _ _ (by simp)];simp
theorem shA_len (g:Nat):lenAV (shA g)=some (J g):=by
 by_cases h:g=0
 ·subst h;rfl
 ·rw [shA_ne (by omega)];rfl
theorem calm_shS (lf:List Int):Calm (shS lf):=by
 have h1:Calm [lf.map I]:=⟨fun n=>by simp only [okStore,okRefs_ints,Bool.and_self],fun n T acc=>by simp only [renStore,renCells_ints]⟩
 have h2: ∀k,Calm (List.replicate k []++ [lf.map I]):=fun k=>by
  induction k with
  |zero=>exact h1
  |succ k ih=>rw [List.replicate_succ,List.cons_append];exact ih.cons (fun _=>rfl) (fun _ _ _=>rfl)
 unfold shS
 split
 ·exact ⟨fun _=>rfl,fun _ _ _=>rfl⟩
 ·exact h2 _
theorem shS_app (lf:List Int)(g:Nat)(hg:lf.length=g)(h2:g≤1000)(size:Int):appendmAV 1 false (shA g) [I size] ⟨shS lf,[]⟩=some (.rsl g 0 (g+1) (g+1) 1 false,⟨shS (lf++ [size]),[]⟩):=by
 by_cases h:g=0
 ·subst h
  obtain rfl:lf=[]:=List.eq_nil_of_length_eq_zero hg
  rfl
 ·have h1:1≤g:=by omega
  have hne:lf≠[]:=by rintro rfl;simp at hg;omega
  have htk:(lf.map I).take g=lf.map I:=List.take_of_length_le (by simp;omega)
  have hsl:(shS lf).length=g:=by rw [shS_ne hne];simp;omega
  rw [shA_ne h1]
  simp only [appendmAV,shS_get hg h1,List.length_cons,List.length_nil,lm_,Nat.mul_one,htk,hg]
  rw [if_pos ⟨trivial,trivial,Nat.le_refl _,by omega,by omega⟩,if_neg (by omega),if_pos ⟨trivial,by unfold maxGrow;omega,by omega⟩,hsl]
  have e:(shS lf).set (g-1) []++ [lf.map I++flatAV [I size]]=shS (lf++ [size]):=by
   rw [shS_ne hne,shS_ne (by simp),List.set_append_right _ _ (by simp;omega),List.length_append,hg,List.length_replicate]
   simp only [List.length_singleton,Nat.sub_self,List.set_cons_zero,Nat.add_sub_cancel,Nat.zero_add]
   rw [show g=(g-1)+1 by omega,List.replicate_succ']
   simp [flatAV,AV.cells]
  rw [e]
theorem loop58 (size:Int)(hsz:1≤size∧size≤24)(ps:List Int)(n:Nat)(hl:ps.length=n)(hn:n≤8)(hps: ∀x∈ps,1≤x∧x≤size)(p:List Nat)(hpl:p.length=n)(hr:rgs p 0)(i:Nat)(hok:i≤n)(env:Env)(st:St)
  (hg:gcAV true 0 0 (canon env [0,1,9,25,26,27]) st=([(0,I size),(1,sl 1 true (ps.map I)),(9,shA (gN p i)),(25,sl 1 true (p.map J)),(26,J n),(27,J i)],⟨shS (leL size p ps i),[]⟩)):
  ∃x_1 en s,lim (headed pure (run L) true [0,1,9,25,26,27] lp58_0 0 0) env st=some (x_1,en,s)∧(x_1=.exit 1∧en.get 9=shA (gN p n)∧s=⟨shS (leL size p ps n),[]⟩):=by
 refine loop_wp (α:=Nat) (fun i=>n-i) (fun i=>i≤n) (fun i=>([(0,I size),(1,sl 1 true (ps.map I)),(9,shA (gN p i)),(25,sl 1 true (p.map J)),(26,J n),(27,J i)],⟨shS (leL size p ps i),[]⟩)) (fun i x_1 en s=>x_1=.exit 1∧en.get 9=shA (gN p n)∧s=⟨shS (leL size p ps n),[]⟩) (fun i hok=> ?_) i hok env st hg
 by_cases h:i<n
 ·have hs:=succ64 i (by omega)
  have hlt:((i:Int)<(n:Int))=True:=eT (by omega)
  have hx:=idx_sl J true p i (by omega)
  rw [show p[i]'(by omega)=p.getD i 0 by simp [List.getD_eq_getElem?_getD,show i<p.length by omega]] at hx
  have hy:=index_ints true ps i (by omega)
  rw [show ps[i]'(by omega)=ps.getD i 0 by simp [List.getD_eq_getElem?_getD,show i<ps.length by omega]] at hy
  have hpj: ∀j,j<n→0≤ps.getD j 0∧ps.getD j 0≤24:=fun j hj=>by
   have:=hps (ps.getD j 0) (by
    rw [show ps.getD j 0=ps[j]'(by omega) by simp [List.getD_eq_getElem?_getD,show j<ps.length by omega]];exact List.getElem_mem _)
   omega
  have hpi:=hpj i h
  have hgle:=gN_le p hr i (by omega)
  have hgi:=gN_i p i
  have hgs:=gN_succ p i (by omega)
  have hbd:=ldF_bd p ps n hpj (p.getD i 0) i (by omega)
  have hln:=shA_len (gN p i)
  have hll:=leL_len size p ps i
  have hll2:=leL_len size p ps (i+1)
  have hcalm:=calm_shS (leL size p ps (i+1))
  have hok:=hcalm.ok
  have hren:=hcalm.ren
  have n0:(((p.getD i 0:Nat):Int)<0)=False:=eF (by omega)
  have n1:(((gN p i:Nat):Int)<((p.getD i 0:Nat):Int))=False:=eF (by omega)
  by_cases q:p.getD i 0=gN p i
  ·have hnew:=leL_new size p hr ps i (by omega) q
   rw [if_pos q] at hgs
   have happ:=shS_app (leL size p ps i) (gN p i) hll (by omega) size
   have hl1:(leL size p ps i++ [size]).length=gN p i+1:=by simp [hll]
   have g1:=shS_get hl1 (by omega)
   rw [Nat.add_sub_cancel] at g1
   have g2:((leL size p ps i++ [size]).map I)[gN p i]? =some (I size):=by
    rw [List.getElem?_map,List.getElem?_append_right (by omega),hll];simp
   have hset:=shS_set hl1 (by omega) (l2:=leL size p ps (i+1)) (by rw [hll2,hgs])
   rw [Nat.add_sub_cancel] at hset
   have hsl:(leL size p ps i++ [size]).set (gN p i) (size-ps.getD i 0)=leL size p ps (i+1):=by
    rw [←hnew,←hll];simp
   have hw:=wrap64 (size-ps.getD i 0) (by omega) (by omega)
   have eA:shA (gN p i+1)=.rsl (gN p i) 0 (gN p i+1) (gN p i+1) 1 false:=shA_ne (by omega)
   rw [q] at hx n0 n1
   have n2:(((gN p i:Nat):Int)<((gN p i+1:Nat):Int))=True:=eT (by omega)
   generalize gN p i=g at*
   simp only [go_sem,lp58_0,hlt,hs,hx,hy,n0,n1,n2,hln,happ,g1,g2,hset,hsl,hw,hl1,nn_,lm_,Int.lt_irrefl]
   refine ⟨(i+1),by simp only [go_sem,ren1_locm,loc_tips,locT_eq,hok,hren,hgs,eA]<;>rfl,?_,?_,fun x en s hq=> ?_⟩
   all_goals first|exact hq|omega
  ·have hold:=leL_old size p ps i (by omega) (by omega)
   rw [if_neg q] at hgs
   have h1g:1≤gN p i:=by omega
   have g1:=shS_get hll h1g
   have g2:=getI (leL size p ps i) (p.getD i 0) (by omega)
   rw [leL_get size p ps i _ (by omega)] at g2
   have hset:=shS_set hll h1g (l2:=leL size p ps (i+1)) (by rw [hll2,hgs])
   have hw:=wrap64 (size-ldF p ps (p.getD i 0) i-ps.getD i 0) (by omega) (by omega)
   have eA:=shA_ne h1g
   have n2:(((p.getD i 0:Nat):Int)=((gN p i:Nat):Int))=False:=eF (by omega)
   have n3:(((p.getD i 0:Nat):Int)<((gN p i:Nat):Int))=True:=eT (by omega)
   have n4:(p.getD i 0+1≤gN p i)=True:=eT (by omega)
   rw [eA] at hln⊢
   generalize p.getD i 0=x at*
   generalize gN p i=g at*
   simp only [go_sem,lp58_0,hlt,hs,hx,hy,n0,n1,n2,n3,n4,hln,g1,g2,hold,hset,hw,hll,nn_,lm_]
   refine ⟨(i+1),by simp only [go_sem,ren1_locm,loc_tips,locT_eq,hok,hren,hgs,eA]<;>rfl,?_,?_,fun x en s hq=> ?_⟩
   all_goals first|exact hq|omega
 ·have hlt:((i:Int)<(n:Int))=False:=eF (by omega)
  obtain rfl:i=n:=by omega
  simp only [go_sem,lp58_0,hlt]
theorem gN_pos (p:List Nat)(hr:rgs p 0)(n:Nat)(hn:1≤n)(hpl:p.length=n):1≤gN p n:=by
 have:=gN_lt p hr n 0 (by omega) (by omega)
 omega
theorem c58 (size:Int)(hsz:1≤size∧size≤24)(ps:List Int)(n:Nat)(hl:ps.length=n)(hn:1≤n∧n≤8)(hps: ∀x∈ps,1≤x∧x≤size)(p:List Nat)(hpl:p.length=n)(hr:rgs p 0)(hld: ∀x,x<gN p n→ldF p ps x n≤size)(st:St):
  ∃v,run L 58 [I size,sl 1 true (ps.map I),sl 1 true (p.map J)] st=some (.tup [v,I 0],st):=by
 have h56:=fun st=>c56 size hsz true ps (by omega) hps st
 have hk:=gN_pos p hr n hn.1 hpl
 have hle: ∀y∈leL size p ps n,0≤y:=fun y hy=>by
  obtain ⟨x,hx,rfl⟩:=List.mem_map.1 hy
  have:=hld x (List.mem_range.1 hx)
  omega
 have hll:=leL_len size p ps n
 have h112:=c112r ⟨shS (leL size p ps n),[]⟩ 120 rfl [] (gN p n-1) (leL size p ps n) (by have:=gN_i p n;omega) (shS_get hll hk) (fun _=>false) (fun y hy=>c120 y (hle y hy) _)
 rw [show ((leL size p ps n).any fun _=>false)=false by simp,hll] at h112
 have eA:=shA_ne hk
 refine ⟨fin ⟨shS (leL size p ps n),[]⟩ (.rsl (gN p n-1) 0 (gN p n) (gN p n) 1 false),?_⟩
 rw [run_pure (fn:=ir58) rfl rfl]
 simp only [ir58,go_sem,h56,lm_,hl,hpl]
 generalize hg:lim (headed pure (run L) true _ lp58_0 _ _) _ _=o
 obtain ⟨x,en,s,rfl,h2⟩: ∃x en s,o=some (x,en,s)∧_:=by rw [←hg];exact loop58 size hsz ps n hl hn.2 hps p hpl hr 0 (Nat.zero_le _) _ _ (by simp only [go_sem,Int.natCast_zero]<;>rfl)
 clear hg
 obtain ⟨rfl,g9,rfl⟩:=h2
 rw [eA] at g9
 simp only [go_sem,g9,h112]
theorem c38 (size:Int)(hsz:1≤size∧size≤24)(ps:List Int)(n:Nat)(hl:ps.length=n)(hn:1≤n∧n≤8)(hps: ∀x∈ps,1≤x∧x≤size)(p:List Nat)(hpl:p.length=n)(hr:rgs p 0)(hld: ∀x,x<gN p n→ldF p ps x n≤size)(st:St):
  run L 38 [I size,sl 1 true (ps.map I),sl 1 true (p.map J)] st=some (I 0,st):=by
 rw [run_pure (fn:=ir38) rfl rfl]
 obtain ⟨v,h58⟩:=c58 size hsz ps n hl hn hps p hpl hr hld ⟨[],[]⟩
 simp only [ir38,go_sem,h58]
theorem tidF_M: ∀(os met:List Int),∃M,met<+:M∧∀j,j<os.length→M[(tidF os met).getD j 0]? =some (os.getD j 0)
 | [],met=>⟨met,List.prefix_refl _,fun j hj=>by simp at hj⟩
 |s::r,met=>by
  by_cases h:s∈met
  ·obtain ⟨M,hM,hj⟩:=tidF_M r met
   refine ⟨M,hM,fun j hj2=> ?_⟩
   have e:tidF (s::r) met=(indexOf s met 0).toNat::tidF r met:=by simp only [tidF];rw [if_pos h]
   rw [e]
   cases j with
   |zero=>
    obtain ⟨k,g1,g2,g3⟩:=indexOf_at s met 0 h
    rw [List.getD_cons_zero,List.getD_cons_zero,g2,Int.toNat_natCast,Nat.zero_add]
    obtain ⟨u,rfl⟩:=hM
    rw [List.getElem?_append_left g1];exact g3
   |succ j=>rw [List.getD_cons_succ,List.getD_cons_succ];exact hj j (by simpa using hj2)
  ·obtain ⟨M,hM,hj⟩:=tidF_M r (met++ [s])
   refine ⟨M,List.IsPrefix.trans (List.prefix_append _ _) hM,fun j hj2=> ?_⟩
   have e:tidF (s::r) met=met.length::tidF r (met++ [s]):=by simp only [tidF];rw [if_neg h]
   rw [e]
   cases j with
   |zero=>
    rw [List.getD_cons_zero,List.getD_cons_zero]
    obtain ⟨u,rfl⟩:=hM
    rw [List.append_assoc,List.getElem?_append_right (Nat.le_refl _)];simp
   |succ j=>rw [List.getD_cons_succ,List.getD_cons_succ];exact hj j (by simpa using hj2)
theorem fit_plan {size:Int} {ps:List Int} {n:Nat} {od:List Nat} {o lf:List Int} (hF:FitInv size ps n od o lf)(hod: ∀j,j<n→j∈od)(hps: ∀j,j<n→0≤ps.getD j 0)(x:Nat)(hx:x<gN (tidF o []) n):ldF (tidF o []) ps x n≤size:=by
 have hol:=hF.len
 have hpl:=tidF_len o []
 obtain ⟨M,_,hM⟩:=tidF_M o []
 have hxm:x∈tidF o []:=by
  have:=rgs_all (tidF o []) 0 x (Nat.zero_le _)
  refine this ?_
  unfold gN at hx
  rwa [List.take_of_length_le (by omega)] at hx
 obtain ⟨j,hj,hjx⟩:=List.getElem_of_mem hxm
 have hjn:j<n:=by omega
 have e1:(tidF o []).getD j 0=x:=by rw [←hjx];simp [List.getD_eq_getElem?_getD,hj]
 have m1:=hM j (by omega)
 rw [e1] at m1
 obtain ⟨b1,b2⟩:=hF.yes j hjn (hod j hjn)
 obtain ⟨s,hs⟩: ∃s:Nat,o.getD j 0=(s:Int):=⟨(o.getD j 0).toNat,by omega⟩
 rw [hs] at m1 b2
 have hsum:=hF.sum s (by omega)
 have hpos:=hF.pos s (by omega)
 have hle:ldF (tidF o []) ps x n≤loadF n o ps (s:Int):=by
  unfold ldF loadF
  refine sum_mono _ _ n fun i hi=> ?_
  have:=hps i hi
  by_cases q:(tidF o []).getD i 0=x
  ·have m2:=hM i (by omega)
   rw [q,m1] at m2
   rw [if_pos q,if_pos (Option.some.inj m2).symm];exact Int.le_refl _
  ·rw [if_neg q];split<;>omega
 omega
attribute [local go_sem] m_ x_ l_ k_ o_ t_ a_ s_ q_ b_ c_ u_ g_ okRef_tip storable_tip shaped_tip cells_tip isAgg_tip
abbrev B8 (n:Int):AV:=.v (.int .u8 n)
def Byte (n:Int):Prop:=0≤n∧n≤255
theorem okRefsB (n:Nat)(xs:List Int):okRefs n (xs.map B8)=true:=okRefs_map B8 n (fun _=>rfl) xs
theorem renCellsB (n:Nat)(tips:List Nat)(acc:List (Nat×Nat))(xs:List Int):renCells n tips acc (xs.map B8)=(xs.map B8,acc):=renCells_map B8 n tips (fun _ _=>rfl) xs acc
theorem pubsB (xs:List Int):pubs (xs.map B8)=xs.map B8:=pubs_map B8 (fun _=>rfl) xs
theorem storableB (xs:List Int):(xs.map B8).all storable=true:=by
 rw [List.all_eq_true];intro x hx;rw [List.mem_map] at hx;obtain ⟨n,_,rfl⟩:=hx;rfl
theorem refsL_B (n:Nat)(xs:List Int)(acc:List Nat):refsL n acc (xs.map B8)=acc:=refsL_kind n (fun n=>Value.int .u8 n) xs acc
theorem mapLs_B (n:Nat)(M:List Nat)(xs:List Int):mapLs n M (xs.map B8)=xs.map B8:=mapLs_kind n M (fun n=>Value.int .u8 n) xs
def lnF (s:Int) (zs:List Int) (i:Nat):List Int:=(zs.take i).map fun x=>1+x % s
theorem lnF_len (s:Int)(zs:List Int)(i:Nat)(h:i≤zs.length):(lnF s zs i).length=i:=by simp [lnF];omega
theorem lnF_bd (s:Int)(hs:1≤s)(zs:List Int)(i:Nat): ∀x∈lnF s zs i,1≤x∧x≤s:=fun x hx=>by
 obtain ⟨y,_,rfl⟩:=List.mem_map.1 hx
 have h1:=Int.emod_nonneg y (show s≠0 by omega)
 have h2:=Int.emod_lt_of_pos y (show 0<s by omega)
 omega
theorem loop7_0 (sz:Int)(hs1:1≤sz∧sz≤24)(n:Nat)(hn:n≤8)(zs:List Int)(hz:zs.length=8)(hzb: ∀x∈zs,Byte x)(i:Nat)(o:Option Nat)(T:List Nat)(hok:i≤n∧tipOk o i T)(env:Env)(st:St)
  (hg:gcAV true 1 0 (canon env [7,8,9,38,39,40]) st=([(7,I sz),(8,J n),(9,tipX 1 o ((lnF sz zs i).map I)),(38,.rsl 0 0 n 8 1 false),(39,J n),(40,J i)],⟨[zs.map B8],T⟩)):
  ∃x_1 en s,lim (headed pure (run L) true [7,8,9,38,39,40] lp7_0 1 0) env st=some (x_1,en,s)∧(x_1=.exit 0∧en.get 7=I sz∧en.get 8=J n∧en.get 3000000=.any∧∃o T,en.get 9=tipX 1 o ((lnF sz zs n).map I)∧tipOk o n T∧s=⟨[zs.map B8],T⟩):=by
 refine loop_wp (α:=Nat×Option Nat×List Nat) (fun ⟨i,o,T⟩=>n-i) (fun ⟨i,o,T⟩=>i≤n∧tipOk o i T) (fun ⟨i,o,T⟩=>([(7,I sz),(8,J n),(9,tipX 1 o ((lnF sz zs i).map I)),(38,.rsl 0 0 n 8 1 false),(39,J n),(40,J i)],⟨[zs.map B8],T⟩)) (fun ⟨i,o,T⟩ x_1 en s=>x_1=.exit 0∧en.get 7=I sz∧en.get 8=J n∧en.get 3000000=.any∧∃o T,en.get 9=tipX 1 o ((lnF sz zs n).map I)∧tipOk o n T∧s=⟨[zs.map B8],T⟩) (fun ⟨i,o,T⟩ hok=> ?_) ⟨i,o,T⟩ hok env st hg
 simp only at hok
 obtain ⟨h1,k1⟩:=hok
 dsimp only at h1 k1⊢
 by_cases h:i<n
 ·have hs:=succ64 i (by omega)
  have hlt:((i:Int)<(n:Int))=True:=eT (by omega)
  have hi8:(i+1≤8)=True:=eT (by omega)
  have hl8:(zs.map B8).length=8:=by simpa using hz
  have hg:(zs.map B8)[i]? =some (B8 (zs[i]'(by omega))):=by simp [show i<zs.length by omega]
  have hb:=hzb (zs[i]'(by omega)) (List.getElem_mem _)
  have hln:lnF sz zs (i+1)=lnF sz zs i++ [1+(zs[i]'(by omega)) % sz]:=by
   unfold lnF
   rw [List.take_succ_eq_append_getElem (by omega),List.map_append];rfl
  have hll:=lnF_len sz zs i (by omega)
  have hll2:=lnF_len sz zs (i+1) (by omega)
  generalize zs[i]'(by omega)=x at*
  unfold Byte at hb
  have ht:=Int.tmod_eq_emod_of_nonneg (b:=sz) hb.1
  have w0:=wrap64 x (by omega) (by omega)
  have m1:=Int.emod_nonneg x (show sz≠0 by omega)
  have m2:=Int.emod_lt_of_pos x (show 0<sz by omega)
  have w1:=wrap64 (1+x % sz) (by omega) (by omega)
  have s0:(sz=0)=False:=eF (by omega)
  have happ:=fun S=>append_tipm 1 I o (lnF sz zs i) (1+x % sz) S T (by rw [hll];exact k1) (by omega)
  rw [←hln,hll] at happ
  have a1:=apOk o i T (i+1) k1 (by omega)
  have hr:=ren1_tipm 0 1 (apT o T (i+1)) [] I (apI o T) (lnF sz zs (i+1)) (by rw [hll2];exact a1) (fun _ _ _ p hp=>by simp at hp)
  have hre:=reOk 0 (apT o T (i+1)) [] _ (apI o T) (i+1) a1 (Nat.zero_le _) (List.prefix_refl _)
  rw [hll2] at hr
  simp only [go_sem,lp7_0,hlt,hi8,hl8,hg,ht,w0,w1,s0,happ,hs,nn_]
  refine ⟨(i+1,reI 0 [] (apI o T),List.take 0 (apT o T (i+1))++(reA 0 [] (apI o T) (i+1)).map fun x=>x.2),by simp only [go_sem,ren1_locm,loc_tips,locT_eq,hr,okRefsB,renCellsB]<;>rfl,?_,?_,fun x en s hq=> ?_⟩
  ·dsimp only;exact ⟨by omega,hre⟩
  ·dsimp only;omega
  ·exact hq
 ·have hlt:((i:Int)<(n:Int))=False:=eF (by omega)
  obtain rfl:i=n:=by omega
  simp only [go_sem,lp7_0,hlt]
  exact ⟨o,T,rfl,k1,rfl⟩
def gCell (hi x:Nat) (G:List Nat):AV:=.lst (.own (hi+x) G.length) 1 (G.map J)
def gCells (hi:Nat):Nat→List (List Nat)→List AV
 |_,[]=> []
 |x,G::r=>gCell hi x G::gCells hi (x+1) r
def gAcc (hi:Nat):Nat→List (List Nat)→List (Nat×Nat)
 |_,[]=> []
 |x,G::r=>(hi+x,G.length)::gAcc hi (x+1) r
theorem gCells_len (hi:Nat): ∀(x:Nat) (Gs:List (List Nat)),(gCells hi x Gs).length=Gs.length
 |_,[]=>rfl
 |x,G::r=>by simp [gCells,gCells_len hi (x+1) r]
theorem gCells_snoc (hi:Nat): ∀(x:Nat) (Gs:List (List Nat)) (G:List Nat),gCells hi x (Gs++ [G])=gCells hi x Gs++ [gCell hi (x+Gs.length) G]
 |x,[],G=>rfl
 |x,H::r,G=>by
  simp only [List.cons_append,gCells,gCells_snoc hi (x+1) r G,List.length_cons]
  rw [show x+1+r.length=x+(r.length+1) by omega]
theorem gCells_get (hi:Nat): ∀(x:Nat) (Gs:List (List Nat)) (i:Nat) (h:i<Gs.length),(gCells hi x Gs)[i]? =some (gCell hi (x+i) Gs[i])
 |x,[],i,h=>by simp at h
 |x,G::r,0,h=>rfl
 |x,G::r,i+1,h=>by
  simp only [gCells,List.getElem?_cons_succ,List.getElem_cons_succ]
  rw [gCells_get hi (x+1) r i (by simpa using h),show x+1+i=x+(i+1) by omega]
theorem gCells_set (hi:Nat): ∀(x:Nat) (Gs:List (List Nat)) (i:Nat) (G:List Nat),i<Gs.length→(gCells hi x Gs).set i (gCell hi (x+i) G)=gCells hi x (Gs.set i G)
 |x,[],i,G,h=>by simp at h
 |x,H::r,0,G,h=>rfl
 |x,H::r,i+1,G,h=>by
  simp only [gCells,List.set_cons_succ]
  rw [←gCells_set hi (x+1) r i G (by simpa using h),show x+1+i=x+(i+1) by omega]
theorem gCells_refs (hi n:Nat): ∀(x:Nat) (Gs:List (List Nat)) (acc:List Nat),refsL n acc (gCells hi x Gs)=acc
 |_,[],acc=>rfl
 |x,G::r,acc=>by simp only [gCells,gCell,refsL,refsV,gCells_refs hi n (x+1) r]
theorem gCells_map (hi n:Nat)(M:List Nat): ∀(x:Nat) (Gs:List (List Nat)),mapLs n M (gCells hi x Gs)=gCells hi x Gs
 |_,[]=>rfl
 |x,G::r=>by simp only [gCells,gCell,mapLs,mapL,gCells_map hi n M (x+1) r]
theorem gCells_ok (hi n:Nat): ∀(x:Nat) (Gs:List (List Nat)),okRefs n (gCells hi x Gs)=true
 |_,[]=>rfl
 |x,G::r=>by simp only [gCells,gCell,okRefs,okRef,gCells_ok hi n (x+1) r,Bool.and_self]
theorem gAcc_snoc (hi:Nat): ∀(x:Nat) (Gs:List (List Nat)) (G:List Nat),gAcc hi x (Gs++ [G])=gAcc hi x Gs++ [(hi+(x+Gs.length),G.length)]
 |x,[],G=>rfl
 |x,H::r,G=>by
  simp only [List.cons_append,gAcc,gAcc_snoc hi (x+1) r G,List.length_cons]
  rw [show x+1+r.length=x+(r.length+1) by omega]
theorem gAcc_lt (hi:Nat): ∀(x:Nat) (Gs:List (List Nat)) (q:Nat×Nat),q∈gAcc hi x Gs→q.1<hi+(x+Gs.length)
 |_,[],q,h=>by simp [gAcc] at h
 |x,G::r,q,h=>by
  simp only [gAcc,List.mem_cons] at h
  rcases h with rfl|h
  ·simp only [List.length_cons];omega
  ·have:=gAcc_lt hi (x+1) r q h
   simp;omega
theorem gAcc_len (hi:Nat): ∀(x:Nat) (Gs:List (List Nat)),(gAcc hi x Gs).length=Gs.length
 |_,[]=>rfl
 |x,G::r=>by simp [gAcc,gAcc_len hi (x+1) r]
theorem gAcc_snd (hi:Nat): ∀(x:Nat) (Gs:List (List Nat)),(gAcc hi x Gs).map (fun x=>x.2)=Gs.map List.length
 |_,[]=>rfl
 |x,G::r=>by simp [gAcc,gAcc_snd hi (x+1) r]
theorem gCells_ren (hi:Nat)(T0:List Nat)(h0:T0.length=hi): ∀(A r:List (List Nat)),renCells hi (T0++(A++r).map List.length) (gAcc hi 0 A) (gCells hi A.length r)=(gCells hi A.length r,gAcc hi 0 (A++r))
 |A,[]=>by simp [gCells,renCells]
 |A,G::r=>by
  have ih:=gCells_ren hi T0 h0 (A++ [G]) r
  rw [List.append_assoc,List.singleton_append,List.length_append,List.length_singleton] at ih
  have hone:ren1 hi (T0++(A++G::r).map List.length) (gAcc hi 0 A) (gCell hi A.length G)=(gCell hi A.length G,gAcc hi 0 (A++ [G])):=by
   have hget:(T0++(A++G::r).map List.length)[hi+A.length]? =some G.length:=by
    rw [List.getElem?_append_right (by omega),h0,Nat.add_sub_cancel_left];simp
   have hall:(gAcc hi 0 A).all (fun p=>p.1 !=hi+A.length)=true:=by
    rw [List.all_eq_true]
    intro q hq
    have:=gAcc_lt hi 0 A q hq
    simp;omega
   unfold gCell
   simp only [ren1]
   rw [if_neg (by omega),if_pos ⟨hget,hall⟩,gAcc_snoc,gAcc_len,Nat.zero_add,lm_]
  simp only [gCells,renCells,hone,ih]
theorem gCells_ren0 (hi:Nat)(T0:List Nat)(h0:T0.length=hi)(Gs:List (List Nat)):renCells hi (T0++Gs.map List.length) [] (gCells hi 0 Gs)=(gCells hi 0 Gs,gAcc hi 0 Gs):=by
 have:=gCells_ren hi T0 h0 [] Gs
 simpa [gAcc] using this
def grpsL (p:List Nat) (i:Nat):List (List Nat):=(List.range (gN p i)).map fun x=>grpL p x i
theorem grpsL_len (p:List Nat)(i:Nat):(grpsL p i).length=gN p i:=by simp [grpsL]
theorem grpL_none (p:List Nat)(x i:Nat)(hi:i≤p.length)(h: ∀j,j<i→p.getD j 0<x):grpL p x i=[]:=by
 unfold grpL
 rw [List.filter_eq_nil_iff]
 intro j hj
 have hj:=List.mem_range.1 hj
 have:=h j hj
 rw [List.getElem?_eq_getElem (show j<p.length by omega)]
 rw [show p.getD j 0=p[j] by simp [List.getD_eq_getElem?_getD,show j<p.length by omega]] at this
 simp;omega
theorem getD_some (p:List Nat)(i:Nat)(h:i<p.length):p[i]? =some (p.getD i 0):=by simp [List.getD_eq_getElem?_getD,h]
theorem grps_new (p:List Nat)(hr:rgs p 0)(i:Nat)(hi:i<p.length)(h:p.getD i 0=gN p i):grpsL p (i+1)=grpsL p i++ [[i]]:=by
 have hg:=gN_succ p i hi
 rw [if_pos h] at hg
 unfold grpsL
 rw [hg,List.range_succ,List.map_append]
 have hp:=getD_some p i hi
 congr 1
 ·refine List.map_congr_left fun x hx=> ?_
  have:=List.mem_range.1 hx
  rw [grpL_succ,hp,if_neg (fun e=>by have:=Option.some.inj e;omega)]
 ·simp only [List.map_cons,List.map_nil,List.cons.injEq,and_true]
  rw [grpL_succ,hp,h,if_pos rfl,grpL_none p _ i (by omega) (fun j hj=>gN_lt p hr i j (by omega) hj)];rfl
theorem grps_old (p:List Nat)(i:Nat)(hi:i<p.length)(h:p.getD i 0<gN p i):grpsL p (i+1)=(grpsL p i).set (p.getD i 0) (grpL p (p.getD i 0) i++ [i]):=by
 have hg:=gN_succ p i hi
 rw [if_neg (by omega)] at hg
 have hp:=getD_some p i hi
 apply List.ext_getElem
 ·rw [List.length_set,grpsL_len,grpsL_len,hg]
 ·intro x h1 h2
  rw [List.getElem_set]
  simp only [grpsL,List.getElem_map,List.getElem_range,grpL_succ,hp,Option.some.injEq]
  by_cases q:p.getD i 0=x
  ·subst q;simp
  ·simp only [if_neg q]
def ggA (g:Nat):AV:=if g=0 then .v (.slice none 0 0) else .rsl 1 0 g g 1 false
def ggS (cs:List AV):List (List AV):=if cs=[] then [] else [cs]
theorem ggA_ne {g:Nat} (h:1≤g):ggA g=.rsl 1 0 g g 1 false:=if_neg (by omega)
theorem ggS_ne {cs:List AV} (h:cs≠[]):ggS cs=[cs]:=if_neg h
theorem ggA_len (g:Nat):lenAV (ggA g)=some (J g):=by
 by_cases h:g=0
 ·subst h;rfl
 ·rw [ggA_ne (by omega)];rfl
theorem shaped_g (hi x:Nat)(G:List Nat):(gCell hi x G).shaped=true:=rfl
theorem cells_g (hi x:Nat)(G:List Nat):(gCell hi x G).cells=[gCell hi x G]:=rfl
theorem isAgg_g (hi x:Nat)(G:List Nat):Ev.isAgg (gCell hi x G)=false:=rfl
theorem storable_g (hi x:Nat)(G:List Nat):storable (gCell hi x G)=true:=rfl
attribute [local go_sem] m_ x_ l_ k_ o_ t_ a_ s_ q_ b_ c_ u_ g_ shaped_g cells_g isAgg_g storable_g
theorem happ_g0 (a:List AV)(T:List Nat):appendmAV 1 false (.v (.slice none 0 0)) [.v (.slice none 0 0)] ⟨[a],T⟩=some (.rsl 1 0 1 1 1 false,⟨[a,[.v (.slice none 0 0)]],T⟩):=by
 simp [appendmAV,newM,maxGrow,flatAV,AV.cells]
theorem happ_g1 (a cs:List AV)(g:Nat)(hg:cs.length=g)(h:1≤g)(h2:g≤1000)(T:List Nat):appendmAV 1 false (.rsl 1 0 g g 1 false) [.v (.slice none 0 0)] ⟨[a,cs],T⟩=some (.rsl 2 0 (g+1) (g+1) 1 false,⟨[a,[],cs++ [.v (.slice none 0 0)]],T⟩):=by
 have htk:cs.take g=cs:=List.take_of_length_le (by omega)
 simp only [appendmAV,List.getElem?_cons_succ,List.getElem?_cons_zero,List.length_cons,List.length_nil,Nat.mul_one,htk]
 rw [if_pos ⟨trivial,trivial,Nat.le_refl _,by omega,by omega⟩,if_neg (by omega),if_pos ⟨trivial,by unfold maxGrow;omega,by omega⟩]
 simp [flatAV,AV.cells]
theorem happ_cell0 (i:Nat)(S:List (List AV))(T:List Nat):appendAV 1 (.v (.slice none 0 0)) [J i] ⟨S,T⟩=some (.lst (.own T.length 1) 1 [J i],⟨S,T++ [1]⟩):=by
 have:1≤maxGrow:=by unfold maxGrow;omega
 simp [appendAV,this]
theorem happ_cell1 (hi x:Nat)(G:List Nat)(i:Nat)(S:List (List AV))(T:List Nat)(h:T[hi+x]? =some G.length)(h2:G.length≤1000):appendAV 1 (gCell hi x G) [J i] ⟨S,T⟩=some (gCell hi x (G++ [i]),⟨S,T.set (hi+x) (G.length+1)⟩):=by
 have:G.length+1≤maxGrow:=by unfold maxGrow;omega
 simp [gCell,appendAV,this,h]
theorem loop7_1 (zs:List Int)(T0:List Nat)(hi:Nat)(hT0:T0.length=hi)(n:Nat)(hn:n≤8)(p:List Nat)(hpl:p.length=n)(hr:rgs p 0)(i:Nat)(hok:i≤n)(env:Env)(st:St)
  (hg:gcAV true 1 hi (canon env [8,14,16,85,86,87,3000000]) st=([(8,J n),(14,sl 1 true (p.map J)),(16,ggA (gN p i)),(85,sl 1 true (p.map J)),(86,J n),(87,J i),(3000000,.any)],⟨zs.map B8::ggS (gCells hi 0 (grpsL p i)),T0++(grpsL p i).map List.length⟩)):
  ∃x_1 en s,lim (headed pure (run L) true [8,14,16,85,86,87,3000000] lp7_1 1 hi) env st=some (x_1,en,s)∧(x_1=.exit 2∧en.get 8=J n∧en.get 14=sl 1 true (p.map J)∧en.get 16=ggA (gN p n)∧s=⟨zs.map B8::ggS (gCells hi 0 (grpsL p n)),T0++(grpsL p n).map List.length⟩):=by
 refine loop_wp (α:=Nat) (fun i=>n-i) (fun i=>i≤n) (fun i=>([(8,J n),(14,sl 1 true (p.map J)),(16,ggA (gN p i)),(85,sl 1 true (p.map J)),(86,J n),(87,J i),(3000000,.any)],⟨zs.map B8::ggS (gCells hi 0 (grpsL p i)),T0++(grpsL p i).map List.length⟩)) (fun i x_1 en s=>x_1=.exit 2∧en.get 8=J n∧en.get 14=sl 1 true (p.map J)∧en.get 16=ggA (gN p n)∧s=⟨zs.map B8::ggS (gCells hi 0 (grpsL p n)),T0++(grpsL p n).map List.length⟩) (fun i hok=> ?_) i hok env st hg
 by_cases h:i<n
 ·have hs:=succ64 i (by omega)
  have hlt:((i:Int)<(n:Int))=True:=eT (by omega)
  have hx:=idx_sl J true p i (by omega)
  rw [show p[i]'(by omega)=p.getD i 0 by simp [List.getD_eq_getElem?_getD,show i<p.length by omega]] at hx
  have hgle:=gN_le p hr i (by omega)
  have hgi:=gN_i p i
  have hgs:=gN_succ p i (by omega)
  have hln:=ggA_len (gN p i)
  have hGl:=grpsL_len p i
  have hcl:=gCells_len hi 0 (grpsL p i)
  rw [hGl] at hcl
  have n0:(((p.getD i 0:Nat):Int)<0)=False:=eF (by omega)
  have n1:(((gN p i:Nat):Int)<((p.getD i 0:Nat):Int))=False:=eF (by omega)
  have htT: ∀X,List.take hi (T0++X)=T0:=fun X=>by rw [←hT0,List.take_left]
  by_cases q:p.getD i 0=gN p i
  ·have hnew:=grps_new p hr i (by omega) q
   rw [if_pos q] at hgs
   have hcs:=gCells_snoc hi 0 (grpsL p i) [i]
   rw [←hnew,Nat.zero_add,hGl] at hcs
   have hren:=gCells_ren0 hi T0 hT0 (grpsL p (i+1))
   have hsnd:=gAcc_snd hi 0 (grpsL p (i+1))
   have hTT:T0++(grpsL p i).map List.length++ [1]=T0++(grpsL p (i+1)).map List.length:=by rw [hnew];simp
   have eA:ggA (gN p i+1)=.rsl 1 0 (gN p i+1) (gN p i+1) 1 false:=ggA_ne (by omega)
   have eS:ggS (gCells hi 0 (grpsL p (i+1)))=[gCells hi 0 (grpsL p (i+1))]:=ggS_ne (by rw [hcs];simp)
   have hcell:gCell hi (gN p i) [i]=.lst (.own (hi+gN p i) 1) 1 [J i]:=rfl
   have hTl:(T0++(grpsL p i).map List.length).length=hi+gN p i:=by simp [hT0,hGl]
   rw [q] at hx n0 n1
   have n2:(((gN p i:Nat):Int)<((gN p i+1:Nat):Int))=True:=eT (by omega)
   by_cases q0:gN p i=0
   ·have e0:grpsL p i=[]:=List.eq_nil_of_length_eq_zero (by rw [hGl,q0])
    have hap:=happ_g0 (zs.map B8) T0
    have hce:=fun S=>happ_cell0 i S T0
    rw [hT0] at hce
    rw [q0] at hx hgs eA hln hcell hcs n2
    rw [e0] at hcs hTT
    have hfold: [AV.lst (.own hi 1) 1 [J i]]=gCells hi 0 (grpsL p (i+1)):=by rw [hcs];rfl
    simp only [List.map_nil,List.append_nil] at hTT
    have eA0:ggA 0=.v (.slice none 0 0):=rfl
    have eS0:ggS (gCells hi 0 (grpsL p i))=[]:=by rw [e0];rfl
    have hTe:T0++(grpsL p i).map List.length=T0:=by rw [e0];simp
    have n3:((0:Int)<((0+1:Nat):Int))=True:=eT (by omega)
    simp only [q0,eA0,eS0,hTe]
    simp only [go_sem,lp7_1,hlt,hs,hx,Int.natCast_zero,Int.lt_irrefl,hap,hce]
    refine ⟨(i+1),by simp only [go_sem,ren1_locm,loc_tips,locT_eq,hgs,eA,eS,hfold,hTT,hren,hsnd,htT,compact,compactW,refsEnv,refsV,refsL,refsStore,refsAt,mapEnv,mapL,mapLs,newName,posOf,mapStore,pickStore,namesOk,refsV_sl,mapL_sl,List.contains_nil,List.contains_cons,Option.getD_some,hasKey,refsL_B,mapLs_B,renCellsB,okRefsB,gCells_refs,gCells_map,gCells_ok]<;>rfl,?_,?_,fun x en s hq=> ?_⟩
    all_goals first|exact hq|omega
   ·have g1:1≤gN p i:=by omega
    have hne:gCells hi 0 (grpsL p i)≠[]:=by intro e;rw [e] at hcl;simp at hcl;omega
    have hap:=happ_g1 (zs.map B8) (gCells hi 0 (grpsL p i)) (gN p i) hcl g1 (by omega) (T0++(grpsL p i).map List.length)
    have hce:=fun S=>happ_cell0 i S (T0++(grpsL p i).map List.length)
    rw [hTl,hTT] at hce
    have hgt:(gCells hi 0 (grpsL p i)++ [AV.v (.slice none 0 0)])[gN p i]? =some (.v (.slice none 0 0)):=by
     rw [List.getElem?_append_right (by omega),hcl];simp
    have hset:(gCells hi 0 (grpsL p i)++ [AV.v (.slice none 0 0)]).set (gN p i) (.lst (.own (hi+gN p i) 1) 1 [J i])=gCells hi 0 (grpsL p (i+1)):=by
     rw [hcs,←hcell,List.set_append_right _ _ (by omega),hcl];simp
    have hl1:(gCells hi 0 (grpsL p i)++ [AV.v (.slice none 0 0)]).length=gN p i+1:=by simp [hcl]
    have eA1:=ggA_ne g1
    have eS1:=ggS_ne hne
    rw [eA1] at hln
    rw [eA1,eS1]
    generalize gN p i=g at*
    simp only [go_sem,lp7_1,hlt,hs,hx,n0,n1,n2,hln,hap,hce,hgt,hset,hl1,nn_,Int.lt_irrefl]
    refine ⟨(i+1),by simp only [go_sem,ren1_locm,loc_tips,locT_eq,hgs,eA,eS,hren,hsnd,htT,compact,compactW,refsEnv,refsV,refsL,refsStore,refsAt,mapEnv,mapL,mapLs,newName,posOf,mapStore,pickStore,namesOk,refsV_sl,mapL_sl,List.contains_nil,List.contains_cons,Option.getD_some,hasKey,refsL_B,mapLs_B,renCellsB,okRefsB,gCells_refs,gCells_map,gCells_ok]<;>rfl,?_,?_,fun x en s hq=> ?_⟩
    all_goals first|exact hq|omega
  ·have hold:=grps_old p i (by omega) (by omega)
   rw [if_neg q] at hgs
   have g1:1≤gN p i:=by omega
   have hne:gCells hi 0 (grpsL p i)≠[]:=by intro e;rw [e] at hcl;simp at hcl;omega
   have eA1:=ggA_ne g1
   have eS1:=ggS_ne hne
   have n2:(((p.getD i 0:Nat):Int)=((gN p i:Nat):Int))=False:=eF (by omega)
   have n3:(((p.getD i 0:Nat):Int)<((gN p i:Nat):Int))=True:=eT (by omega)
   have n4:(p.getD i 0+1≤gN p i)=True:=eT (by omega)
   have n5:(p.getD i 0<gN p i)=True:=eT (by omega)
   have hG:(grpsL p i)[p.getD i 0]'(by omega)=grpL p (p.getD i 0) i:=by simp [grpsL]
   have hgt:=gCells_get hi 0 (grpsL p i) (p.getD i 0) (by omega)
   rw [hG,Nat.zero_add] at hgt
   have hset:=gCells_set hi 0 (grpsL p i) (p.getD i 0) (grpL p (p.getD i 0) i++ [i]) (by omega)
   rw [←hold,Nat.zero_add] at hset
   have hTg:(T0++(grpsL p i).map List.length)[hi+p.getD i 0]? =some (grpL p (p.getD i 0) i).length:=by
    rw [List.getElem?_append_right (by omega),hT0,Nat.add_sub_cancel_left,List.getElem?_map,List.getElem?_eq_getElem (by omega),hG];rfl
   have hTs:(T0++(grpsL p i).map List.length).set (hi+p.getD i 0) ((grpL p (p.getD i 0) i).length+1)=T0++(grpsL p (i+1)).map List.length:=by
    rw [List.set_append_right _ _ (by omega),hT0,Nat.add_sub_cancel_left,hold,List.map_set];simp
   have hgl:(grpL p (p.getD i 0) i).length≤1000:=by
    have:=List.length_filter_le (fun j=>decide (p[j]? =some (p.getD i 0))) (List.range i)
    unfold grpL;rw [List.length_range] at this;omega
   have hce:=fun S=>happ_cell1 hi (p.getD i 0) (grpL p (p.getD i 0) i) i S (T0++(grpsL p i).map List.length) hTg hgl
   rw [hTs] at hce
   have hren:=gCells_ren0 hi T0 hT0 (grpsL p (i+1))
   have hsnd:=gAcc_snd hi 0 (grpsL p (i+1))
   have eS:=ggS_ne (cs:=gCells hi 0 (grpsL p (i+1))) (by
    intro e
    have:=gCells_len hi 0 (grpsL p (i+1))
    rw [e,grpsL_len,hgs] at this
    simp at this;omega)
   rw [eA1] at hln
   rw [eA1,eS1]
   clear hG
   generalize gN p i=g at*
   generalize p.getD i 0=x at*
   simp only [go_sem,lp7_1,hlt,hs,hx,n0,n1,n2,n3,n4,n5,hln,hce,hgt,hset,hcl,nn_]
   refine ⟨(i+1),by simp only [go_sem,ren1_locm,loc_tips,locT_eq,hgs,eA1,eS,hren,hsnd,htT,compact,compactW,refsEnv,refsV,refsL,refsStore,refsAt,mapEnv,mapL,mapLs,newName,posOf,mapStore,pickStore,namesOk,refsV_sl,mapL_sl,List.contains_nil,List.contains_cons,Option.getD_some,hasKey,refsL_B,mapLs_B,renCellsB,okRefsB,gCells_refs,gCells_map,gCells_ok]<;>rfl,?_,?_,fun x en s hq=> ?_⟩
   all_goals first|exact hq|omega
 ·have hlt:((i:Int)<(n:Int))=False:=eF (by omega)
  obtain rfl:i=n:=by omega
  simp only [go_sem,lp7_1,hlt]
abbrev gLst (G:List Nat):AV:=.lst .any 1 (G.map J)
theorem gCells_pubs (hi:Nat): ∀(x:Nat) (Gs:List (List Nat)),pubs (gCells hi x Gs)=Gs.map gLst
 |_,[]=>rfl
 |x,G::r=>by simp only [gCells,gCell,pubs,pub,List.map_cons,gCells_pubs hi (x+1) r]
theorem frzVs_by (l:Nat)(cs:List AV)(xs:List Int):frzVs l cs (xs.map B8)=xs.map B8:=by
 induction xs with
 |nil=>rfl
 |cons x r ih=>simp only [List.map_cons,frzVs,frzV,ih]
theorem frzE_get (l:Nat)(cs:List AV): ∀(e:Env) (t:Nat),(frzEnv l cs e).get t=frzV l cs (e.get t)
 | [],t=>by simp only [frzEnv,Env.get,frzV]
 |(i,a)::r,t=>by
  simp only [frzEnv,Env.get]
  split
  ·rfl
  ·exact frzE_get l cs r t
theorem frz_groups (zs:List Int)(hi:Nat)(Gs:List (List Nat))(g:Nat)(hg:Gs.length=g)(h1:1≤g)(T:List Nat)(en:Env)(h16:en.get 16=.rsl 1 0 g g 1 false):
  ∃env',frzAV [16] en ⟨[zs.map B8,gCells hi 0 Gs],T⟩=(env',⟨[zs.map B8,[]],T⟩)∧env'.get 16=.lst .any 1 (Gs.map gLst)∧(∀i x,en.get i=.v x→env'.get i=.v x)∧∀i g z xs,en.get i=.lst g z xs→env'.get i=.lst g z xs:=by
 subst hg
 have hne: ∃c cs,gCells hi 0 Gs=c::cs:=by
  cases Gs with
  |nil=>simp at h1
  |cons G r=>exact ⟨_,_,rfl⟩
 have hcl:=gCells_len hi 0 Gs
 have hp:=gCells_pubs hi 0 Gs
 have hgr:=groupm_one gLst (fun _=>rfl) Gs
 have hT:frzW 16 en ⟨[zs.map B8,gCells hi 0 Gs],T⟩=[1]:=by
  show frzT 16 en _=[1]
  unfold frzT
  rw [h16];rfl
 refine ⟨frzEnv 1 (gCells hi 0 Gs) en,?_,?_,fun i x h=> ?_,fun i g z xs h=> ?_⟩
 ·show frzAV [] (frzLs (frzW 16 en _) en _).1 (frzLs (frzW 16 en _) en _).2=_
  rw [hT]
  obtain ⟨c,cs,e⟩:=hne
  have hL:frzL 1 en ⟨[zs.map B8,gCells hi 0 Gs],T⟩=(frzEnv 1 (gCells hi 0 Gs) en,⟨[zs.map B8,[]],T⟩):=by
   rw [e]
   simp only [frzL,List.getElem?_cons_succ,List.getElem?_cons_zero,frzStore,frzVs_by,List.set_cons_succ,List.set_cons_zero]
  show frzAV [] (frzL 1 en _).1 (frzL 1 en _).2=_
  rw [hL];rfl
 ·rw [frzE_get,h16]
  simp only [frzV]
  rw [if_pos ⟨trivial,by rw [hcl,Nat.zero_add,Nat.mul_one];exact Nat.le_refl _,.inr trivial,Nat.le_refl _⟩,List.drop_zero,hp,hgr]
 ·rw [frzE_get,h];simp only [frzV]
 ·rw [frzE_get,h];simp only [frzV]
theorem okRefs_two (n:Nat)(nu nw:Bool)(U W:List AV):okRefs n [sl 1 nu U,sl 1 nw W]=true:=by simp only [okRefs,okRef_sl,Bool.and_self]
theorem renCells_two (n:Nat)(T:List Nat)(acc:List (Nat×Nat))(nu nw:Bool)(U W:List AV):renCells n T acc [sl 1 nu U,sl 1 nw W]=([sl 1 nu U,sl 1 nw W],acc):=by simp only [renCells,ren1_sl]
theorem loop7_2 (zs:List Int)(T:List Nat)(hi:Nat)(hT:T.length=hi)(n:Nat)(hn:n≤8)(p:List Nat)(hpl:p.length=n)(xs U W:List AV)(h43: ∀a b,a<n→b<n→∀st,run L 43 [J n,sl 1 true xs,J a,J b] st=some (.tup [I (if p.getD a 0=p.getD b 0 then 0 else 2),I 0],st))(h44: ∀a b,a<n→b<n→∀st,run L 44 [J n,.agg [sl 1 false U,sl 1 false W],J a,J b] st=some (.tup [I (if p.getD a 0=p.getD b 0 then 0 else 2),I 0],st))(i:Nat)(hi2:i<n)(k:Nat)(hok:k≤n)(env:Env)(st:St)
  (hg:gcAV true 3 hi (canon env [8,14,16,19,20,21,147,148,149,154,155,156]) st=([(8,J n),(14,sl 1 true (p.map J)),(16,sl 1 true xs),(19,.ptr 2 0),(20,J i),(21,J (p.getD i 0)),(147,sl 1 true (p.map J)),(148,J n),(149,J i),(154,sl 1 true (p.map J)),(155,J n),(156,J k)],⟨[zs.map B8,[],[sl 1 false U,sl 1 false W]],T⟩)):
  ∃x_1 en s,lim (headed pure (run L) true [8,14,16,19,20,21,147,148,149,154,155,156] lp7_2 3 hi) env st=some (x_1,en,s)∧(x_1=.exit 6∧en.get 8=J n∧en.get 14=sl 1 true (p.map J)∧en.get 16=sl 1 true xs∧en.get 19=.ptr 2 0∧en.get 147=sl 1 true (p.map J)∧en.get 148=J n∧en.get 149=J i∧s=⟨[zs.map B8,[],[sl 1 false U,sl 1 false W]],T⟩):=by
 refine loop_wp (α:=Nat) (fun k=>n-k) (fun k=>k≤n) (fun k=>([(8,J n),(14,sl 1 true (p.map J)),(16,sl 1 true xs),(19,.ptr 2 0),(20,J i),(21,J (p.getD i 0)),(147,sl 1 true (p.map J)),(148,J n),(149,J i),(154,sl 1 true (p.map J)),(155,J n),(156,J k)],⟨[zs.map B8,[],[sl 1 false U,sl 1 false W]],T⟩)) (fun k x_1 en s=>x_1=.exit 6∧en.get 8=J n∧en.get 14=sl 1 true (p.map J)∧en.get 16=sl 1 true xs∧en.get 19=.ptr 2 0∧en.get 147=sl 1 true (p.map J)∧en.get 148=J n∧en.get 149=J i∧s=⟨[zs.map B8,[],[sl 1 false U,sl 1 false W]],T⟩) (fun k hok=> ?_) k hok env st hg
 by_cases h:k<n
 ·have hs:=succ64 k (by omega)
  have hlt:((k:Int)<(n:Int))=True:=eT (by omega)
  have hx:=idx_sl J true p k (by omega)
  rw [show p[k]'(by omega)=p.getD k 0 by simp [List.getD_eq_getElem?_getD,show k<p.length by omega]] at hx
  have c43:=h43 i k hi2 h
  have c44:=h44 i k hi2 h
  have htT:List.take hi T=T:=List.take_of_length_le (by omega)
  by_cases q:p.getD i 0=p.getD k 0
  ·rw [if_pos q] at c43 c44
   rw [q] at*
   generalize p.getD k 0=x at*
   simp only [go_sem,lp7_2,hlt,hs,hx,c43,c44]
   refine ⟨(k+1),by simp only [go_sem,ren1_locm,loc_tips,locT_eq,htT,okRefsB,renCellsB,okRefs_two,renCells_two]<;>rfl,?_,?_,fun x en s hq=> ?_⟩
   all_goals first|exact hq|omega
  ·rw [if_neg q] at c43 c44
   have n1:(((p.getD i 0:Nat):Int)=((p.getD k 0:Nat):Int))=False:=eF (by omega)
   generalize p.getD k 0=x at*
   generalize p.getD i 0=y at*
   simp only [go_sem,lp7_2,hlt,hs,hx,c43,c44,n1]
   refine ⟨(k+1),by simp only [go_sem,ren1_locm,loc_tips,locT_eq,htT,okRefsB,renCellsB,okRefs_two,renCells_two]<;>rfl,?_,?_,fun x en s hq=> ?_⟩
   all_goals first|exact hq|omega
 ·have hlt:((k:Int)<(n:Int))=False:=eF (by omega)
  obtain rfl:k=n:=by omega
  simp only [go_sem,lp7_2,hlt]
theorem loop7_3 (zs:List Int)(T:List Nat)(hi:Nat)(hT:T.length=hi)(n:Nat)(hn:n≤8)(p:List Nat)(hpl:p.length=n)(xs U W:List AV)(h43: ∀a b,a<n→b<n→∀st,run L 43 [J n,sl 1 true xs,J a,J b] st=some (.tup [I (if p.getD a 0=p.getD b 0 then 0 else 2),I 0],st))(h44: ∀a b,a<n→b<n→∀st,run L 44 [J n,.agg [sl 1 false U,sl 1 false W],J a,J b] st=some (.tup [I (if p.getD a 0=p.getD b 0 then 0 else 2),I 0],st))(i:Nat)(hok:i≤n)(env:Env)(st:St)
  (hg:gcAV true 3 hi (canon env [8,14,16,19,147,148,149]) st=([(8,J n),(14,sl 1 true (p.map J)),(16,sl 1 true xs),(19,.ptr 2 0),(147,sl 1 true (p.map J)),(148,J n),(149,J i)],⟨[zs.map B8,[],[sl 1 false U,sl 1 false W]],T⟩)):
  ∃x_1 en s,lim (headed pure (run L) true [8,14,16,19,147,148,149] lp7_3 3 hi) env st=some (x_1,en,s)∧(x_1=.exit 4∧s=⟨[zs.map B8,[],[sl 1 false U,sl 1 false W]],T⟩):=by
 refine loop_wp (α:=Nat) (fun i=>n-i) (fun i=>i≤n) (fun i=>([(8,J n),(14,sl 1 true (p.map J)),(16,sl 1 true xs),(19,.ptr 2 0),(147,sl 1 true (p.map J)),(148,J n),(149,J i)],⟨[zs.map B8,[],[sl 1 false U,sl 1 false W]],T⟩)) (fun i x_1 en s=>x_1=.exit 4∧s=⟨[zs.map B8,[],[sl 1 false U,sl 1 false W]],T⟩) (fun i hok=> ?_) i hok env st hg
 by_cases h:i<n
 ·have hs:=succ64 i (by omega)
  have hlt:((i:Int)<(n:Int))=True:=eT (by omega)
  have hx:=idx_sl J true p i (by omega)
  rw [show p[i]'(by omega)=p.getD i 0 by simp [List.getD_eq_getElem?_getD,show i<p.length by omega]] at hx
  have htT:List.take hi T=T:=List.take_of_length_le (by omega)
  simp only [go_sem,lp7_3,hlt,hx,hT,hpl,lm_]
  generalize hg:lim (headed pure (run L) true _ lp7_2 _ _) _ _=o
  obtain ⟨x,en,s,rfl,h2⟩: ∃x en s,o=some (x,en,s)∧_:=by rw [←hg];exact loop7_2 zs T hi hT n hn p hpl xs U W h43 h44 i h 0 (Nat.zero_le _) _ _ (by simp only [go_sem,Int.natCast_zero,htT,okRefsB,renCellsB,okRefs_two,renCells_two]<;>rfl)
  clear hg
  obtain ⟨rfl,f8,f14,f16,f19,f147,f148,f149,rfl⟩:=h2
  simp only [go_sem,lp7_3,f8,f14,f16,f19,f147,f148,f149,hs]
  refine ⟨(i+1),by simp only [go_sem,ren1_locm,loc_tips,locT_eq,f8,f14,f16,f19,f147,f148,f149,htT,okRefsB,renCellsB,okRefs_two,renCells_two]<;>rfl,?_,?_,fun x en s hq=> ?_⟩
  all_goals first|exact hq|omega
 ·have hlt:((i:Int)<(n:Int))=False:=eF (by omega)
  obtain rfl:i=n:=by omega
  simp only [go_sem,lp7_3,hlt]
attribute [local go_sem] m_ x_ l_ k_ o_ t_ a_ s_ q_ b_ c_ u_ g_ okRef_tip storable_tip shaped_tip cells_tip isAgg_tip
theorem Lam.srt {n:Nat} {ss:List Nat} (h:Lam n ss)(hn:n≤8):Lam n (srt ss):=by
 have h8: ∀s∈ss,s<256:=fun s hs=>h.lt8 hn hs
 have hp:=srt_perm h8
 exact ⟨fun s hs=>h.lt s (hp.mem_iff.1 hs),fun s hs=>h.ne s (hp.mem_iff.1 hs),fun s hs=>h.even s (hp.mem_iff.1 hs),hp.nodup_iff.2 h.nd,fun s hs t ht=>h.ag s (hp.mem_iff.1 hs) t (hp.mem_iff.1 ht)⟩
theorem lam_cl {n:Nat} {ss:List Nat} (h:Lam n ss):clP ss 0=none:=by
 rw [clP_none,List.pairwise_iff_getElem]
 intro i j hi hj _
 exact h.ag _ (List.getElem_mem hi) _ (List.getElem_mem hj)
theorem grp_tM {n:Nat} {p:List Nat} (hpl:p.length=n)(hn:1≤n∧n≤8)(hr:rgs p 0)(h1:1≤gN p n):AV.lst .any 1 ((grpsL p n).map gLst)=sl 1 true ((gpX p (gN p n)).map tM):=by
 have hne:(gpX p (gN p n)).map tM≠[]:=by
  intro e
  have:=congrArg List.length e
  simp [gpX] at this;omega
 rw [sl_ne hne]
 congr 1
 unfold grpsL gpX
 rw [List.map_map,List.map_map]
 refine List.map_congr_left fun x hx=> ?_
 have hx:=List.mem_range.1 hx
 have hm:=memb_mk x p n hpl hn.2
 show gLst (grpL p x n)=tAV (memb (mkR x p))
 rw [hm]
 unfold tAV
 have hg:grpL p x n≠[]:=by
  have hxm:x∈p:=by
   refine rgs_all p 0 x (Nat.zero_le _) ?_
   unfold gN at hx
   rwa [List.take_of_length_le (by omega)] at hx
  obtain ⟨j,hj,e⟩:=List.getElem_of_mem hxm
  intro e2
  have:j∈grpL p x n:=by
   unfold grpL
   rw [List.mem_filter]
   exact ⟨List.mem_range.2 (by omega),by rw [List.getElem?_eq_getElem hj,e];simp⟩
  rw [e2] at this;simp at this
 rw [sl_ne (by intro e;simp at e;exact hg e),List.map_map];rfl
theorem c7n (sz:Int)(n:Nat)(hs1:1≤sz∧sz≤24)(hn:3≤n∧n≤8)(a b:Int)(ha:Byte a)(hb:Byte b)(ea:1+a % 24=sz)(eb:3+b % 6=(n:Int))(zs:List Int)(hz:zs.length=8)(hzb: ∀x∈zs,Byte x)(st:St):
  run L 7 [B8 a,B8 b,.agg (zs.map B8)] st=some (B true,st):=by
 rw [run_pure (fn:=ir7) rfl rfl]
 unfold Byte at ha hb
 have wa:=wrap64 a (by omega) (by omega)
 have wb:=wrap64 b (by omega) (by omega)
 have ta:a.tmod 24=a % 24:=Int.tmod_eq_emod_of_nonneg ha.1
 have tb:b.tmod 6=b % 6:=Int.tmod_eq_emod_of_nonneg hb.1
 have wn:=wrap64 (n:Int) (by omega) (by omega)
 have wk:=wrap64 sz (by omega) (by omega)
 have hl8:(zs.map B8).length=8:=by simpa using hz
 have hpb:=pubsB zs
 have hst:=storableB zs
 have hsl:sliceaAV 8 1 false (.ptr 0 0) none (some (J n)) none=some (.rsl 0 0 n 8 1 false):=by
  have:n≤8:=hn.2
  simp [sliceaAV,natOr,natOf,this]
 simp only [ir7,go_sem,wa,wb,ta,tb,ea,eb,wn,wk,hpb,hst,hsl]
 generalize hg:lim (headed pure (run L) true _ lp7_0 _ _) _ _=o
 obtain ⟨x,en,s,rfl,h2⟩: ∃x en s,o=some (x,en,s)∧_:=by rw [←hg];exact loop7_0 sz hs1 n hn.2 zs hz hzb 0 none [] ⟨Nat.zero_le _,rfl⟩ _ _ (by simp only [go_sem,Int.natCast_zero,okRefsB,renCellsB]<;>rfl)
 clear hg
 obtain ⟨rfl,g7,g8,g3m,o,T,g9,ho,rfl⟩:=h2
 have hll:=lnF_len sz zs n (by omega)
 have hlb:=lnF_bd sz hs1.1 zs n
 generalize lnF sz zs n=ps at*
 have hpub:pub (tipX 1 o (ps.map I))=sl 1 true (ps.map I):=pub_tip 1 o (ps.map I) (T:=T) (by simpa [hll] using ho)
 have hod:=ordF_perm ps
 rw [hll] at hod
 have h36:=fun st=>c36 sz hs1 ps n hll (by omega) hlb st
 have h36': ∀st,run L 36 [I sz,tipX 1 o (ps.map I)] st=some (.tup [sl 1 false ((ordF ps).map J),I 0],st):=fun st=>(run_args (fn:=ir36) rfl rfl st (by simp only [pubs,pub,hpub,pub_sl])).trans (h36 st)
 have hol:(ordF ps).length=n:=by rw [hod.length_eq,List.length_range]
 have hor: ∀x∈ordF ps,x<n:=fun x hx=>List.mem_range.1 (hod.mem_iff.1 hx)
 have hnd:(ordF ps).Nodup:=hod.nodup_iff.2 List.nodup_range
 have hall: ∀j,j<n→j∈ordF ps:=fun j hj=>hod.mem_iff.2 (List.mem_range.2 hj)
 obtain ⟨oo,lf,hF,h37⟩:=c37 sz hs1 ps n hll (by omega) hlb false (ordF ps) hol hor hnd ⟨[],[]⟩
 have hol2:=hF.len
 have hps0: ∀j,j<n→0≤ps.getD j 0:=fun j hj=>by
  have e:ps.getD j 0=ps[j]'(by omega):=by simp [List.getD_eq_getElem?_getD,show j<ps.length by omega]
  have:=hlb _ (List.getElem_mem (l:=ps) (n:=j) (by omega))
  omega
 have hld:=fun x hx=>fit_plan hF hall hps0 x hx
 have hpl:(tidF oo []).length=n:=by rw [tidF_len,hol2]
 have hr:rgs (tidF oo []) 0:=tidF_rgs oo []
 generalize tidF oo []=p at*
 have h37': ∀st,run L 37 [I sz,tipX 1 o (ps.map I),sl 1 false ((ordF ps).map J)] st=some (.tup [sl 1 true (p.map J),I 0],st):=fun st=>(run_args (fn:=ir37) rfl rfl st (by simp only [pubs,pub,hpub,pub_sl])).trans (run_any' (fn:=ir37) rfl rfl h37 st)
 have h38:=fun st=>c38 sz hs1 ps n hll (by omega) hlb p hpl hr hld st
 have h38': ∀st,run L 38 [I sz,tipX 1 o (ps.map I),sl 1 true (p.map J)] st=some (I 0,st):=fun st=>(run_args (fn:=ir38) rfl rfl st (by simp only [pubs,pub,hpub,pub_sl])).trans (h38 st)
 have hE1:ggA (gN p 0)=.v (.slice none 0 0):=rfl
 have hE2:ggS (gCells T.length 0 (grpsL p 0))=[]:=rfl
 have hE3:(grpsL p 0).map List.length=[]:=rfl
 have htT:List.take T.length T=T:=List.take_length
 have hk1:=gN_pos p hr n (by omega) hpl
 have hk8:=gN_i p n
 simp only [go_sem,g7,g8,g9,h36',h37',h38',lm_,hpl]
 generalize hg:lim (headed pure (run L) true _ lp7_1 _ _) _ _=o
 obtain ⟨x,en,s,rfl,h2⟩: ∃x en s,o=some (x,en,s)∧_:=by rw [←hg];exact loop7_1 zs T T.length rfl n hn.2 p hpl hr 0 (Nat.zero_le _) _ _ (by simp only [go_sem,g8,g3m,hE1,hE2,hE3,htT,Int.natCast_zero,compact,compactW,refsEnv,refsV,refsL,refsStore,refsAt,mapEnv,mapL,mapLs,newName,posOf,mapStore,pickStore,namesOk,refsV_sl,mapL_sl,List.contains_nil,List.contains_cons,Option.getD_some,hasKey,refsL_B,mapLs_B,renCellsB,okRefsB]<;>rfl)
 clear hg
 obtain ⟨rfl,f8,f14,f16,rfl⟩:=h2
 rw [ggA_ne hk1] at f16
 have hGl:=grpsL_len p n
 have hcne:gCells T.length 0 (grpsL p n)≠[]:=by
  intro e
  have:=gCells_len T.length 0 (grpsL p n)
  rw [e,hGl] at this;simp at this;omega
 rw [ggS_ne hcne]
 obtain ⟨env',hfz,e16,ev,el⟩:=frz_groups zs T.length (grpsL p n) (gN p n) hGl hk1 (T++(grpsL p n).map List.length) en f16
 have e8:=ev 8 _ f8
 have hpne:p.map J≠[]:=by intro e;have:=congrArg List.length e;simp [hpl] at this;omega
 rw [sl_ne hpne] at f14
 have e14:=el 14 _ _ _ f14
 rw [grp_tM hpl (by omega) hr hk1] at e16
 rw [←sl_ne (nl:=true) hpne] at e14
 have hXl:(gpX p (gN p n)).length=gN p n:=by simp [gpX]
 have h39:=c39
 generalize hT2:T++(grpsL p n).map List.length=T2 at*
 by_cases hk3:gN p n<3
 ·have q3:(((gN p n:Nat):Int)<3)=True:=eT (by omega)
  simp only [go_sem,code_frz,hfz,e16,len_sl,lm_,hXl,q3,h39]
 ·have q3:(((gN p n:Nat):Int)<3)=False:=eF (by omega)
  have h2n:2^n≤256:=Nat.pow_le_pow_right (n:=2) (by decide) hn.2
  have hk:cntG p 0=gN p n:=by unfold gN;rw [List.take_of_length_le (by omega)]
  have h3:3≤gN p n:=by omega
  have hX: ∀v∈gpX p (gN p n),v<2^n∧v≠0∧v≠2^n-1:=fun v hv=>by
   obtain ⟨x,hx,rfl⟩:=List.mem_map.1 hv
   exact gp_good hn hpl hr hk h3 (List.mem_range.1 hx)
  have hlam:=gp_lam hn hpl hr hk h3
  have hXd:=hlam.nd
  have hX13:(gpX p (gN p n)).length≤13:=by rw [hXl];omega
  have hcl:=lam_cl hlam
  have h40:=fun st=>c40 n (by omega) hn.2 true (gpX p (gN p n)) hX hXd hX13 hcl st
  have h41:=fun st=>c41 n (by omega) hn.2 true (gpX p (gN p n)) hX hXd hX13 st
  rw [hcl] at h41
  have h42:=fun st=>c42 n (by omega) hn.2 true (gpX p (gN p n)) hX hXd hX13 st
  have hpart: ∀x y,x<n→y<n→((gpX p (gN p n)).map (smlN n)).countP (xorN x y)=if p.getD x 0=p.getD y 0 then 0 else 2:=fun x y hx hy=>gp_parted hn hpl hr hk h3 hx hy
  have h43: ∀x y,x<n→y<n→∀st,run L 43 [J n,sl 1 true ((gpX p (gN p n)).map tM),J x,J y] st=some (.tup [I (if p.getD x 0=p.getD y 0 then 0 else 2),I 0],st):=fun x y hx hy st=>by
   rw [c43 n (by omega) hn.2 true (gpX p (gN p n)) hX hXd hX13 x y hx hy st,hpart x y hx hy]
   split<;>rfl
  generalize gpX p (gN p n)=XX at*
  have hss8: ∀s∈XX.map (smlN n),s<256:=fun s hs=>hlam.lt8 hn.2 hs
  have hssl:(XX.map (smlN n)).length≤13:=by rw [lm_];exact hX13
  generalize XX.map (smlN n)=ss at*
  have hlam2:=hlam.srt hn.2
  have htree:=grow_tree hn.2 hlam2
  have hsl2:=srt_len hss8
  have hso:=srt_sorted ss
  have hread:=tree_read hn.2 hlam2 htree (by omega) hso
  have hUl:=htree.ul
  have hAl:=htree.al
  have tU:=tree_U hn.2 hlam2 htree
  have tA:=tree_A hn.2 hlam2 htree
  have tE:=tree_end hn.2 hlam2 htree
  have hft:=fun x y hx hy=>far_tree hn.2 hlam2 htree (a:=x) (b:=y) hx hy
  generalize growN (srt ss) n (ordG (srt ss))=UW at*
  obtain ⟨Us,W⟩:=UW
  dsimp only at hread hUl hAl tU tA tE hft
  have hr0:(readN Us W).1=0:=by rw [hread]
  have h44: ∀x y:Nat,x<n→y<n→∀st,run L 44 [J n,.agg [sl 1 false (Us.map J),sl 1 false (W.map J)],J x,J y] st=some (.tup [I (if p.getD x 0=p.getD y 0 then 0 else 2),I 0],st):=by
   intro x y hx hy st
   have:=c44 n (by omega) hn.2 false false Us W tU tA (by omega) hAl tE hr0 x y hx hy st
   rw [hft x y hx hy,(srt_perm hss8).countP_eq,hpart x y hx hy] at this
   rw [this]
   split<;>rfl
  have hut:treeA (Us,W)=.agg [sl 1 false (Us.map J),sl 1 false (W.map J)]:=rfl
  rw [hut] at h40
  have hw:whyA none=.tup [I 0,I 0,I 13]:=rfl
  rw [hw] at h41
  have htT2:List.take T2.length T2=T2:=List.take_length
  simp only [go_sem,code_frz,hfz,e8,e14,e16,len_sl,lm_,hXl,q3,h40,h41,h42,hpl]
  generalize hg:lim (headed pure (run L) true _ lp7_3 _ _) _ _=o
  obtain ⟨x,en,s,rfl,h2⟩: ∃x en s,o=some (x,en,s)∧_:=by rw [←hg];exact loop7_3 zs T2 T2.length rfl n hn.2 p hpl (XX.map tM) (Us.map J) (W.map J) h43 h44 0 (Nat.zero_le _) _ _ (by simp only [go_sem,e8,e14,e16,htT2,okRefsB,renCellsB,okRefs_two,renCells_two,Int.natCast_zero]<;>rfl)
  clear hg
  obtain ⟨rfl,rfl⟩:=h2
  simp only [go_sem,h39]
theorem c7 (a b:Int)(ha:Byte a)(hb:Byte b)(zs:List Int)(hz:zs.length=8)(hzb: ∀x∈zs,Byte x)(st:St):run L 7 [B8 a,B8 b,.agg (zs.map B8)] st=some (B true,st):=by
 have m1:=Int.emod_nonneg a (show (24:Int)≠0 by omega)
 have m2:=Int.emod_lt_of_pos a (show (0:Int)<24 by omega)
 have m3:=Int.emod_nonneg b (show (6:Int)≠0 by omega)
 have m4:=Int.emod_lt_of_pos b (show (0:Int)<6 by omega)
 obtain ⟨n,hn⟩: ∃n:Nat,3+b % 6=(n:Int):=⟨(3+b % 6).toNat,by omega⟩
 exact c7n (1+a % 24) n (by omega) (by omega) a b ha hb rfl hn zs hz hzb st
end Go.Proofs.YtdnjagnechibhaaGreatDoor.Vm
namespace Go.Proofs.YtdnjagnechibhaaGreatDoor.Vm
open Go Go.Ev Go.ChangeShapes Go.WideShapes Go.ChangeAt Go.RowKit
set_option maxRecDepth 100000
set_option maxHeartbeats 4000000
attribute [local go_sem] m_ x_ l_ k_ o_ t_ a_ s_ q_ b_ c_ u_ g_ cells_any storable_any ren1_any shaped_ptr cells_ptr storable_ptr ren1_ptr shaped_eptr cells_eptr storable_eptr ren1_eptr shaped_rsl cells_rsl storable_rsl ren1_rsl shaped_int cells_int storable_int ren1_int shaped_bool cells_bool storable_bool ren1_bool shaped_nils cells_nils storable_nils ren1_nils shaped_lst cells_lst storable_lst shaped_fn cells_fn storable_fn ren1_fn shaped_ifc cells_ifc storable_ifc ren1_ifc shaped_agg cells_agg storable_agg ren1_agg shaped_tup cells_tup storable_tup ren1_tup shaped_nif cells_nif storable_nif ren1_nif ren1_lany ren1_lfull ren1_lown len_lst len_rsl len_nil load_ptr load_eptr isRsl_lst isRsl_nil isRsl_rsl elems_nil elems_lst elems_sl isRsl_sl body_eq bodyK_normal bodyK_ret resK_some leaveK_some only_some code_skip code_exit code_ret code_ops code_seq code_cond code_block seqK_normal seqK_ret seqK_exit condK_true condK_false blockK_normal blockK_ret blockK_exit opsK_some ops_nil ops_cons wantK_true wantK_false stepK_some pubs pub pub_sl params okRef_loc storable_loc shaped_loc cells_loc isRsl_loc elems_loc len_loc untips untip untip_sl wantedAV setElems withO isAgg_v isAgg_agg isAgg_lst isAgg_ptr isAgg_fn isAgg_ifc isAgg_rsl isAgg_sl isAgg_loc List.replicate_succ List.replicate_zero opAV valAV aval avals ofVal Env.get setD canon gcAV renAll renEnv renStore renCells ren1_sl cutSt okEnv okStore okRefs okRef okRef_sl bin_int bin_bool bin_lst bin_rsl bin_nil bin_agg cellsEq cellEq isShift intOp boolOp min_int max_int beq_int bne resAV tupAV leave_eq fin_sl fin_loc fins fin_v fin_lst fin_agg fin_tup fin_fn storeAV readCells putCells cells_sl shaped_sl storable_sl fieldAddrAV len_sl goI List.getElem?_cons_zero List.getElem?_cons_succ List.getElem?_nil Option.bind_some Option.map_some List.length_cons List.length_nil List.all_cons List.all_nil Bool.and_true Bool.true_and Bool.and_false Bool.false_and and_true true_and and_false false_and Bool.false_eq_true List.set_cons_zero List.set_cons_succ List.append_nil List.nil_append List.cons_append List.take_zero List.take_succ_cons List.take_nil List.drop_zero List.drop_succ_cons List.map_cons List.map_nil decide_true decide_false beq_self_eq_true Bool.not_true Bool.not_false or_true true_or or_false false_or Nat.zero_add Nat.add_zero Nat.le_refl Nat.lt_irrefl decide_eq_true_eq eq_self_iff_true not_true_eq_false not_false_eq_true List.getD_cons_zero code_loop Nat.zero_le Nat.not_lt_zero Bool.true_beq Bool.false_beq beq_true beq_false ge_iff_le gt_iff_lt keepR keepT ownTop Lpure pus Option.map_none assert_ifc assert_nil idxA_ptr idxA_eptr idxV_agg Int.cast_ofNat_Int Nat.mul_one Nat.zero_mul Int.toNat_natCast Int.toNat_zero setParts withO2 hasKey eqnil_sl nenil_sl eqnil_loc nenil_loc map_nil_iff elemsM_nil elemsM_lst elemsM_sl elemsM_loc elemsM_rsl elemsM_agg setElemsR pubR_v pubR_rsl pubE_v pubE_rsl okRefs_ints renCells_ints index_rsl_if setm make_ints condK_dec wantK_dec not_dec and_dec or_dec seqK_ite seqK_none blockK_ite blockK_none opsK_ite opsK_none stepK_ite stepK_none bodyK_ite bodyK_none resK_ite resK_none leaveK_ite leaveK_none only_ite only_none bind_ite gives_some gives_none gives_ite then_normal then_ret then_exit then_none then_ite Option.bind_none Bool.not_eq_true' decide_eq_false_iff_not Bool.and_eq_true Bool.or_eq_true Option.some.injEq Int.not_lt Int.not_le
attribute [local go_sem_proc] reduceIte Nat.reduceEqDiff Nat.reduceAdd Nat.reduceSub Nat.reduceLeDiff Nat.reduceLT reduceCtorEq Int.reduceLT Int.reduceLE Int.reduceEq Int.reduceBEq Int.reduceSub Int.reduceAdd Int.reduceMul Int.reduceNeg Int.reduceToNat Nat.reduceMul Nat.reduceBEq
theorem cells5:Tryz.prog.cellsOf 5=1:=by kernel_rfl
theorem cells22:Tryz.prog.cellsOf 22=8:=by kernel_rfl
theorem one_byte {d:Nat} {bs:List AV} (h:Sh Tryz.prog (d+1) 5 bs): ∃n:Int,bs=[B8 n]∧Byte n:=by
 simp only [Sh,Tryz.underlying5] at h
 obtain ⟨n,h1,h2⟩:=h
 have hb:=bounds_u8 h2
 exact ⟨n,h1,by unfold Byte;omega⟩
theorem all_bytes: ∀(k:Nat) (bs:List AV),bs.length=k→(∀i,i<k→∃n:Int,(bs.drop i).take 1=[B8 n]∧Byte n)→∃zs:List Int,bs=zs.map B8∧zs.length=k∧∀n∈zs,Byte n
 |0,bs,hl,_=>⟨[],by simpa using hl,rfl,by simp⟩
 |k+1,b::bs,hl,h=>by
  obtain ⟨n,h1,h2⟩:=h 0 (by omega)
  simp only [List.drop_zero,List.take_succ_cons,List.take_zero,List.cons.injEq,and_true] at h1
  obtain ⟨zs,g1,g2,g3⟩:=all_bytes k bs (by simpa using hl) (fun i hi=>by
   obtain ⟨x,q1,q2⟩:=h (i+1) (by omega)
   exact ⟨x,by simpa using q1,q2⟩)
  refine ⟨n::zs,by rw [List.map_cons,←h1,←g1],by simp [g2],fun x hx=> ?_⟩
  rw [List.mem_cons] at hx
  rcases hx with rfl|hx
  ·exact h2
  ·exact g3 x hx
theorem sh_eight {a:AV} (h:ShV Tryz.prog 8 22 a): ∃zs:List Int,a=.agg (zs.map B8)∧zs.length=8∧∀n∈zs,Byte n:=by
 unfold ShV at h
 rw [if_pos (by unfold aggB;rw [Tryz.underlying22])] at h
 obtain ⟨cs,rfl,hs⟩:=h
 unfold Sh at hs
 simp only [Tryz.underlying22,cells22,cells5] at hs
 obtain ⟨zs,h1,h2,h3⟩:=all_bytes 8 cs (by omega) (fun i hi=>by
  have:=hs.2 i hi
  rw [Nat.mul_one] at this
  exact one_byte this)
 exact ⟨zs,by rw [h1],h2,h3⟩
theorem sh_byte {a:AV} (h:ShV Tryz.prog 8 5 a): ∃n:Int,a=B8 n∧Byte n:=by
 unfold ShV at h
 rw [if_neg (by unfold aggB;rw [Tryz.underlying5];simp)] at h
 obtain ⟨n,h1,h2⟩:=one_byte h
 simp only [List.cons.injEq,and_true] at h1
 exact ⟨n,h1,h2⟩
end Go.Proofs.YtdnjagnechibhaaGreatDoor.Vm
