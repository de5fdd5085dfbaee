/- What is proved: what each function of this program computes, as equations on the evaluator. No condition. -/
import Derived.Test.YtdnjagnechibhaaGreatDoorC1
import Derived.KernelRfl
set_option linter.all false
namespace Go.Proofs.YtdnjagnechibhaaGreatDoor.Vm
open Go Go.Ev
set_option maxRecDepth 100000
set_option maxHeartbeats 4000000
attribute [local go_sem] m_ x_ l_ k_ o_ t_ a_ s_ q_ b_ c_ u_ g_ cells_any storable_any ren1_any shaped_ptr cells_ptr storable_ptr ren1_ptr shaped_eptr cells_eptr storable_eptr ren1_eptr shaped_rsl cells_rsl storable_rsl ren1_rsl shaped_int cells_int storable_int ren1_int shaped_bool cells_bool storable_bool ren1_bool shaped_nils cells_nils storable_nils ren1_nils shaped_lst cells_lst storable_lst shaped_fn cells_fn storable_fn ren1_fn shaped_ifc cells_ifc storable_ifc ren1_ifc shaped_agg cells_agg storable_agg ren1_agg shaped_tup cells_tup storable_tup ren1_tup shaped_nif cells_nif storable_nif ren1_nif ren1_lany ren1_lfull ren1_lown len_lst len_rsl len_nil load_ptr load_eptr isRsl_lst isRsl_nil isRsl_rsl elems_nil elems_lst elems_sl isRsl_sl body_eq bodyK_normal bodyK_ret resK_some leaveK_some only_some code_skip code_exit code_ret code_ops code_seq code_cond code_block seqK_normal seqK_ret seqK_exit condK_true condK_false blockK_normal blockK_ret blockK_exit opsK_some ops_nil ops_cons wantK_true wantK_false stepK_some pubs pub pub_sl params okRef_loc storable_loc shaped_loc cells_loc isRsl_loc elems_loc len_loc untips untip untip_sl wantedAV setElems withO isAgg_v isAgg_agg isAgg_lst isAgg_ptr isAgg_fn isAgg_ifc isAgg_rsl isAgg_sl isAgg_loc List.replicate_succ List.replicate_zero opAV valAV aval avals ofVal Env.get setD canon gcAV renAll renEnv renStore renCells ren1_sl cutSt okEnv okStore okRefs okRef okRef_sl bin_int bin_bool bin_lst bin_rsl bin_nil bin_agg cellsEq cellEq isShift intOp boolOp min_int max_int beq_int bne resAV tupAV leave_eq fin_sl fin_loc fins fin_v fin_lst fin_agg fin_tup fin_fn storeAV readCells putCells cells_sl shaped_sl storable_sl fieldAddrAV len_sl goI List.getElem?_cons_zero List.getElem?_cons_succ List.getElem?_nil Option.bind_some Option.map_some List.length_cons List.length_nil List.all_cons List.all_nil Bool.and_true Bool.true_and Bool.and_false Bool.false_and and_true true_and and_false false_and Bool.false_eq_true List.set_cons_zero List.set_cons_succ List.append_nil List.nil_append List.cons_append List.take_zero List.take_succ_cons List.take_nil List.drop_zero List.drop_succ_cons List.map_cons List.map_nil decide_true decide_false beq_self_eq_true Bool.not_true Bool.not_false or_true true_or or_false false_or Nat.zero_add Nat.add_zero Nat.le_refl Nat.lt_irrefl decide_eq_true_eq eq_self_iff_true not_true_eq_false not_false_eq_true List.getD_cons_zero code_loop Nat.zero_le Nat.not_lt_zero Bool.true_beq Bool.false_beq beq_true beq_false ge_iff_le gt_iff_lt keepR keepT ownTop Lpure pus Option.map_none assert_ifc assert_nil idxA_ptr idxA_eptr idxV_agg Int.cast_ofNat_Int Nat.mul_one Nat.zero_mul Int.toNat_natCast Int.toNat_zero setParts withO2 hasKey eqnil_sl nenil_sl eqnil_loc nenil_loc map_nil_iff elemsM_nil elemsM_lst elemsM_sl elemsM_loc elemsM_rsl elemsM_agg setElemsR pubR_v pubR_rsl pubE_v pubE_rsl okRefs_ints renCells_ints index_rsl_if setm make_ints condK_dec wantK_dec not_dec and_dec or_dec seqK_ite seqK_none blockK_ite blockK_none opsK_ite opsK_none stepK_ite stepK_none bodyK_ite bodyK_none resK_ite resK_none leaveK_ite leaveK_none only_ite only_none bind_ite gives_some gives_none gives_ite then_normal then_ret then_exit then_none then_ite Option.bind_none Bool.not_eq_true' decide_eq_false_iff_not Bool.and_eq_true Bool.or_eq_true Option.some.injEq Int.not_lt Int.not_le
attribute [local go_sem_proc] reduceIte Nat.reduceEqDiff Nat.reduceAdd Nat.reduceSub Nat.reduceLeDiff Nat.reduceLT reduceCtorEq Int.reduceLT Int.reduceLE Int.reduceEq Int.reduceBEq Int.reduceSub Int.reduceAdd Int.reduceMul Int.reduceNeg Int.reduceToNat Nat.reduceMul Nat.reduceBEq
attribute [local go_sem] m_ x_ l_ k_ o_ t_ a_ s_ q_ b_ c_ u_ g_ shaped_t cells_t isAgg_t storable_t okRef_t
def tl129:IC:=(.seq (.seq (.ops [⟨(some 81),none,.move (.tmp 1)⟩,⟨(some 82),none,.bin .gtr none (.tmp 81) (.const (.int .i64 0))⟩,⟨(some 83),none,.move (.tmp 82)⟩,⟨(some 84),(some (83,true)),.move (.tmp 4)⟩,⟨(some 85),(some (83,true)),.move (.tmp 0)⟩,⟨(some 86),(some (83,true)),.move (.tmp 1)⟩,⟨(some 87),(some (83,true)),.bin .sub none (.tmp 86) (.const (.int .i64 1))⟩,⟨(some 88),(some (83,true)),.indexS 1 (.tmp 85) (.tmp 87)⟩,⟨(some 89),(some (83,true)),.load 1 true (.tmp 88)⟩,⟨(some 90),(some (83,true)),.move (.tmp 0)⟩,⟨(some 91),(some (83,true)),.move (.tmp 13)⟩,⟨(some 92),(some (83,true)),.indexS 1 (.tmp 90) (.tmp 91)⟩,⟨(some 93),(some (83,true)),.load 1 true (.tmp 92)⟩,⟨(some 94),(some (83,true)),.callv true (.tmp 84) [(.tmp 89),(.tmp 93)]⟩,⟨(some 95),(some (83,true)),.bin .lss none (.tmp 94) (.const (.int .i64 0))⟩,⟨(some 96),(some (83,true)),.not (.tmp 95)⟩,⟨(some 97),none,.pick (.tmp 83) (.tmp 96) (.const (.bool false))⟩])
 (.cond (.tmp 97) (.seq (.ops [⟨(some 98),none,.move (.tmp 0)⟩,⟨(some 99),none,.move (.tmp 1)⟩,⟨(some 100),none,.move (.tmp 2)⟩,⟨(some 101),none,.move (.tmp 13)⟩,⟨(some 102),none,.move (.tmp 4)⟩,⟨(some 103),none,.call false 225 [(.tmp 98),(.tmp 99),(.tmp 100),(.tmp 101),(.tmp 102)]⟩,⟨(some 15),none,.move (.tmp 103)⟩])
  (.seq (.ops [⟨(some 104),none,.move (.tmp 15)⟩,⟨(some 1),none,.move (.tmp 104)⟩])
  (.exit 1)))
 .skip))
 (.seq (.ops [⟨(some 106),none,.move (.tmp 0)⟩,⟨(some 107),none,.move (.tmp 1)⟩,⟨(some 108),none,.move (.tmp 2)⟩,⟨(some 109),none,.move (.tmp 13)⟩,⟨(some 110),none,.move (.tmp 4)⟩,⟨(some 111),none,.call false 226 [(.tmp 106),(.tmp 107),(.tmp 108),(.tmp 109),(.tmp 110)]⟩,⟨(some 105),none,.move (.tmp 111)⟩,⟨(some 112),none,.extract 0 (.tmp 105)⟩,⟨(some 113),none,.extract 1 (.tmp 105)⟩,⟨(some 16),none,.move (.tmp 112)⟩,⟨(some 17),none,.move (.tmp 113)⟩])
 (.seq (.ops [⟨(some 114),none,.move (.tmp 17)⟩,⟨(some 11),none,.move (.tmp 114)⟩])
 (.seq (.ops [⟨(some 115),none,.move (.tmp 16)⟩,⟨(some 116),none,.move (.tmp 1)⟩,⟨(some 117),none,.bin .sub none (.tmp 115) (.tmp 116)⟩,⟨(some 118),none,.move (.tmp 2)⟩,⟨(some 119),none,.move (.tmp 16)⟩,⟨(some 120),none,.bin .sub none (.tmp 118) (.tmp 119)⟩,⟨(some 18),none,.move (.tmp 117)⟩,⟨(some 19),none,.move (.tmp 120)⟩])
 (.seq (.ops [⟨(some 121),none,.move (.tmp 12)⟩,⟨(some 122),none,.bin .quo none (.tmp 121) (.const (.int .i64 8))⟩,⟨(some 20),none,.move (.tmp 122)⟩])
 (.seq (.ops [⟨(some 123),none,.move (.tmp 18)⟩,⟨(some 124),none,.move (.tmp 19)⟩,⟨(some 125),none,.bin .lss none (.tmp 123) (.tmp 124)⟩])
 (.cond (.tmp 125) (.seq (.ops [⟨(some 126),none,.move (.tmp 18)⟩,⟨(some 127),none,.move (.tmp 20)⟩,⟨(some 128),none,.bin .geq none (.tmp 126) (.tmp 127)⟩,⟨(some 10),none,.move (.tmp 128)⟩])
  (.seq (.ops [⟨(some 129),none,.move (.tmp 0)⟩,⟨(some 130),none,.move (.tmp 1)⟩,⟨(some 131),none,.move (.tmp 16)⟩,⟨(some 132),none,.move (.tmp 3)⟩,⟨(some 133),none,.move (.tmp 4)⟩,⟨(some 134),none,.call false 186 [(.tmp 129),(.tmp 130),(.tmp 131),(.tmp 132),(.tmp 133)]⟩])
  (.ops [⟨(some 135),none,.move (.tmp 16)⟩,⟨(some 136),none,.bin .add none (.tmp 135) (.const (.int .i64 1))⟩,⟨(some 1),none,.move (.tmp 136)⟩])))
 (.seq (.ops [⟨(some 137),none,.move (.tmp 19)⟩,⟨(some 138),none,.move (.tmp 20)⟩,⟨(some 139),none,.bin .geq none (.tmp 137) (.tmp 138)⟩,⟨(some 10),none,.move (.tmp 139)⟩])
  (.seq (.ops [⟨(some 140),none,.move (.tmp 0)⟩,⟨(some 141),none,.move (.tmp 16)⟩,⟨(some 142),none,.bin .add none (.tmp 141) (.const (.int .i64 1))⟩,⟨(some 143),none,.move (.tmp 2)⟩,⟨(some 144),none,.move (.tmp 3)⟩,⟨(some 145),none,.move (.tmp 4)⟩,⟨(some 146),none,.call false 186 [(.tmp 140),(.tmp 142),(.tmp 143),(.tmp 144),(.tmp 145)]⟩])
  (.ops [⟨(some 147),none,.move (.tmp 16)⟩,⟨(some 2),none,.move (.tmp 147)⟩]))))))))))
theorem lp129_eq:lp186_0=(.block 1 (.seq (.ops [⟨(some 21),none,.move (.tmp 2)⟩,⟨(some 22),none,.move (.tmp 1)⟩,⟨(some 23),none,.bin .sub none (.tmp 21) (.tmp 22)⟩,⟨(some 12),none,.move (.tmp 23)⟩])
 (.seq (.seq (.ops [⟨(some 24),none,.move (.tmp 12)⟩,⟨(some 25),none,.bin .leq none (.tmp 24) (.const (.int .i64 12))⟩])
 (.cond (.tmp 25) (.seq (.ops [⟨(some 26),none,.move (.tmp 0)⟩,⟨(some 27),none,.move (.tmp 1)⟩,⟨(some 28),none,.move (.tmp 2)⟩,⟨(some 29),none,.move (.tmp 4)⟩,⟨(some 30),none,.call false 219 [(.tmp 26),(.tmp 27),(.tmp 28),(.tmp 29)]⟩])
  .ret)
 .skip))
 (.seq (.seq (.ops [⟨(some 31),none,.move (.tmp 3)⟩,⟨(some 32),none,.bin .eql none (.tmp 31) (.const (.int .i64 0))⟩])
 (.cond (.tmp 32) (.seq (.ops [⟨(some 33),none,.move (.tmp 0)⟩,⟨(some 34),none,.move (.tmp 1)⟩,⟨(some 35),none,.move (.tmp 2)⟩,⟨(some 36),none,.move (.tmp 4)⟩,⟨(some 37),none,.call false 220 [(.tmp 33),(.tmp 34),(.tmp 35),(.tmp 36)]⟩])
  .ret)
 .skip))
 (.seq (.seq (.ops [⟨(some 38),none,.move (.tmp 10)⟩,⟨(some 39),none,.not (.tmp 38)⟩])
 (.cond (.tmp 39) (.seq (.ops [⟨(some 40),none,.move (.tmp 0)⟩,⟨(some 41),none,.move (.tmp 1)⟩,⟨(some 42),none,.move (.tmp 2)⟩,⟨(some 43),none,.move (.tmp 4)⟩,⟨(some 44),none,.call false 221 [(.tmp 40),(.tmp 41),(.tmp 42),(.tmp 43)]⟩])
  (.ops [⟨(some 45),none,.move (.tmp 3)⟩,⟨(some 46),none,.bin .sub none (.tmp 45) (.const (.int .i64 1))⟩,⟨(some 3),none,.move (.tmp 46)⟩]))
 .skip))
 (.seq (.ops [⟨(some 48),none,.move (.tmp 0)⟩,⟨(some 49),none,.move (.tmp 1)⟩,⟨(some 50),none,.move (.tmp 2)⟩,⟨(some 51),none,.move (.tmp 4)⟩,⟨(some 52),none,.call false 222 [(.tmp 48),(.tmp 49),(.tmp 50),(.tmp 51)]⟩,⟨(some 47),none,.move (.tmp 52)⟩,⟨(some 53),none,.extract 0 (.tmp 47)⟩,⟨(some 54),none,.extract 1 (.tmp 47)⟩,⟨(some 13),none,.move (.tmp 53)⟩,⟨(some 14),none,.move (.tmp 54)⟩])
 (.seq (.seq (.ops [⟨(some 55),none,.move (.tmp 14)⟩,⟨(some 56),none,.bin .eql none (.tmp 55) (.const (.int .i64 2))⟩])
 (.cond (.tmp 56) (.seq (.ops [⟨(some 57),none,.move (.tmp 0)⟩,⟨(some 58),none,.move (.tmp 1)⟩,⟨(some 59),none,.move (.tmp 2)⟩,⟨(some 60),none,.move (.tmp 4)⟩,⟨(some 61),none,.call false 223 [(.tmp 57),(.tmp 58),(.tmp 59),(.tmp 60)]⟩])
  (.seq (.ops [⟨(some 62),none,.move (.tmp 2)⟩,⟨(some 63),none,.bin .sub none (.tmp 62) (.const (.int .i64 1))⟩,⟨(some 64),none,.move (.tmp 13)⟩,⟨(some 65),none,.move (.tmp 1)⟩,⟨(some 66),none,.bin .sub none (.tmp 64) (.tmp 65)⟩,⟨(some 67),none,.bin .sub none (.tmp 63) (.tmp 66)⟩,⟨(some 13),none,.move (.tmp 67)⟩])
  (.ops [⟨(some 14),none,.move (.const (.int .i64 1))⟩])))
 .skip))
 (.seq (.seq (.ops [⟨(some 68),none,.move (.tmp 10)⟩,⟨(some 69),none,.move (.tmp 68)⟩,⟨(some 70),(some (69,true)),.move (.tmp 11)⟩,⟨(some 71),none,.pick (.tmp 69) (.tmp 70) (.const (.bool false))⟩,⟨(some 72),none,.move (.tmp 71)⟩,⟨(some 73),(some (72,true)),.move (.tmp 14)⟩,⟨(some 74),(some (72,true)),.bin .eql none (.tmp 73) (.const (.int .i64 1))⟩,⟨(some 75),none,.pick (.tmp 72) (.tmp 74) (.const (.bool false))⟩])
 (.cond (.tmp 75) (.seq (.ops [⟨(some 76),none,.move (.tmp 0)⟩,⟨(some 77),none,.move (.tmp 1)⟩,⟨(some 78),none,.move (.tmp 2)⟩,⟨(some 79),none,.move (.tmp 4)⟩,⟨(some 80),none,.call false 224 [(.tmp 76),(.tmp 77),(.tmp 78),(.tmp 79)]⟩])
  (.cond (.tmp 80) .ret
  .skip))
 .skip))
 tl129)))))))):=rfl
def endss (k:Nat) (caps:List AV) (l n:Nat) (ag:Bool) (en:Env) (a b li:Nat) (wb wp:Bool):Prop:=
 en.get 0=.rsl l 0 n n 1 ag∧en.get 1=J a∧en.get 2=J b∧en.get 3=J li∧en.get 4=.fn (.func k) [] caps∧en.get 10=B wb∧en.get 11=B wp
section
variable (S0:List (List AV)) (T:List Nat) (l:Nat) (hl:l<S0.length) (n:Nat) (hn:n≤1000) (ag:Bool) (k:Nat) (hk:pure k=true) (caps:List AV) (c:Fin 256→Fin 256→Int) (lt:Fin 256→Fin 256→Bool) (hlt: ∀x y,lt x y=decide (c x y<0)) (hc: ∀x y X E,run L k (fS x::fS y::caps) ⟨put S0 l X E,T⟩=some (I (c x y),⟨put S0 l X E,T⟩))
include S0 T l hl n hn ag k hk caps c lt hlt hc
theorem tails (N:Nat)(ih:(∀(a b li:Nat) (d:Array (Fin 256)) (X0:List (List AV)),a≤b→b≤n→d.size=n→li<1000→b-a<N→(Go.Sort.pdq lt d a b li true true).size=n∧∃X1,(PL X0→PL X1)∧run L 186 [.rsl l 0 n n 1 ag,J a,J b,J li,.fn (.func k) [] caps] ⟨put S0 l (Dm gS d) X0,T⟩=some (.tup [],⟨put S0 l (Dm gS (Go.Sort.pdq lt d a b li true true)) X1,T⟩)))
  (X0:List (List AV)) (en:Env) (a b li p:Nat) (wb wp:Bool) (d:Array (Fin 256)) (hsz:d.size=n) (hab:a+13≤b) (hb:b≤n) (hN:b-a≤N) (hp1:a≤p) (hp2:p<b) (hli:li<1000)
  (e0:en.get 0=.rsl l 0 n n 1 ag) (e1:en.get 1=J a) (e2:en.get 2=J b) (e3:en.get 3=J li) (e4:en.get 4=.fn (.func k) [] caps) (e10:en.get 10=B wb) (e11:en.get 11=B wp) (e12:en.get 12=J (b-a)) (e13:en.get 13=J p)
  (NN:Env→St→Prop) (QQ:X→Env→St→Prop)
  (hnext: ∀en' a' b' wb' wp' (d':Array (Fin 256)) X1,endss k caps l n ag en' a' b' li wb' wp'→(PL X0→PL X1)→a'≤b'→b'≤n→b'-a'<b-a→d'.size=n→pdqT lt d a b p li wb wp=Go.Sort.pdq lt d' a' b' li wb' wp'→NN en' ⟨put S0 l (Dm gS d') X1,T⟩):
  Then (blockK 1 (codeAV pure (run L) lim tl129 en ⟨put S0 l (Dm gS d) X0,T⟩)) NN QQ:=by
 have hpo:=partition_ok lt d (a:=a) (b:=b) (p:=p) (by omega)
 have hpe:=partitionEqual_ok lt d (a:=a) (b:=b) (p:=p) (by omega)
 have hrp:=pars S0 T l hl n hn ag k hk caps c lt hlt hc X0 d hsz a b p (by omega) hb (by omega)
 have hre:=peqs S0 T l hl n hn ag k hk caps c lt hlt hc X0 d hsz a b p (by omega) hb (by omega)
 have hT:pdqT lt d a b p li wb wp=if (decide (a>0)&& !lt d[a-1]! d[p]!)=true then Go.Sort.pdq lt (Go.Sort.partitionEqual lt d a b p).2 (Go.Sort.partitionEqual lt d a b p).1 b li wb wp
  else if (Go.Sort.partition lt d a b p).1-a<b-(Go.Sort.partition lt d a b p).1 then
   Go.Sort.pdq lt (Go.Sort.pdq lt (Go.Sort.partition lt d a b p).2.2 a (Go.Sort.partition lt d a b p).1 li true true) ((Go.Sort.partition lt d a b p).1+1) b li (decide ((b-a) / 8≤(Go.Sort.partition lt d a b p).1-a)) (Go.Sort.partition lt d a b p).2.1
  else
   Go.Sort.pdq lt (Go.Sort.pdq lt (Go.Sort.partition lt d a b p).2.2 ((Go.Sort.partition lt d a b p).1+1) b li true true) a (Go.Sort.partition lt d a b p).1 li (decide ((b-a) / 8≤b-(Go.Sort.partition lt d a b p).1)) (Go.Sort.partition lt d a b p).2.1:=rfl
 rw [hT] at hnext
 generalize Go.Sort.partition lt d a b p=q at*
 generalize Go.Sort.partitionEqual lt d a b p=qe at*
 obtain ⟨mid,ap,d4⟩:=q
 obtain ⟨mid2,d5⟩:=qe
 dsimp only at*
 have hget:=fun C E=>put_get hl C E
 have hpset:=fun C C' E=>put_set hl C C' E
 have hlenD:(Dm gS d).length=n:=by rw [Dm_len,hsz]
 have r10:(((p:Nat):Int)<(n:Int))=True:=eT (by omega)
 have r11:((p:Nat)<n)=True:=eT (by omega)
 have r12:((p:Nat)+1≤n)=True:=eT (by omega)
 have r13:((Dm gS d).drop (p)).take 1=[gS d[p]!]:=Dm_take gS d (by omega)
 have hq8:IntKind.i64.wrap (Int.tdiv ((b-a:Nat):Int) 8)=(((b-a) / 8:Nat):Int):=quoJ (b-a) 8 (by omega) (by omega)
 have hml:=subJ mid a (by omega) (by omega)
 have hmr:=subJ b mid (by omega) (by omega)
 have hm1:=succ64 mid (by omega)
 have b1:((((b-a) / 8:Nat):Int)≤((mid-a:Nat):Int))=((b-a) / 8≤mid-a):=propext (by omega)
 have b2:((((b-a) / 8:Nat):Int)≤((b-mid:Nat):Int))=((b-a) / 8≤b-mid):=propext (by omega)
 have dd: ∀(P:Prop) [Decidable P] (v:Bool),v=decide P→decide P=v:=fun _ _ _ h=>h.symm
 have i1:=ih a mid li d4 X0 (by omega) (by omega) (by omega) hli (by omega)
 have i2:=ih (mid+1) b li d4 X0 (by omega) (by omega) (by omega) hli (by omega)
 obtain ⟨z1,Y1,y1,i1⟩:=i1
 obtain ⟨z2,Y2,y2,i2⟩:=i2
 generalize Go.Sort.pdq lt d4 a mid li true true=d6 at*
 generalize Go.Sort.pdq lt d4 (mid+1) b li true true=d7 at*
 generalize (b-a) / 8=bal at*
 by_cases h0:a=0
 ·have q0:((0:Int)<(a:Int))=False:=eF (by omega)
  rw [show decide (a>0)=false from decide_eq_false (by omega),Bool.false_and,if_neg (by simp)] at hnext
  by_cases hc2:mid-a<b-mid
  ·have q1:(((mid-a:Nat):Int)<((b-mid:Nat):Int))=True:=eT (by omega)
   rw [if_pos hc2] at hnext
   simp only [go_sem,tl129,e0,e1,e2,e3,e4,e10,e11,e12,e13,q0,hrp,hml,hmr,hq8,q1,b1,i1,hm1]
   exact hnext _ _ _ _ _ _ _ ⟨by simp only [go_sem,e0],by simp only [go_sem],by simp only [go_sem,e2],by simp only [go_sem,e3],by simp only [go_sem,e4],by simp only [go_sem],by simp only [go_sem]⟩ y1 (by omega) hb (by omega) z1 rfl
  ·have q1:(((mid-a:Nat):Int)<((b-mid:Nat):Int))=False:=eF (by omega)
   rw [if_neg hc2] at hnext
   simp only [go_sem,tl129,e0,e1,e2,e3,e4,e10,e11,e12,e13,q0,hrp,hml,hmr,hq8,q1,b2,i2,hm1]
   exact hnext _ _ _ _ _ _ _ ⟨by simp only [go_sem,e0],by simp only [go_sem,e1],by simp only [go_sem],by simp only [go_sem,e3],by simp only [go_sem,e4],by simp only [go_sem],by simp only [go_sem]⟩ y2 (by omega) (by omega) (by omega) z2 rfl
 ·have q0:((0:Int)<(a:Int))=True:=eT (by omega)
  have hw:=pred64 a (by omega) (by omega)
  have r20:(((a-1:Nat):Int)<(n:Int))=True:=eT (by omega)
  have r21:((a-1:Nat)<n)=True:=eT (by omega)
  have r22:((a-1:Nat)+1≤n)=True:=eT (by omega)
  have r23:((Dm gS d).drop (a-1)).take 1=[gS d[a-1]!]:=Dm_take gS d (by omega)
  rw [show decide (a>0)=true from decide_eq_true (by omega),Bool.true_and] at hnext
  cases hcc:lt d[a-1]! d[p]! with
  |true=>
   have hk0:(c d[a-1]! d[p]! <0)=True:=by rw [hlt] at hcc;simpa using hcc
   rw [hcc,if_neg (by simp)] at hnext
   generalize d[a-1]! =x at*
   generalize d[p]! =y at*
   by_cases hc2:mid-a<b-mid
   ·have q1:(((mid-a:Nat):Int)<((b-mid:Nat):Int))=True:=eT (by omega)
    rw [if_pos hc2] at hnext
    simp only [go_sem,tl129,e0,e1,e2,e3,e4,e10,e11,e12,e13,q0,hw,r10,r11,r12,r13,r20,r21,r22,r23,hc,hk,hk0,hrp,hml,hmr,hq8,q1,b1,i1,hm1,hget,hpset,hlenD,nn_,lm_,List.length_set]
    exact hnext _ _ _ _ _ _ _ ⟨by simp only [go_sem,e0],by simp only [go_sem],by simp only [go_sem,e2],by simp only [go_sem,e3],by simp only [go_sem,e4],by simp only [go_sem],by simp only [go_sem]⟩ y1 (by omega) hb (by omega) z1 rfl
   ·have q1:(((mid-a:Nat):Int)<((b-mid:Nat):Int))=False:=eF (by omega)
    rw [if_neg hc2] at hnext
    simp only [go_sem,tl129,e0,e1,e2,e3,e4,e10,e11,e12,e13,q0,hw,r10,r11,r12,r13,r20,r21,r22,r23,hc,hk,hk0,hrp,hml,hmr,hq8,q1,b2,i2,hm1,hget,hpset,hlenD,nn_,lm_,List.length_set]
    exact hnext _ _ _ _ _ _ _ ⟨by simp only [go_sem,e0],by simp only [go_sem,e1],by simp only [go_sem],by simp only [go_sem,e3],by simp only [go_sem,e4],by simp only [go_sem],by simp only [go_sem]⟩ y2 (by omega) (by omega) (by omega) z2 rfl
  |false=>
   have hk0:(c d[a-1]! d[p]! <0)=False:=by rw [hlt] at hcc;simpa using hcc
   rw [hcc,if_pos (show (!false)=true from rfl)] at hnext
   generalize d[a-1]! =x at*
   generalize d[p]! =y at*
   simp only [go_sem,tl129,e0,e1,e2,e3,e4,e10,e11,e12,e13,q0,hw,r10,r11,r12,r13,r20,r21,r22,r23,hc,hk,hk0,hre,hget,hpset,hlenD,nn_,lm_,List.length_set]
   exact hnext _ _ _ _ _ _ _ ⟨by simp only [go_sem,e0],by simp only [go_sem],by simp only [go_sem,e2],by simp only [go_sem,e3],by simp only [go_sem,e4],by simp only [go_sem,e10],by simp only [go_sem,e11]⟩ id (by omega) hb (by omega) (by rw [hpe.1,hsz]) rfl
theorem pdq0s (hn2:n<256)(N:Nat)(ih:(∀(a b li:Nat) (d:Array (Fin 256)) (X0:List (List AV)),a≤b→b≤n→d.size=n→li<1000→b-a<N→(Go.Sort.pdq lt d a b li true true).size=n∧∃X1,(PL X0→PL X1)∧run L 186 [.rsl l 0 n n 1 ag,J a,J b,J li,.fn (.func k) [] caps] ⟨put S0 l (Dm gS d) X0,T⟩=some (.tup [],⟨put S0 l (Dm gS (Go.Sort.pdq lt d a b li true true)) X1,T⟩)))(lo hi2:Nat)(a:Nat)(b:Nat)(li:Nat)(wb:Bool)(wp:Bool)(d:Array (Fin 256))(X0:List (List AV))(hok:a≤b∧b≤n∧d.size=n∧li<1000∧b-a≤N)(env:Env)(st:St)
  (hg:gcAV false lo hi2 (canon env [0,1,2,3,4,10,11]) st=([(0,.rsl l 0 n n 1 ag),(1,J a),(2,J b),(3,J li),(4,.fn (.func k) [] caps),(10,B wb),(11,B wp)],⟨put S0 l (Dm gS d) X0,T⟩)):
  ∃x_1 en s,lim (headed pure (run L) false [0,1,2,3,4,10,11] lp186_0 lo hi2) env st=some (x_1,en,s)∧(x_1=.ret∧(Go.Sort.pdq lt d a b li wb wp).size=n∧∃X1,(PL X0→PL X1)∧s=⟨put S0 l (Dm gS (Go.Sort.pdq lt d a b li wb wp)) X1,T⟩):=by
 refine loop_wp (α:=Nat×Nat×Nat×Bool×Bool×Array (Fin 256)×List (List AV)) (fun ⟨a,b,li,wb,wp,d,X0⟩=>b-a) (fun ⟨a,b,li,wb,wp,d,X0⟩=>a≤b∧b≤n∧d.size=n∧li<1000∧b-a≤N) (fun ⟨a,b,li,wb,wp,d,X0⟩=>([(0,.rsl l 0 n n 1 ag),(1,J a),(2,J b),(3,J li),(4,.fn (.func k) [] caps),(10,B wb),(11,B wp)],⟨put S0 l (Dm gS d) X0,T⟩)) (fun ⟨a,b,li,wb,wp,d,X0⟩ x_1 en s=>x_1=.ret∧(Go.Sort.pdq lt d a b li wb wp).size=n∧∃X1,(PL X0→PL X1)∧s=⟨put S0 l (Dm gS (Go.Sort.pdq lt d a b li wb wp)) X1,T⟩) (fun ⟨a,b,li,wb,wp,d,X0⟩ hok=> ?_) ⟨a,b,li,wb,wp,d,X0⟩ hok env st hg
 simp only at hok
 obtain ⟨h1,h2,hsz,hli,hN⟩:=hok
 dsimp only at h1 h2 hsz hli hN⊢
 have hw:=subJ b a h1 (by omega)
 rw [lp129_eq]
 by_cases h12:b-a≤12
 ·have q12:(((b-a:Nat):Int)≤12)=True:=eT (by omega)
  have e:Go.Sort.pdq lt d a b li wb wp=Go.Sort.insertionSort lt d a b:=by rw [Go.Sort.pdq,if_pos h12]
  rw [e]
  have hi:=inss S0 T l hl n hn ag k hk caps c lt hlt hc X0 a b (by omega) h2 d hsz
  simp only [go_sem,lp186_0,hw,q12,hi]
  exact ⟨by rw [insertionSort_size,hsz],_,id,rfl⟩
 ·have q12:(((b-a:Nat):Int)≤12)=False:=eF (by omega)
  by_cases hl0:li=0
  ·have ql:((li:Int)=0)=True:=eT (by omega)
   have e:Go.Sort.pdq lt d a b li wb wp=Go.Sort.heapSort lt d a b:=by rw [Go.Sort.pdq,if_neg h12,if_pos hl0]
   rw [e]
   have hh:=heaps S0 T l hl n hn ag k hk caps c lt hlt hc X0 d hsz a b (by omega) h2
   simp only [go_sem,lp186_0,hw,q12,ql,hh]
   exact ⟨by rw [heapSort_size,hsz],_,id,rfl⟩
  ·have ql:((li:Int)=0)=False:=eF (by omega)
   have hb1:=pred64 b (by omega) (by omega)
   cases wb with
   |false=>
    obtain ⟨BB,hbr⟩:=brks S0 T l hl n hn ag k caps X0 d hsz a b (by omega) h2 (by omega)
    have hz1:(Go.Sort.breakPatterns d a b).size=n:=by rw [breakPatterns_size,hsz]
    have hpl:=pred64 li (by omega) (by omega)
    generalize hd1:Go.Sort.breakPatterns d a b=d1 at*
    obtain ⟨B2,hpv⟩:=pivs S0 T l hl n hn ag k hk caps c lt hlt hc (X0++ [[U BB]]) d1 hz1 a b (by omega) h2
    have hpr:=Go.Sort.choosePivot_holds lt d1 a b (by omega)
    generalize hcc:Go.Sort.choosePivot lt d1 a b=cc at*
    obtain ⟨pv,hint⟩:=cc
    dsimp only at hpr hpv
    cases hint with
    |unknown=>
     have hpv:run L 222 [.rsl l 0 n n 1 ag,J a,J b,.fn (.func k) [] caps] ⟨put S0 l (Dm gS d1) (X0++ [[U BB]]),T⟩=some (.tup [J pv,I 0],⟨put S0 l (Dm gS d1) ((X0++ [[U BB]])++ [[J B2]]),T⟩):=hpv
     have e:Go.Sort.pdq lt d a b li false wp=pdqT lt d1 a b pv (li-1) false wp:=by rw [pdq_round lt d false wp (by omega) hl0];simp [hd1,hcc]
     rw [e]
     simp only [go_sem,lp186_0,hw,q12,ql,hbr,hpl,hpv]
     refine tails S0 T l hl n hn ag k hk caps c lt hlt hc N ih _ _ a b (li-1) pv false wp d1 hz1 (by omega) h2 hN (by omega) (by omega) (by omega) (by simp only [go_sem]) (by simp only [go_sem]) (by simp only [go_sem]) (by simp only [go_sem]) (by simp only [go_sem]) (by simp only [go_sem]) (by simp only [go_sem]) (by simp only [go_sem]) (by simp only [go_sem]) _ _ (fun en2 a2 b2 wb2 wp2 d9 X9 he gx g1 g2 g3 g4 g5=> ?_)
     obtain ⟨f0,f1,f2,f3,f4,f10,f11⟩:=he
     refine ⟨(a2,b2,(li-1),wb2,wp2,d9,X9),by simp only [go_sem,f0,f1,f2,f3,f4,f10,f11],?_,?_,fun x en s hq=> ?_⟩
     ·dsimp only;exact ⟨g1,g2,g4,by omega,by omega⟩
     ·dsimp only;exact g3
     ·dsimp only at hq
      rw [g5]
      obtain ⟨hq1,hq2,X8,hx8,hq3⟩:=hq
      exact ⟨hq1,hq2,X8,fun h0=>hx8 (gx ((h0.snoc _ _).snoc _ _)),hq3⟩
    |increasing=>
     have hpv:run L 222 [.rsl l 0 n n 1 ag,J a,J b,.fn (.func k) [] caps] ⟨put S0 l (Dm gS d1) (X0++ [[U BB]]),T⟩=some (.tup [J pv,I 1],⟨put S0 l (Dm gS d1) ((X0++ [[U BB]])++ [[J B2]]),T⟩):=hpv
     have e:Go.Sort.pdq lt d a b li false wp=pdqT lt d1 a b pv (li-1) false wp:=by rw [pdq_round lt d false wp (by omega) hl0];simp [hd1,hcc]
     rw [e]
     simp only [go_sem,lp186_0,hw,q12,ql,hbr,hpl,hpv]
     refine tails S0 T l hl n hn ag k hk caps c lt hlt hc N ih _ _ a b (li-1) pv false wp d1 hz1 (by omega) h2 hN (by omega) (by omega) (by omega) (by simp only [go_sem]) (by simp only [go_sem]) (by simp only [go_sem]) (by simp only [go_sem]) (by simp only [go_sem]) (by simp only [go_sem]) (by simp only [go_sem]) (by simp only [go_sem]) (by simp only [go_sem]) _ _ (fun en2 a2 b2 wb2 wp2 d9 X9 he gx g1 g2 g3 g4 g5=> ?_)
     obtain ⟨f0,f1,f2,f3,f4,f10,f11⟩:=he
     refine ⟨(a2,b2,(li-1),wb2,wp2,d9,X9),by simp only [go_sem,f0,f1,f2,f3,f4,f10,f11],?_,?_,fun x en s hq=> ?_⟩
     ·dsimp only;exact ⟨g1,g2,g4,by omega,by omega⟩
     ·dsimp only;exact g3
     ·dsimp only at hq
      rw [g5]
      obtain ⟨hq1,hq2,X8,hx8,hq3⟩:=hq
      exact ⟨hq1,hq2,X8,fun h0=>hx8 (gx ((h0.snoc _ _).snoc _ _)),hq3⟩
    |decreasing=>
     have hpv:run L 222 [.rsl l 0 n n 1 ag,J a,J b,.fn (.func k) [] caps] ⟨put S0 l (Dm gS d1) (X0++ [[U BB]]),T⟩=some (.tup [J pv,I 2],⟨put S0 l (Dm gS d1) ((X0++ [[U BB]])++ [[J B2]]),T⟩):=hpv
     have hrv:=revs S0 T l hl n hn ag k caps ((X0++ [[U BB]])++ [[J B2]]) d1 hz1 a b (by omega) h2
     have hz2:(Go.Sort.reverseRange d1 a b).size=n:=by rw [reverseRange_size,hz1]
     have hpa:=subJ pv a (by omega) (by omega)
     have hpb:=subJ (b-1) (pv-a) (by omega) (by omega)
     generalize hd2:Go.Sort.reverseRange d1 a b=d2 at*
     have e:Go.Sort.pdq lt d a b li false wp=pdqT lt d2 a b (b-1-(pv-a)) (li-1) false wp:=by rw [pdq_round lt d false wp (by omega) hl0];simp [hd1,hcc,hd2]
     rw [e]
     simp only [go_sem,lp186_0,hw,q12,ql,hbr,hpl,hpv,hrv,hb1,hpa,hpb]
     refine tails S0 T l hl n hn ag k hk caps c lt hlt hc N ih _ _ a b (li-1) (b-1-(pv-a)) false wp d2 hz2 (by omega) h2 hN (by omega) (by omega) (by omega) (by simp only [go_sem]) (by simp only [go_sem]) (by simp only [go_sem]) (by simp only [go_sem]) (by simp only [go_sem]) (by simp only [go_sem]) (by simp only [go_sem]) (by simp only [go_sem]) (by simp only [go_sem]) _ _ (fun en2 a2 b2 wb2 wp2 d9 X9 he gx g1 g2 g3 g4 g5=> ?_)
     obtain ⟨f0,f1,f2,f3,f4,f10,f11⟩:=he
     refine ⟨(a2,b2,(li-1),wb2,wp2,d9,X9),by simp only [go_sem,f0,f1,f2,f3,f4,f10,f11],?_,?_,fun x en s hq=> ?_⟩
     ·dsimp only;exact ⟨g1,g2,g4,by omega,by omega⟩
     ·dsimp only;exact g3
     ·dsimp only at hq
      rw [g5]
      obtain ⟨hq1,hq2,X8,hx8,hq3⟩:=hq
      exact ⟨hq1,hq2,X8,fun h0=>hx8 (gx ((h0.snoc _ _).snoc _ _)),hq3⟩
   |true=>
    obtain ⟨B2,hpv⟩:=pivs S0 T l hl n hn ag k hk caps c lt hlt hc X0 d hsz a b (by omega) h2
    have hpr:=Go.Sort.choosePivot_holds lt d a b (by omega)
    generalize hcc:Go.Sort.choosePivot lt d a b=cc at*
    obtain ⟨pv,hint⟩:=cc
    dsimp only at hpr hpv
    cases hint with
    |unknown=>
     have hpv:run L 222 [.rsl l 0 n n 1 ag,J a,J b,.fn (.func k) [] caps] ⟨put S0 l (Dm gS d) X0,T⟩=some (.tup [J pv,I 0],⟨put S0 l (Dm gS d) (X0++ [[J B2]]),T⟩):=hpv
     have e:Go.Sort.pdq lt d a b li true wp=pdqT lt d a b pv li true wp:=by rw [pdq_round lt d true wp (by omega) hl0];simp [hcc]
     rw [e]
     cases wp with
     |false=>
      simp only [go_sem,lp186_0,hw,q12,ql,hpv]
      refine tails S0 T l hl n hn ag k hk caps c lt hlt hc N ih _ _ a b li pv true false d hsz (by omega) h2 hN (by omega) (by omega) (by omega) (by simp only [go_sem]) (by simp only [go_sem]) (by simp only [go_sem]) (by simp only [go_sem]) (by simp only [go_sem]) (by simp only [go_sem]) (by simp only [go_sem]) (by simp only [go_sem]) (by simp only [go_sem]) _ _ (fun en2 a2 b2 wb2 wp2 d9 X9 he gx g1 g2 g3 g4 g5=> ?_)
      obtain ⟨f0,f1,f2,f3,f4,f10,f11⟩:=he
      refine ⟨(a2,b2,li,wb2,wp2,d9,X9),by simp only [go_sem,f0,f1,f2,f3,f4,f10,f11],?_,?_,fun x en s hq=> ?_⟩
      ·dsimp only;exact ⟨g1,g2,g4,by omega,by omega⟩
      ·dsimp only;exact g3
      ·dsimp only at hq
       rw [g5]
       obtain ⟨hq1,hq2,X8,hx8,hq3⟩:=hq
       exact ⟨hq1,hq2,X8,fun h0=>hx8 (gx (h0.snoc _ _)),hq3⟩
     |true=>
      simp only [go_sem,lp186_0,hw,q12,ql,hpv]
      refine tails S0 T l hl n hn ag k hk caps c lt hlt hc N ih _ _ a b li pv true true d hsz (by omega) h2 hN (by omega) (by omega) (by omega) (by simp only [go_sem]) (by simp only [go_sem]) (by simp only [go_sem]) (by simp only [go_sem]) (by simp only [go_sem]) (by simp only [go_sem]) (by simp only [go_sem]) (by simp only [go_sem]) (by simp only [go_sem]) _ _ (fun en2 a2 b2 wb2 wp2 d9 X9 he gx g1 g2 g3 g4 g5=> ?_)
      obtain ⟨f0,f1,f2,f3,f4,f10,f11⟩:=he
      refine ⟨(a2,b2,li,wb2,wp2,d9,X9),by simp only [go_sem,f0,f1,f2,f3,f4,f10,f11],?_,?_,fun x en s hq=> ?_⟩
      ·dsimp only;exact ⟨g1,g2,g4,by omega,by omega⟩
      ·dsimp only;exact g3
      ·dsimp only at hq
       rw [g5]
       obtain ⟨hq1,hq2,X8,hx8,hq3⟩:=hq
       exact ⟨hq1,hq2,X8,fun h0=>hx8 (gx (h0.snoc _ _)),hq3⟩
    |increasing=>
     have hpv:run L 222 [.rsl l 0 n n 1 ag,J a,J b,.fn (.func k) [] caps] ⟨put S0 l (Dm gS d) X0,T⟩=some (.tup [J pv,I 1],⟨put S0 l (Dm gS d) (X0++ [[J B2]]),T⟩):=hpv
     cases wp with
     |false=>
      have e:Go.Sort.pdq lt d a b li true false=pdqT lt d a b pv li true false:=by rw [pdq_round lt d true false (by omega) hl0];simp [hcc]
      rw [e]
      simp only [go_sem,lp186_0,hw,q12,ql,hpv]
      refine tails S0 T l hl n hn ag k hk caps c lt hlt hc N ih _ _ a b li pv true false d hsz (by omega) h2 hN (by omega) (by omega) (by omega) (by simp only [go_sem]) (by simp only [go_sem]) (by simp only [go_sem]) (by simp only [go_sem]) (by simp only [go_sem]) (by simp only [go_sem]) (by simp only [go_sem]) (by simp only [go_sem]) (by simp only [go_sem]) _ _ (fun en2 a2 b2 wb2 wp2 d9 X9 he gx g1 g2 g3 g4 g5=> ?_)
      obtain ⟨f0,f1,f2,f3,f4,f10,f11⟩:=he
      refine ⟨(a2,b2,li,wb2,wp2,d9,X9),by simp only [go_sem,f0,f1,f2,f3,f4,f10,f11],?_,?_,fun x en s hq=> ?_⟩
      ·dsimp only;exact ⟨g1,g2,g4,by omega,by omega⟩
      ·dsimp only;exact g3
      ·dsimp only at hq
       rw [g5]
       obtain ⟨hq1,hq2,X8,hx8,hq3⟩:=hq
       exact ⟨hq1,hq2,X8,fun h0=>hx8 (gx (h0.snoc _ _)),hq3⟩
     |true=>
      have hpi:=piss S0 T l hl n hn ag k hk caps c lt hlt hc (X0++ [[J B2]]) d hsz a b (by omega) h2
      have hz3:(Go.Sort.partialInsertionSort lt d a b).1.size=n:=by unfold Go.Sort.partialInsertionSort;rw [partialIns_size,hsz]
      generalize hpe:Go.Sort.partialInsertionSort lt d a b=pi at*
      obtain ⟨d3,ok⟩:=pi
      dsimp only at hpi hz3
      cases ok with
      |true=>
       have e:Go.Sort.pdq lt d a b li true true=d3:=by rw [pdq_round lt d true true (by omega) hl0];simp [hcc,hpe]
       rw [e]
       simp only [go_sem,lp186_0,hw,q12,ql,hpv,hpi]
       exact ⟨hz3,_,fun h0=>(h0.snoc _ _),rfl⟩
      |false=>
       have e:Go.Sort.pdq lt d a b li true true=pdqT lt d3 a b pv li true true:=by rw [pdq_round lt d true true (by omega) hl0];simp [hcc,hpe]
       rw [e]
       simp only [go_sem,lp186_0,hw,q12,ql,hpv,hpi]
       refine tails S0 T l hl n hn ag k hk caps c lt hlt hc N ih _ _ a b li pv true true d3 hz3 (by omega) h2 hN (by omega) (by omega) (by omega) (by simp only [go_sem]) (by simp only [go_sem]) (by simp only [go_sem]) (by simp only [go_sem]) (by simp only [go_sem]) (by simp only [go_sem]) (by simp only [go_sem]) (by simp only [go_sem]) (by simp only [go_sem]) _ _ (fun en2 a2 b2 wb2 wp2 d9 X9 he gx g1 g2 g3 g4 g5=> ?_)
       obtain ⟨f0,f1,f2,f3,f4,f10,f11⟩:=he
       refine ⟨(a2,b2,li,wb2,wp2,d9,X9),by simp only [go_sem,f0,f1,f2,f3,f4,f10,f11],?_,?_,fun x en s hq=> ?_⟩
       ·dsimp only;exact ⟨g1,g2,g4,by omega,by omega⟩
       ·dsimp only;exact g3
       ·dsimp only at hq
        rw [g5]
        obtain ⟨hq1,hq2,X8,hx8,hq3⟩:=hq
        exact ⟨hq1,hq2,X8,fun h0=>hx8 (gx (h0.snoc _ _)),hq3⟩
    |decreasing=>
     have hpv:run L 222 [.rsl l 0 n n 1 ag,J a,J b,.fn (.func k) [] caps] ⟨put S0 l (Dm gS d) X0,T⟩=some (.tup [J pv,I 2],⟨put S0 l (Dm gS d) (X0++ [[J B2]]),T⟩):=hpv
     have hrv:=revs S0 T l hl n hn ag k caps (X0++ [[J B2]]) d hsz a b (by omega) h2
     have hz2:(Go.Sort.reverseRange d a b).size=n:=by rw [reverseRange_size,hsz]
     have hpa:=subJ pv a (by omega) (by omega)
     have hpb:=subJ (b-1) (pv-a) (by omega) (by omega)
     generalize hd2:Go.Sort.reverseRange d a b=d2 at*
     cases wp with
     |false=>
      have e:Go.Sort.pdq lt d a b li true false=pdqT lt d2 a b (b-1-(pv-a)) li true false:=by rw [pdq_round lt d true false (by omega) hl0];simp [hcc,hd2]
      rw [e]
      simp only [go_sem,lp186_0,hw,q12,ql,hpv,hrv,hb1,hpa,hpb]
      refine tails S0 T l hl n hn ag k hk caps c lt hlt hc N ih _ _ a b li (b-1-(pv-a)) true false d2 hz2 (by omega) h2 hN (by omega) (by omega) (by omega) (by simp only [go_sem]) (by simp only [go_sem]) (by simp only [go_sem]) (by simp only [go_sem]) (by simp only [go_sem]) (by simp only [go_sem]) (by simp only [go_sem]) (by simp only [go_sem]) (by simp only [go_sem]) _ _ (fun en2 a2 b2 wb2 wp2 d9 X9 he gx g1 g2 g3 g4 g5=> ?_)
      obtain ⟨f0,f1,f2,f3,f4,f10,f11⟩:=he
      refine ⟨(a2,b2,li,wb2,wp2,d9,X9),by simp only [go_sem,f0,f1,f2,f3,f4,f10,f11],?_,?_,fun x en s hq=> ?_⟩
      ·dsimp only;exact ⟨g1,g2,g4,by omega,by omega⟩
      ·dsimp only;exact g3
      ·dsimp only at hq
       rw [g5]
       obtain ⟨hq1,hq2,X8,hx8,hq3⟩:=hq
       exact ⟨hq1,hq2,X8,fun h0=>hx8 (gx (h0.snoc _ _)),hq3⟩
     |true=>
      have hpi:=piss S0 T l hl n hn ag k hk caps c lt hlt hc (X0++ [[J B2]]) d2 hz2 a b (by omega) h2
      have hz3:(Go.Sort.partialInsertionSort lt d2 a b).1.size=n:=by unfold Go.Sort.partialInsertionSort;rw [partialIns_size,hz2]
      generalize hpe:Go.Sort.partialInsertionSort lt d2 a b=pi at*
      obtain ⟨d3,ok⟩:=pi
      dsimp only at hpi hz3
      cases ok with
      |true=>
       have e:Go.Sort.pdq lt d a b li true true=d3:=by rw [pdq_round lt d true true (by omega) hl0];simp [hcc,hd2,hpe]
       rw [e]
       simp only [go_sem,lp186_0,hw,q12,ql,hpv,hrv,hb1,hpa,hpb,hpi]
       exact ⟨hz3,_,fun h0=>(h0.snoc _ _),rfl⟩
      |false=>
       have e:Go.Sort.pdq lt d a b li true true=pdqT lt d3 a b (b-1-(pv-a)) li true true:=by rw [pdq_round lt d true true (by omega) hl0];simp [hcc,hd2,hpe]
       rw [e]
       simp only [go_sem,lp186_0,hw,q12,ql,hpv,hrv,hb1,hpa,hpb,hpi]
       refine tails S0 T l hl n hn ag k hk caps c lt hlt hc N ih _ _ a b li (b-1-(pv-a)) true true d3 hz3 (by omega) h2 hN (by omega) (by omega) (by omega) (by simp only [go_sem]) (by simp only [go_sem]) (by simp only [go_sem]) (by simp only [go_sem]) (by simp only [go_sem]) (by simp only [go_sem]) (by simp only [go_sem]) (by simp only [go_sem]) (by simp only [go_sem]) _ _ (fun en2 a2 b2 wb2 wp2 d9 X9 he gx g1 g2 g3 g4 g5=> ?_)
       obtain ⟨f0,f1,f2,f3,f4,f10,f11⟩:=he
       refine ⟨(a2,b2,li,wb2,wp2,d9,X9),by simp only [go_sem,f0,f1,f2,f3,f4,f10,f11],?_,?_,fun x en s hq=> ?_⟩
       ·dsimp only;exact ⟨g1,g2,g4,by omega,by omega⟩
       ·dsimp only;exact g3
       ·dsimp only at hq
        rw [g5]
        obtain ⟨hq1,hq2,X8,hx8,hq3⟩:=hq
        exact ⟨hq1,hq2,X8,fun h0=>hx8 (gx (h0.snoc _ _)),hq3⟩
end
theorem pdqs (S0:List (List AV))(T:List Nat)(l:Nat)(hl:l<S0.length)(n:Nat)(hn:n≤1000)(ag:Bool)(k:Nat)(hk:pure k=true)(caps:List AV)(c:Fin 256→Fin 256→Int)(lt:Fin 256→Fin 256→Bool)(hlt: ∀x y,lt x y=decide (c x y<0))(hc: ∀x y X E,run L k (fS x::fS y::caps) ⟨put S0 l X E,T⟩=some (I (c x y),⟨put S0 l X E,T⟩))(hn2:n<256): ∀(N a b li:Nat) (d:Array (Fin 256)) (X0:List (List AV)),a≤b→b≤n→d.size=n→li<1000→b-a<N→(Go.Sort.pdq lt d a b li true true).size=n∧∃X1,(PL X0→PL X1)∧run L 186 [.rsl l 0 n n 1 ag,J a,J b,J li,.fn (.func k) [] caps] ⟨put S0 l (Dm gS d) X0,T⟩=some (.tup [],⟨put S0 l (Dm gS (Go.Sort.pdq lt d a b li true true)) X1,T⟩)
 |0,_,_,_,_,_,_,_,_,_,h=>by omega
 |N+1,a,b,li,d,X0,h1,h2,hsz,hli,hN=>by
  have ih:=pdqs S0 T l hl n hn ag k hk caps c lt hlt hc hn2 N
  rw [run_shared (fn:=ir186) rfl rfl]
  simp only [ir186,go_sem]
  generalize hg:lim (headed pure (run L) false _ lp186_0 _ _) _ _=o
  obtain ⟨x,en,s,rfl,h2⟩: ∃x en s,o=some (x,en,s)∧_:=by rw [←hg];exact pdq0s S0 T l hl n hn ag k hk caps c lt hlt hc hn2 N ih _ _ a b li true true d X0 ⟨h1,h2,hsz,hli,by omega⟩ _ _ (by simp only [go_sem]<;>rfl)
  clear hg
  obtain ⟨rfl,hz,X1,hX1,rfl⟩:=h2
  refine ⟨hz,X1,hX1,?_⟩
  simp only [go_sem]
section
variable (S0:List (List AV)) (T:List Nat) (l:Nat) (hl:l<S0.length) (n:Nat) (hn:n≤1000) (ag:Bool) (k:Nat) (hk:pure k=true) (caps:List AV) (c:Fin 256→Fin 256→Int) (lt:Fin 256→Fin 256→Bool) (hlt: ∀x y,lt x y=decide (c x y<0)) (hc: ∀x y X E,run L k (fS x::fS y::caps) ⟨put S0 l X E,T⟩=some (I (c x y),⟨put S0 l X E,T⟩))
include S0 T l hl n hn ag k hk caps c lt hlt hc
theorem sorts (hn2:n<256)(d:Array (Fin 256))(hsz:d.size=n)(X0:List (List AV)):
  ∃X1,(PL X0→PL X1)∧run L 148 [.rsl l 0 n n 1 ag,.fn (.func k) [] caps] ⟨put S0 l (Dm gS d) X0,T⟩=some (.tup [],⟨put S0 l (Dm gS (Go.Sort.sort lt d)) X1,T⟩):=by
 rw [run_shared (fn:=ir148) rfl rfl]
 have hcv:=wrapU n (by omega)
 have h115:=fun st=>c187 n hn2 st
 have hbl:Go.Sort.bitsLen n<1000:=by
  have:=(Go.Sort.bitsLen_le_iff n 8).2 (by omega)
  omega
 obtain ⟨hz,X1,hX1,h⟩:=pdqs S0 T l hl n hn ag k hk caps c lt hlt hc hn2 (n+1) 0 n (Go.Sort.bitsLen n) d X0 (by omega) (by omega) hsz hbl (by omega)
 refine ⟨X1,hX1,?_⟩
 have e:Go.Sort.sort lt d=Go.Sort.pdq lt d 0 n (Go.Sort.bitsLen n) true true:=by unfold Go.Sort.sort;rw [hsz]
 rw [e]
 have h:run L 186 [.rsl l 0 n n 1 ag,I 0,J n,J (Go.Sort.bitsLen n),.fn (.func k) [] caps] ⟨put S0 l (Dm gS d) X0,T⟩=_:=h
 simp only [ir148,go_sem,hcv,h115,h]
end
attribute [local go_sem] m_ x_ l_ k_ o_ t_ a_ s_ q_ b_ c_ u_ g_ shaped_t cells_t isAgg_t storable_t okRef_t
theorem memb_inj {a b:Nat} (ha:a<512)(hb:b<512)(h:memb a=memb b):a=b:=by
 apply Nat.eq_of_testBit_eq;intro i
 have h1:=memb_mem ha (i:Int)
 have h2:=memb_mem hb (i:Int)
 rw [h] at h1
 have h3:(∃j:Nat,(i:Int)=j∧a.testBit j=true)↔(∃j:Nat,(i:Int)=j∧b.testBit j=true):=h1.symm.trans h2
 cases ha':a.testBit i
 ·cases hb':b.testBit i
  ·rfl
  ·obtain ⟨j,hj,hj2⟩:=h3.2 ⟨i,rfl,hb'⟩
   have:i=j:=by omega
   subst this
   rw [ha'] at hj2;cases hj2
 ·obtain ⟨j,hj,hj2⟩:=h3.1 ⟨i,rfl,ha'⟩
  have:i=j:=by omega
  subst this
  exact hj2.symm
theorem swo_lex {α:Type} (f:α→List Int):Go.Sort.SWO (fun x y=>lexLt (f x) (f y)) where
 irrefl x:=lex_irrefl _
 trans x y z:=lex_trans _ _ _
 ntrans x y z h1 h2:=lex_le h2 h1
def sortA {α:Type} [Inhabited α] (lt:α→α→Bool) (l:List α):List α:=(Go.Sort.sort lt l.toArray).toList
theorem sortA_perm {α:Type} [Inhabited α] {lt:α→α→Bool} (h:Go.Sort.SWO lt)(l:List α):(sortA lt l).Perm l:=by
 have h1:=(Go.Sort.sort_sorts lt h l.toArray).1
 have h2:=h1.2.2
 have hs:(Go.Sort.sort lt l.toArray).size=l.toArray.size:=h1.1
 rw [Go.Sort.extract_toList _ _ _ (by rw [hs];exact Nat.le_refl _),Go.Sort.extract_toList _ _ _ (Nat.le_refl _)] at h2
 have key: ∀(d:Array α),(List.range' 0 (d.size-0)).map (fun i=>d[i]!)=d.toList:=by
  intro d
  apply List.ext_getElem
  ·simp
  ·intro i h1 h2
   simp at h1 h2⊢
   exact getElem!_pos d i h2
 have e1:=key (Go.Sort.sort lt l.toArray)
 rw [hs] at e1
 rw [e1,key] at h2
 exact h2
theorem sortA_sorted {α:Type} [Inhabited α] {lt:α→α→Bool} (h:Go.Sort.SWO lt)(l:List α):(sortA lt l).Pairwise (fun x y=>lt y x=false):=by
 have h1:=Go.Sort.sort_sorts lt h l.toArray
 have hs:(Go.Sort.sort lt l.toArray).size=l.toArray.size:=h1.1.1
 rw [List.pairwise_iff_getElem]
 intro i j hi hj hij
 unfold sortA at hi hj⊢
 simp only [Array.length_toList] at hi hj
 have:=h1.2 i j (Nat.zero_le _) hij (by rw [←hs];exact hj)
 rw [getElem!_pos _ i hi,getElem!_pos _ j hj] at this
 simpa using this
def lt8 (x y:Fin 256):Bool:=lexLt (memb x.val) (memb y.val)
def fin8 (ss:List Nat):List (Fin 256):=ss.map fun x=>⟨x % 256,Nat.mod_lt _ (by decide)⟩
theorem fin8_val {ss:List Nat} (h: ∀s∈ss,s<256):(fin8 ss).map (fun x=>x.val)=ss:=by
 unfold fin8
 rw [List.map_map]
 conv=>rhs;rw [←List.map_id ss]
 apply List.map_congr_left
 intro x hx
 exact Nat.mod_eq_of_lt (h x hx)
def srt (ss:List Nat):List Nat:=(sortA lt8 (fin8 ss)).map (fun x=>x.val)
theorem srt_perm {ss:List Nat} (h: ∀s∈ss,s<256):(srt ss).Perm ss:=by
 have:=(sortA_perm (swo_lex (fun x:Fin 256=>memb x.val)) (fin8 ss)).map (fun x=>x.val)
 rw [fin8_val h] at this
 exact this
def LexLe (a b:Nat):Prop:=lexLt (memb b) (memb a)=false
theorem LexLe.anti {a b:Nat} (ha:a<512)(hb:b<512)(h1:LexLe a b)(h2:LexLe b a):a=b:=memb_inj ha hb (lex_total _ _ h2 h1)
theorem srt_sorted (ss:List Nat):(srt ss).Pairwise LexLe:=by
 unfold srt
 rw [List.pairwise_map]
 exact sortA_sorted (swo_lex (fun x:Fin 256=>memb x.val)) (fin8 ss)
theorem srt_len {ss:List Nat} (h: ∀s∈ss,s<256):(srt ss).length=ss.length:=(srt_perm h).length_eq
theorem c149 (a b:Nat)(ha:a<256)(hb:b<256)(st:St):run L 149 [E8 a,E8 b] st=some (I (cmpN (memb a) (memb b)),st):=by
 rw [run_pure (fn:=ir149) rfl rfl]
 have h1:=fun st=>c101 a ha st
 have h2:=fun st=>c101 b hb st
 have hm:=memb_len a
 have h3: ∀st,run L 68 [tAV (memb a),tAV (memb b)] st=some (I (cmpN (memb a) (memb b)),st):=fun st=>c68 true true (memb a) (memb b) (by omega) st
 simp only [ir149,go_sem,h1,h2,h3]
attribute [local go_sem] m_ x_ l_ k_ o_ t_ a_ s_ q_ b_ c_ u_ g_ okRef_o storable_o shaped_o cells_o fin_o pub_o shaped_t cells_t isAgg_t storable_t okRef_t pub_t
theorem PL_ok {X:List (List AV)} (h:PL X)(n:Nat):okStore n X=true:=by
 induction X with
 |nil=>rfl
 |cons B r ih=>
  obtain ⟨k,i,rfl⟩:=h B (by simp)
  simp only [okStore,ih (fun C hC=>h C (by simp [hC])),okRefs,okRef,Bool.and_self]
theorem PL_ren {X:List (List AV)} (h:PL X)(n:Nat)(T:List Nat)(acc:List (Nat×Nat)):renStore n T acc X=(X,acc):=by
 induction X generalizing acc with
 |nil=>rfl
 |cons B r ih=>
  obtain ⟨k,i,rfl⟩:=h B (by simp)
  simp only [renStore,renCells,ren1,ih (fun C hC=>h C (by simp [hC]))]
abbrev cmpS:AV:=.fn (.func 149) [] []
theorem Dm_fin8 {ss:List Nat} (h: ∀s∈ss,s<256):Dm gS (fin8 ss).toArray=ss.map u8:=by
 unfold Dm
 show (fin8 ss).map (fun x=>u8 x.val)=ss.map u8
 rw [show (fun x:Fin 256=>u8 x.val)=u8∘(fun x:Fin 256=>x.val) from rfl,←List.map_map,fin8_val h]
theorem Dm_srt (ss:List Nat):Dm gS (Go.Sort.sort lt8 (fin8 ss).toArray)=(srt ss).map u8:=by
 unfold Dm srt sortA
 rw [List.map_map];rfl
theorem c148 (S0:List (List AV))(T:List Nat)(l:Nat)(hl:l<S0.length)(ag:Bool)(ss:List Nat)(h: ∀s∈ss,s<256)(hn:ss.length<256):
  ∃X1,PL X1∧run L 148 [.rsl l 0 ss.length ss.length 1 ag,cmpS] ⟨S0.set l (ss.map u8),T⟩=some (.tup [],⟨S0.set l ((srt ss).map u8)++X1,T⟩):=by
 obtain ⟨X1,h1,h2⟩:=sorts S0 T l hl ss.length (by omega) ag 149 rfl [] (fun x y=>cmpN (memb x.val) (memb y.val)) lt8 (fun x y=>(cmpN_lt _ _).symm)
  (fun x y X E=>c149 x.val y.val x.isLt y.isLt _) hn (fin8 ss).toArray (by simp [fin8]) []
 rw [Dm_fin8 h,Dm_srt] at h2
 unfold put at h2
 rw [List.append_nil] at h2
 exact ⟨X1,h1 PL.nil,h2⟩
theorem ins1n (st0:St)(lo hi:Nat)(i:Nat)(hok:True)(env:Env)(st:St)
  (hg:gcAV false lo hi (canon env [0,1,2,3,8]) st=([(0,.v (.slice none 0 0)),(1,I 0),(2,I 0),(3,cmpS),(8,J i)],st0)):
  ∃x_1 en s,lim (headed pure (run L) false [0,1,2,3,8] lp219_1 lo hi) env st=some (x_1,en,s)∧(x_1=.exit 0∧s=st0):=by
 refine loop_wp (α:=Nat) (fun i=>0) (fun i=>True) (fun i=>([(0,.v (.slice none 0 0)),(1,I 0),(2,I 0),(3,cmpS),(8,J i)],st0)) (fun i x_1 en s=>x_1=.exit 0∧s=st0) (fun i hok=> ?_) i hok env st hg
 have hlt:((i:Int)<0)=False:=eF (by omega)
 simp only [go_sem,lp219_1,hlt]
theorem c219n (st:St):run L 219 [.v (.slice none 0 0),I 0,I 0,cmpS] st=some (.tup [],st):=by
 rw [run_shared (fn:=ir219) rfl rfl]
 have h1:IntKind.i64.wrap 1=1:=by decide
 simp only [ir219,go_sem,h1]
 generalize hg:lim (headed pure (run L) false _ lp219_1 _ _) _ _=o
 obtain ⟨x,en,s,rfl,h2⟩: ∃x en s,o=some (x,en,s)∧_:=by rw [←hg];exact ins1n st _ _ 1 trivial _ _ (by simp only [go_sem,show I 1=J 1 from rfl]<;>rfl)
 clear hg
 obtain ⟨rfl,rfl⟩:=h2
 simp only [go_sem]
theorem pdqn (st0:St)(lo hi:Nat)(i:Nat)(hok:True)(env:Env)(st:St)
  (hg:gcAV false lo hi (canon env [0,1,2,3,4,10,11]) st=([(0,.v (.slice none 0 0)),(1,I 0),(2,I 0),(3,J i),(4,cmpS),(10,B true),(11,B true)],st0)):
  ∃x_1 en s,lim (headed pure (run L) false [0,1,2,3,4,10,11] lp186_0 lo hi) env st=some (x_1,en,s)∧(x_1=.ret∧s=st0):=by
 refine loop_wp (α:=Nat) (fun i=>0) (fun i=>True) (fun i=>([(0,.v (.slice none 0 0)),(1,I 0),(2,I 0),(3,J i),(4,cmpS),(10,B true),(11,B true)],st0)) (fun i x_1 en s=>x_1=.ret∧s=st0) (fun i hok=> ?_) i hok env st hg
 have h1:IntKind.i64.wrap 0=0:=by decide
 have h2:((0:Int)≤12)=True:=eT (by omega)
 simp only [go_sem,lp186_0,h1,h2,c219n]
theorem c148n (st:St):run L 148 [.v (.slice none 0 0),cmpS] st=some (.tup [],st):=by
 have h129: ∀i:Nat,run L 186 [.v (.slice none 0 0),I 0,I 0,J i,cmpS] st=some (.tup [],st):=by
  intro i
  rw [run_shared (fn:=ir186) rfl rfl]
  simp only [ir186,go_sem]
  generalize hg:lim (headed pure (run L) false _ lp186_0 _ _) _ _=o
  obtain ⟨x,en,s,rfl,h2⟩: ∃x en s,o=some (x,en,s)∧_:=by rw [←hg];exact pdqn st _ _ i trivial _ _ (by simp only [go_sem]<;>rfl)
  clear hg
  obtain ⟨rfl,rfl⟩:=h2
  simp only [go_sem]
 rw [run_shared (fn:=ir148) rfl rfl]
 have h115: ∀st,run L 187 [.v (.int .u64 0)] st=some (J (Go.Sort.bitsLen 0),st):=fun st=>c187 0 (by omega) st
 have hcv:IntKind.u64.wrap 0=0:=by decide
 simp only [ir148,go_sem,hcv,h115,h129]
theorem srt_nil:srt []=[]:=List.Perm.eq_nil (srt_perm (by simp))
theorem c97 (n:Nat)(h2:2≤n)(hn:n≤8)(nl:Bool)(X:List Nat)(hX: ∀v∈X,v<2^n∧v≠0∧v≠2^n-1)(hnd:(X.map (smlN n)).Nodup)(hl:X.length≤13):
  (clP (X.map (smlN n)) 0=none→∃X1,PL X1∧run L 97 [J n,sl 1 nl (X.map tM)] ⟨[],[]⟩=some (.tup [kA (srt (X.map (smlN n))),I 0],⟨kS (srt (X.map (smlN n)))++X1,[]⟩))∧
  (clP (X.map (smlN n)) 0≠none→run L 97 [J n,sl 1 nl (X.map tM)] ⟨[],[]⟩=some (.tup [.v (.slice none 0 0),I 12],⟨kS (X.map (smlN n)),[]⟩)):=by
 rw [run_shared (fn:=ir97) rfl rfl]
 have h2n:2^n≤256:=Nat.pow_le_pow_right (n:=2) (by decide) hn
 have h70:=c102 n h2 hn nl X hX hnd (by omega)
 have hss: ∀x∈X.map (smlN n),x<256:=by
  intro x hx
  rw [List.mem_map] at hx
  obtain ⟨v,hv,rfl⟩:=hx
  exact Nat.lt_of_lt_of_le (smlN_lt (hX v hv).1) h2n
 have hk:(X.map (smlN n)).length≤13:=by rw [lm_];exact hl
 generalize X.map (smlN n)=ss at*
 have h71:=fun st=>c103 true ss hss hk st
 have hpl:=plain_clA (clP ss 0)
 by_cases he:ss=[]
 ·subst he
  rw [show kA []=.v (.slice none 0 0) from rfl,show kS []=[] from rfl] at h70
  rw [show sl 1 true (([]:List Nat).map E8)=AV.v (.slice none 0 0) from rfl,show clA (clP [] 0)=.tup [I 0,I 0,B false] from rfl] at h71
  rw [show clA (clP [] 0)=.tup [I 0,I 0,B false] from rfl] at hpl
  refine ⟨fun _=>⟨[],PL.nil,?_⟩,fun h=>absurd rfl h⟩
  rw [srt_nil]
  simp only [ir97,go_sem,h70,show pure 102=false from rfl,show pure 103=true from rfl,shStore,shV,shVs,frz1_nil,h71,hpl,c148n]
  rfl
 ·rw [kA_ne he,kS_ne he] at h70
  have hsv:=shVs_8 0 ss
  obtain ⟨S2,hfr⟩:=frz1_at he []
  refine ⟨fun hc=> ?_,fun hc=> ?_⟩
  ·rw [hc,show clA none=.tup [I 0,I 0,B false] from rfl] at h71 hpl
   obtain ⟨X1,hX1,h80⟩:=c148 [ss.map u8] [] 0 (by simp) true ss hss (by omega)
   refine ⟨X1,hX1,?_⟩
   have h80:run L 148 [.rsl 0 0 ss.length ss.length 1 true,cmpS] ⟨[ss.map u8],[]⟩=some (.tup [],⟨[(srt ss).map u8]++X1,[]⟩):=h80
   have hse:srt ss≠[]:=fun e=>he (List.eq_nil_of_length_eq_zero (by rw [←srt_len hss,e];rfl))
   rw [kA_ne hse,kS_ne hse,srt_len hss]
   simp only [ir97,go_sem,h70,show pure 102=false from rfl,show pure 103=true from rfl,shStore,shV,shVs,hsv,hfr,h71,hpl,h80]
  ·obtain ⟨p,hp⟩:=Option.ne_none_iff_exists'.1 hc
   obtain ⟨a,b⟩:=p
   rw [hp,show clA (some (a,b))=.tup [J a,J b,B true] from rfl] at h71 hpl
   rw [kS_ne he]
   simp only [ir97,go_sem,h70,show pure 102=false from rfl,show pure 103=true from rfl,shStore,shV,shVs,hsv,hfr,h71,hpl]
abbrev fK {m:Nat} (x:Fin m):AV:=J x.val
attribute [local go_sem] m_ x_ l_ k_ o_ t_ a_ s_ q_ b_ c_ u_ g_ shaped_t cells_t isAgg_t storable_t okRef_t
theorem ins0k (m:Nat) [NeZero m] (S0:List (List AV))(T:List Nat)(l:Nat)(hl:l<S0.length)(n:Nat)(hn:n≤1000)(ag:Bool)(k:Nat)(hk:pure k=false)(caps:List AV)(c:Fin m→Fin m→Int)(lt:Fin m→Fin m→Bool)(hlt: ∀x y,lt x y=decide (c x y<0))(hc: ∀x y X E,run L k (fK x::fK y::caps) ⟨put S0 l X E,T⟩=some (I (c x y),⟨put S0 l X E,T⟩))(X0:List (List AV))(a b i:Nat)(hi:i<n)(lo hi2:Nat)(j:Nat)(d:Array (Fin m))(hok:j≤i∧d.size=n)(env:Env)(st:St)
  (hg:gcAV false lo hi2 (canon env [0,1,2,3,8,9]) st=([(0,.rsl l 0 n n 1 ag),(1,J a),(2,J b),(3,.fn (.func k) [] caps),(8,J i),(9,J j)],⟨put S0 l (Dm fK d) X0,T⟩)):
  ∃x_1 en s,lim (headed pure (run L) false [0,1,2,3,8,9] lp188_0 lo hi2) env st=some (x_1,en,s)∧(x_1=.exit 2∧en.get 0=.rsl l 0 n n 1 ag∧en.get 1=J a∧en.get 2=J b∧en.get 3=.fn (.func k) [] caps∧en.get 8=J i∧s=⟨put S0 l (Dm fK (Go.Sort.insInner lt a j d)) X0,T⟩):=by
 refine loop_wp (α:=Nat×Array (Fin m)) (fun ⟨j,d⟩=>j) (fun ⟨j,d⟩=>j≤i∧d.size=n) (fun ⟨j,d⟩=>([(0,.rsl l 0 n n 1 ag),(1,J a),(2,J b),(3,.fn (.func k) [] caps),(8,J i),(9,J j)],⟨put S0 l (Dm fK d) X0,T⟩)) (fun ⟨j,d⟩ x_1 en s=>x_1=.exit 2∧en.get 0=.rsl l 0 n n 1 ag∧en.get 1=J a∧en.get 2=J b∧en.get 3=.fn (.func k) [] caps∧en.get 8=J i∧s=⟨put S0 l (Dm fK (Go.Sort.insInner lt a j d)) X0,T⟩) (fun ⟨j,d⟩ hok=> ?_) ⟨j,d⟩ hok env st hg
 simp only at hok
 obtain ⟨h1,hsz⟩:=hok
 dsimp only at h1 hsz⊢
 have hget:=fun C E=>put_get hl C E
 have hpset:=fun C C' E=>put_set hl C C' E
 have hlenD:(Dm fK d).length=n:=by rw [Dm_len,hsz]
 by_cases h:a<j
 ·obtain ⟨m0,rfl⟩: ∃m0,j=m0+1:=⟨j-1,by omega⟩
  have e:Go.Sort.insInner lt a (m0+1) d=if (decide (m0+1>a)&&lt d[m0+1]! d[m0]!)=true then Go.Sort.insInner lt a m0 (Go.Sort.swp d (m0+1) m0) else d:=rfl
  rw [e]
  have hgt:((a:Int)<((m0+1:Nat):Int))=True:=eT (by omega)
  have hw:IntKind.i64.wrap (((m0+1:Nat):Int)-1)=((m0:Nat):Int):=by rw [wrap64]<;>omega
  have r10:(((m0+1:Nat):Int)<(n:Int))=True:=eT (by omega)
  have r11:((m0+1:Nat)<n)=True:=eT (by omega)
  have r12:((m0+1:Nat)+1≤n)=True:=eT (by omega)
  have r13:(Dm fK d)[m0+1]? =some (fK d[m0+1]!):=Dm_get fK d (by omega)
  have r20:(((m0:Nat):Int)<(n:Int))=True:=eT (by omega)
  have r21:((m0:Nat)<n)=True:=eT (by omega)
  have r22:((m0:Nat)+1≤n)=True:=eT (by omega)
  have r23:(Dm fK d)[m0]? =some (fK d[m0]!):=Dm_get fK d (by omega)
  have hd:decide (m0+1>a)=true:=decide_eq_true (by omega)
  have hsw:=Dm_swp fK d (m0+1) m0
  rw [hd,Bool.true_and]
  cases hcc:lt d[m0+1]! d[m0]! with
  |true=>
   have hk0:(c d[m0+1]! d[m0]! <0)=True:=by rw [hlt] at hcc;simpa using hcc
   rw [if_pos rfl]
   generalize d[m0+1]! =x at*
   generalize d[m0]! =y at*
   simp only [go_sem,lp188_0,hgt,hw,r10,r11,r12,r13,r20,r21,r22,r23,hc,hk,hk0,hget,hpset,hlenD,nn_,lm_,List.length_set]
   refine ⟨(m0,Go.Sort.swp d (m0+1) m0),by simp only [go_sem,ren1_locm,loc_tips,locT_eq,hsw]<;>rfl,?_,?_,fun x en s hq=> ?_⟩
   ·dsimp only;exact ⟨by omega,swp_size' hsz⟩
   ·dsimp only;omega
   ·exact hq
  |false=>
   have hk0:(c d[m0+1]! d[m0]! <0)=False:=by rw [hlt] at hcc;simpa using hcc
   rw [if_neg (by simp)]
   generalize d[m0+1]! =x at*
   generalize d[m0]! =y at*
   simp only [go_sem,lp188_0,hgt,hw,r10,r11,r12,r13,r20,r21,r22,r23,hc,hk,hk0,hget,hpset,hlenD,nn_,lm_,List.length_set]
 ·have hgt:((a:Int)<(j:Int))=False:=eF (by omega)
  have e:Go.Sort.insInner lt a j d=d:=by
   cases j with
   |zero=>rfl
   |succ m0=>unfold Go.Sort.insInner;rw [if_neg (by simp;omega)]
  rw [e]
  simp only [go_sem,lp188_0,hgt]
theorem ins1k (m:Nat) [NeZero m] (S0:List (List AV))(T:List Nat)(l:Nat)(hl:l<S0.length)(n:Nat)(hn:n≤1000)(ag:Bool)(k:Nat)(hk:pure k=false)(caps:List AV)(c:Fin m→Fin m→Int)(lt:Fin m→Fin m→Bool)(hlt: ∀x y,lt x y=decide (c x y<0))(hc: ∀x y X E,run L k (fK x::fK y::caps) ⟨put S0 l X E,T⟩=some (I (c x y),⟨put S0 l X E,T⟩))(X0:List (List AV))(a b:Nat)(hb:b≤n)(lo hi2:Nat)(i:Nat)(d:Array (Fin m))(hok:i≤n+1∧d.size=n)(env:Env)(st:St)
  (hg:gcAV false lo hi2 (canon env [0,1,2,3,8]) st=([(0,.rsl l 0 n n 1 ag),(1,J a),(2,J b),(3,.fn (.func k) [] caps),(8,J i)],⟨put S0 l (Dm fK d) X0,T⟩)):
  ∃x_1 en s,lim (headed pure (run L) false [0,1,2,3,8] lp188_1 lo hi2) env st=some (x_1,en,s)∧(x_1=.exit 0∧s=⟨put S0 l (Dm fK (Go.Sort.insOuter lt a b i d)) X0,T⟩):=by
 refine loop_wp (α:=Nat×Array (Fin m)) (fun ⟨i,d⟩=>b-i) (fun ⟨i,d⟩=>i≤n+1∧d.size=n) (fun ⟨i,d⟩=>([(0,.rsl l 0 n n 1 ag),(1,J a),(2,J b),(3,.fn (.func k) [] caps),(8,J i)],⟨put S0 l (Dm fK d) X0,T⟩)) (fun ⟨i,d⟩ x_1 en s=>x_1=.exit 0∧s=⟨put S0 l (Dm fK (Go.Sort.insOuter lt a b i d)) X0,T⟩) (fun ⟨i,d⟩ hok=> ?_) ⟨i,d⟩ hok env st hg
 simp only at hok
 obtain ⟨h1,hsz⟩:=hok
 dsimp only at h1 hsz⊢
 by_cases h:i<b
 ·have e:Go.Sort.insOuter lt a b i d=Go.Sort.insOuter lt a b (i+1) (Go.Sort.insInner lt a i d):=by
   rw [Go.Sort.insOuter,if_pos h]
  rw [e]
  have hlt2:((i:Int)<(b:Int))=True:=eT (by omega)
  have hs:=succ64 i (by omega)
  have hz:(Go.Sort.insInner lt a i d).size=n:=by rw [insInner_size,hsz]
  simp only [go_sem,lp188_1,hlt2]
  generalize hg:lim (headed pure (run L) false _ lp188_0 _ _) _ _=o
  obtain ⟨x,en,s,rfl,h2⟩: ∃x en s,o=some (x,en,s)∧_:=by rw [←hg];exact ins0k m S0 T l hl n hn ag k hk caps c lt hlt hc X0 a b i (by omega) _ _ i d ⟨Nat.le_refl _,hsz⟩ _ _ (by simp only [go_sem]<;>rfl)
  clear hg
  obtain ⟨rfl,e0,e1,e2,e3,e8,rfl⟩:=h2
  simp only [go_sem,lp188_1,e0,e1,e2,e3,e8,hs]
  refine ⟨(i+1,Go.Sort.insInner lt a i d),by simp only [go_sem,ren1_locm,loc_tips,locT_eq,e0,e1,e2,e3,e8]<;>rfl,?_,?_,fun x en s hq=> ?_⟩
  ·dsimp only;exact ⟨by omega,hz⟩
  ·dsimp only;omega
  ·exact hq
 ·have e:Go.Sort.insOuter lt a b i d=d:=by rw [Go.Sort.insOuter,if_neg h]
  rw [e]
  have hlt2:((i:Int)<(b:Int))=False:=eF (by omega)
  simp only [go_sem,lp188_1,hlt2]
theorem insk (m:Nat) [NeZero m] (S0:List (List AV))(T:List Nat)(l:Nat)(hl:l<S0.length)(n:Nat)(hn:n≤1000)(ag:Bool)(k:Nat)(hk:pure k=false)(caps:List AV)(c:Fin m→Fin m→Int)(lt:Fin m→Fin m→Bool)(hlt: ∀x y,lt x y=decide (c x y<0))(hc: ∀x y X E,run L k (fK x::fK y::caps) ⟨put S0 l X E,T⟩=some (I (c x y),⟨put S0 l X E,T⟩))(X0:List (List AV))(a b:Nat)(ha:a≤n)(hb:b≤n)(d:Array (Fin m))(hsz:d.size=n):
  run L 188 [.rsl l 0 n n 1 ag,J a,J b,.fn (.func k) [] caps] ⟨put S0 l (Dm fK d) X0,T⟩=some (.tup [],⟨put S0 l (Dm fK (Go.Sort.insertionSort lt d a b)) X0,T⟩):=by
 rw [run_shared (fn:=ir188) rfl rfl]
 have hs:=succ64 a (by omega)
 simp only [ir188,go_sem,hs]
 generalize hg:lim (headed pure (run L) false _ lp188_1 _ _) _ _=o
 obtain ⟨x,en,s,rfl,h2⟩: ∃x en s,o=some (x,en,s)∧_:=by rw [←hg];exact ins1k m S0 T l hl n hn ag k hk caps c lt hlt hc X0 a b hb _ _ (a+1) d ⟨by omega,hsz⟩ _ _ (by simp only [go_sem]<;>rfl)
 clear hg
 obtain ⟨rfl,rfl⟩:=h2
 simp only [go_sem]
 rfl
attribute [local go_sem] m_ x_ l_ k_ o_ t_ a_ s_ q_ b_ c_ u_ g_ okRef_o storable_o shaped_o cells_o fin_o pub_o shaped_t cells_t isAgg_t storable_t okRef_t pub_t
theorem pp_get {α:Type} (A L:List α) {p:Nat} (hp:A.length=p)(k:Nat):(A++L)[p+k]? =L[k]? :=by
 subst hp;rw [List.getElem?_append_right (by omega)];simp
theorem pp_get0 {α:Type} (A L:List α) {p:Nat} (hp:A.length=p):(A++L)[p]? =L[0]? :=pp_get A L hp 0
theorem pp_set {α:Type} (A L:List α) {p:Nat} (hp:A.length=p)(k:Nat)(v:α):(A++L).set (p+k) v=A++L.set k v:=by
 subst hp;rw [List.set_append_right _ _ (by omega)];simp
theorem pp_set0 {α:Type} (A L:List α) {p:Nat} (hp:A.length=p)(v:α):(A++L).set p v=A++L.set 0 v:=pp_set A L hp 0 v
theorem pp_len {α:Type} (A L:List α) {p:Nat} (hp:A.length=p):(A++L).length=p+L.length:=by rw [List.length_append,hp]
theorem pp_take {α:Type} (A L:List α) {p:Nat} (hp:A.length=p)(k:Nat):(A++L).take (p+k)=A++L.take k:=by
 subst hp;rw [List.take_append,List.take_of_length_le (by omega),Nat.add_sub_cancel_left]
structure Calm (A:List (List AV)):Prop where
 ok: ∀n,okStore n A=true
 ren: ∀n T acc,renStore n T acc A=(A,acc)
theorem Calm.okApp {A:List (List AV)} (h:Calm A)(n:Nat)(L:List (List AV)):okStore n (A++L)=okStore n L:=by
 have key: ∀(B:List (List AV)),okStore n (B++L)=(okStore n B&&okStore n L):=by
  intro B
  induction B with
  |nil=>rfl
  |cons b r ih=>simp only [List.cons_append,okStore,ih,Bool.and_assoc]
 rw [key,h.ok,Bool.true_and]
theorem Calm.renApp {A:List (List AV)} (h:Calm A)(n:Nat)(T:List Nat)(acc:List (Nat×Nat))(L:List (List AV)):renStore n T acc (A++L)=(A++(renStore n T acc L).1,(renStore n T acc L).2):=by
 have key: ∀(B:List (List AV)) (acc:List (Nat×Nat)),renStore n T acc (B++L)=((renStore n T acc B).1++(renStore n T (renStore n T acc B).2 L).1,(renStore n T (renStore n T acc B).2 L).2):=by
  intro B
  induction B with
  |nil=>intro acc;rfl
  |cons b r ih=>intro acc;simp only [List.cons_append,renStore,ih]
 rw [key,h.ren]
theorem PL.calm {X:List (List AV)} (h:PL X):Calm X:=⟨PL_ok h,PL_ren h⟩
theorem Calm.cons {A:List (List AV)} (h:Calm A) {C:List AV} (hC1: ∀n,okRefs n C=true)(hC2: ∀n T acc,renCells n T acc C=(C,acc)):Calm (C::A):=
 ⟨fun n=>by simp only [okStore,hC1,h.ok,Bool.and_self],fun n T acc=>by simp only [renStore,hC2,h.ren]⟩
theorem stb0 (st0:St)(R C:AV)(n:Nat)(hn:n<20)(lo hi:Nat)(i:Nat)(hok:i=20)(env:Env)(st:St)
  (hg:gcAV false lo hi (canon env [0,1,2,6,7,8]) st=([(0,R),(1,J n),(2,C),(6,I 20),(7,I 0),(8,J i)],st0)):
  ∃x_1 en s,lim (headed pure (run L) false [0,1,2,6,7,8] lp150_0 lo hi) env st=some (x_1,en,s)∧(x_1=.exit 0∧s=st0∧en.get 0=R∧en.get 1=J n∧en.get 2=C∧en.get 6=I 20∧en.get 7=I 0):=by
 refine loop_wp (α:=Nat) (fun i=>i) (fun i=>i=20) (fun i=>([(0,R),(1,J n),(2,C),(6,I 20),(7,I 0),(8,J i)],st0)) (fun i x_1 en s=>x_1=.exit 0∧s=st0∧en.get 0=R∧en.get 1=J n∧en.get 2=C∧en.get 6=I 20∧en.get 7=I 0) (fun i hok=> ?_) i hok env st hg
 subst hok
 have hlt:((20:Int)≤(n:Int))=False:=eF (by omega)
 simp only [go_sem,lp150_0,hlt]
theorem stb2 (st0:St)(R C:AV)(n:Nat)(hn:n<20)(lo hi:Nat)(i:Nat)(hok:i=20)(env:Env)(st:St)
  (hg:gcAV false lo hi (canon env [0,1,2,6]) st=([(0,R),(1,J n),(2,C),(6,J i)],st0)):
  ∃x_1 en s,lim (headed pure (run L) false [0,1,2,6] lp150_2 lo hi) env st=some (x_1,en,s)∧(x_1=.exit 2∧s=st0):=by
 refine loop_wp (α:=Nat) (fun i=>i) (fun i=>i=20) (fun i=>([(0,R),(1,J n),(2,C),(6,J i)],st0)) (fun i x_1 en s=>x_1=.exit 2∧s=st0) (fun i hok=> ?_) i hok env st hg
 subst hok
 have hlt:((20:Int)<(n:Int))=False:=eF (by omega)
 simp only [go_sem,lp150_2,hlt]
theorem c98 (m:Nat) [NeZero m] (S0:List (List AV))(T:List Nat)(l:Nat)(hl:l<S0.length)(hm:m<20)(ag:Bool)(k:Nat)(hk:pure k=false)(caps:List AV)(c:Fin m→Fin m→Int)(lt:Fin m→Fin m→Bool)(hlt: ∀x y,lt x y=decide (c x y<0))(hc: ∀x y X E,run L k (fK x::fK y::caps) ⟨put S0 l X E,T⟩=some (I (c x y),⟨put S0 l X E,T⟩))(d:Array (Fin m))(hsz:d.size=m):
  run L 98 [.rsl l 0 m m 1 ag,.fn (.func k) [] caps] ⟨put S0 l (Dm fK d) [],T⟩=some (.tup [],⟨put S0 l (Dm fK (Go.Sort.insertionSort lt d 0 m)) [],T⟩):=by
 have h171:run L 188 [.rsl l 0 m m 1 ag,I 0,J m,.fn (.func k) [] caps] ⟨put S0 l (Dm fK d) [],T⟩=some (.tup [],⟨put S0 l (Dm fK (Go.Sort.insertionSort lt d 0 m)) [],T⟩):=
  insk m S0 T l hl m (by omega) ag k hk caps c lt hlt hc [] 0 m (by omega) (Nat.le_refl _) d hsz
 have h132:run L 150 [.rsl l 0 m m 1 ag,J m,.fn (.func k) [] caps] ⟨put S0 l (Dm fK d) [],T⟩=some (.tup [],⟨put S0 l (Dm fK (Go.Sort.insertionSort lt d 0 m)) [],T⟩):=by
  rw [run_shared (fn:=ir150) rfl rfl]
  simp only [ir150,go_sem]
  generalize hg:lim (headed pure (run L) false _ lp150_0 _ _) _ _=o
  obtain ⟨x,en,s,rfl,h2⟩: ∃x en s,o=some (x,en,s)∧_:=by rw [←hg];exact stb0 _ (.rsl l 0 m m 1 ag) (.fn (.func k) [] caps) m hm _ _ 20 rfl _ _ (by simp only [go_sem]<;>rfl)
  clear hg
  obtain ⟨rfl,rfl,e0,e1,e2,e6,e7⟩:=h2
  simp only [go_sem,e0,e1,e2,e6,e7,h171]
  generalize hg:lim (headed pure (run L) false _ lp150_2 _ _) _ _=o
  obtain ⟨x,en,s,rfl,h2⟩: ∃x en s,o=some (x,en,s)∧_:=by rw [←hg];exact stb2 _ (.rsl l 0 m m 1 ag) (.fn (.func k) [] caps) m hm _ _ 20 rfl _ _ (by simp only [go_sem,e0,e1,e2,e6,e7]<;>rfl)
  clear hg
  obtain ⟨rfl,rfl⟩:=h2
  simp only [go_sem]
 rw [run_shared (fn:=ir98) rfl rfl]
 simp only [ir98,go_sem,h132]
def stepA (i:Nat) (UA:List Nat×List Nat) (a:Int):List Nat×List Nat:=(UA.1.set i (UA.2.getD a.toNat 0),UA.2.set a.toNat (i+1))
def stepI (L:List Nat) (UA:List Nat×List Nat) (i:Nat):List Nat×List Nat:=(memb (L.getD i 0)).foldl (stepA i) UA
def growN (L:List Nat) (n:Nat) (order:List Nat):List Nat×List Nat:=order.foldl (stepI L) (List.replicate L.length 0,List.replicate n 0)
theorem stepA_len (i:Nat)(UA:List Nat×List Nat)(a:Int):(stepA i UA a).1.length=UA.1.length∧(stepA i UA a).2.length=UA.2.length:=by
 unfold stepA;simp
theorem foldA_len (i:Nat): ∀(l:List Int) (UA:List Nat×List Nat),(l.foldl (stepA i) UA).1.length=UA.1.length∧(l.foldl (stepA i) UA).2.length=UA.2.length
 | [],UA=>⟨rfl,rfl⟩
 |a::r,UA=>by
  rw [List.foldl_cons]
  have h1:=foldA_len i r (stepA i UA a)
  have h2:=stepA_len i UA a
  exact ⟨h1.1.trans h2.1,h1.2.trans h2.2⟩
theorem getJ (o:List Nat)(a:Nat)(h:a<o.length):(o.map J)[a]? =some (J (o.getD a 0)):=by
 rw [getm J o 0 a,if_pos h]
theorem okRefsJ (n:Nat)(xs:List Nat):okRefs n (xs.map J)=true:=okRefs_map J n (fun _=>rfl) xs
theorem renCellsJ (n:Nat)(tips:List Nat)(acc:List (Nat×Nat))(xs:List Nat):renCells n tips acc (xs.map J)=(xs.map J,acc):=renCells_map J n tips (fun _ _=>rfl) xs acc
theorem setJ (xs:List Nat)(i v:Nat):(xs.map J).set i (J v)=(xs.set i v).map J:=by rw [List.map_set]
def isP (l:Nat):AV→Bool
 | .ptr l' _=>l'==l
 |_=>false
def notP (l:Nat):AV→Bool
 | .ptr l' _=>l' !=l
 |_=>true
theorem onB1 (env:Env)(t:Tmp)(l o:Nat):onB env [t] (.ptr l o)=isP l (env.get t):=by
 show ([t].any fun t=>match env.get t with| .ptr l' _=>l'==l|_=>false)=_
 rw [List.any_cons,List.any_nil,Bool.or_false];rfl
theorem onB_e (env:Env)(ts:List Tmp)(e:AV)(o:Nat):onB env ts (.eptr e o)=true:=rfl
theorem offB1 (env:Env)(t:Tmp)(l o:Nat):offB env [t] (.ptr l o)=notP l (env.get t):=by
 show ([t].all fun t=>match env.get t with| .ptr l' _=>l' !=l|_=>true)=_
 rw [List.all_cons,List.all_nil,Bool.and_true];rfl
theorem isP_ptr (l l' o:Nat):isP l (.ptr l' o)=(l'==l):=rfl
theorem notP_ptr (l l' o:Nat):notP l (.ptr l' o)=(l' !=l):=rfl
theorem loop40_1 (A:List (List AV))(hA:Calm A)(p:Nat)(hp:A.length=p)(h2p:2≤p)(m n:Nat)(hm:m≤13)(hn:n≤8)(D:List AV)(hD1:okRefs (p+5) D=true)(hD2: ∀n T acc,renCells n T acc D=(D,acc))(o:List Nat)(ho:o.length=m)(j i:Nat)(hi:i<m)(l:List Int)(hlr: ∀a∈l,0≤a∧a<(n:Int))(hl9:l.length≤9)(q:Nat)(U:List Nat)(W:List Nat)(hok:q≤l.length∧U.length=m∧W.length=n)(env:Env)(st:St)
  (hg:gcAV true (p+5) 0 (canon env [4,6,10,12,47,48,49,57,58,59]) st=([(4,.ptr 0 0),(6,.ptr p 0),(10,.ptr (p+4) 0),(12,J i),(47,.rsl (p+1) 0 m m 1 false),(48,J m),(49,J j),(57,tAV l),(58,J l.length),(59,J q)],⟨A++ [D,o.map J,U.map J,W.map J,[.rsl (p+2) 0 m m 1 false,.rsl (p+3) 0 n n 1 false]],[]⟩)):
  ∃x_1 en s,lim (headed pure (run L) true [4,6,10,12,47,48,49,57,58,59] lp40_1 (p+5) 0) env st=some (x_1,en,s)∧(x_1=.exit 4∧en.get 4=.ptr 0 0∧en.get 6=.ptr p 0∧en.get 10=.ptr (p+4) 0∧en.get 47=.rsl (p+1) 0 m m 1 false∧en.get 48=J m∧en.get 49=J j∧s=⟨A++ [D,o.map J,((l.drop q).foldl (stepA i) (U,W)).1.map J,((l.drop q).foldl (stepA i) (U,W)).2.map J,[.rsl (p+2) 0 m m 1 false,.rsl (p+3) 0 n n 1 false]],[]⟩):=by
 refine loop_wp (α:=Nat×List Nat×List Nat) (fun ⟨q,U,W⟩=>l.length-q) (fun ⟨q,U,W⟩=>q≤l.length∧U.length=m∧W.length=n) (fun ⟨q,U,W⟩=>([(4,.ptr 0 0),(6,.ptr p 0),(10,.ptr (p+4) 0),(12,J i),(47,.rsl (p+1) 0 m m 1 false),(48,J m),(49,J j),(57,tAV l),(58,J l.length),(59,J q)],⟨A++ [D,o.map J,U.map J,W.map J,[.rsl (p+2) 0 m m 1 false,.rsl (p+3) 0 n n 1 false]],[]⟩)) (fun ⟨q,U,W⟩ x_1 en s=>x_1=.exit 4∧en.get 4=.ptr 0 0∧en.get 6=.ptr p 0∧en.get 10=.ptr (p+4) 0∧en.get 47=.rsl (p+1) 0 m m 1 false∧en.get 48=J m∧en.get 49=J j∧s=⟨A++ [D,o.map J,((l.drop q).foldl (stepA i) (U,W)).1.map J,((l.drop q).foldl (stepA i) (U,W)).2.map J,[.rsl (p+2) 0 m m 1 false,.rsl (p+3) 0 n n 1 false]],[]⟩) (fun ⟨q,U,W⟩ hok=> ?_) ⟨q,U,W⟩ hok env st hg
 simp only at hok
 obtain ⟨h1,hU,hW⟩:=hok
 dsimp only at h1 hU hW⊢
 by_cases h:q<l.length
 ·have hs:=succ64 q (by omega)
  have hlt:((q:Int)<(l.length:Int))=True:=eT (by omega)
  have hx:indexSAV 1 (tAV l) (.v (.int .i64 (q:Int)))=some (.eptr (I l[q]) 0):=index_ints true l q h
  have hd:l.drop q=l[q]::l.drop (q+1):=List.drop_eq_getElem_cons h
  have hb:=hlr l[q] (List.getElem_mem h)
  rw [hd,List.foldl_cons]
  generalize l[q]=a at*
  obtain ⟨a,rfl⟩:=Int.eq_ofNat_of_zero_le hb.1
  have hsa:stepA i (U,W) (a:Int)=(U.set i (W.getD a 0),W.set a (i+1)):=by unfold stepA;rw [Int.toNat_natCast]
  rw [hsa]
  have b1:((a:Int)<(n:Int))=True:=eT (by omega)
  have b2:(a+1≤n)=True:=eT (by omega)
  have b3:((i:Int)<(m:Int))=True:=eT (by omega)
  have b4:(i+1≤m)=True:=eT (by omega)
  have hg:=getJ W a (by omega)
  have hi1:=succ64 i (by omega)
  have g:=fun L k=>pp_get A L hp k
  have s':=fun L k v=>pp_set A L hp k v
  have hu:=setJ U i (W.getD a 0)
  have hw:=setJ W a (i+1)
  have hUl:(U.map J).length=m:=by rw [lm_,hU]
  have hWl:(W.map J).length=n:=by rw [lm_,hW]
  generalize W.getD a 0=v at*
  have n3:(p+4==p+2)=false:=by simp
  have n4:(p+4==p+3)=false:=by simp
  have pt:=fun L k=>pp_take A L hp k
  have l0:(0<p+5)=True:=eT (by omega)
  have l1:(p<p+5)=True:=eT (by omega)
  have l2:(p+1<p+5)=True:=eT (by omega)
  have l3:(p+2<p+5)=True:=eT (by omega)
  have l4:(p+3<p+5)=True:=eT (by omega)
  have l5:(p+4<p+5)=True:=eT (by omega)
  simp only [go_sem,lp40_1,hlt,hx,hs,b1,b2,b3,b4,hg,hi1,g,s',hUl,hWl,hu,hw,onB1,onB_e,offB1,isP_ptr,notP_ptr,n3,n4,nn_,hU,hW,lm_]
  refine ⟨(q+1,U.set i v,W.set a (i+1)),by simp only [go_sem,ren1_locm,loc_tips,locT_eq,hA.okApp,hA.renApp,pt,okRefsJ,renCellsJ,hD1,hD2,ren1_t,l0,l1,l2,l3,l4,l5]<;>rfl,?_,?_,fun x en s hq=> ?_⟩
  ·dsimp only;exact ⟨by omega,by rw [List.length_set,hU],by rw [List.length_set,hW]⟩
  ·dsimp only;omega
  ·exact hq
 ·have hd:l.drop q=[]:=List.drop_eq_nil_of_le (by omega)
  have hlt:((q:Int)<(l.length:Int))=False:=eF (by omega)
  rw [hd]
  simp only [go_sem,lp40_1,hlt]
  rfl
theorem slice8 (ss:List Nat)(j:Nat)(h:j<ss.length):((ss.map u8).drop j).take 1=[u8 (ss.getD j 0)]:=by
 rw [List.drop_eq_getElem_cons (by simpa using h),List.take_succ_cons,List.take_zero,List.getElem_map]
 simp [List.getD_eq_getElem?_getD,h]
attribute [local go_sem] m_ x_ l_ k_ o_ t_ a_ s_ q_ b_ c_ u_ g_ okRef_o storable_o shaped_o cells_o fin_o pub_o shaped_t cells_t isAgg_t storable_t okRef_t pub_t
theorem stepI_len (L:List Nat)(UA:List Nat×List Nat)(i:Nat):(stepI L UA i).1.length=UA.1.length∧(stepI L UA i).2.length=UA.2.length:=foldA_len i _ UA
theorem loop40_2 (A:List (List AV))(hA:Calm A)(p:Nat)(hp:A.length=p)(h2p:2≤p)(ss:List Nat)(hA1: ∀L,(A++L)[1]? =some (ss.map u8))(n:Nat)(hm:ss.length≤13)(hn:n≤8)(hss: ∀s∈ss,s<2^n)(od:List Nat)(ho:od.length=ss.length)(hor: ∀x∈od,x<ss.length)(j:Nat)(U:List Nat)(W:List Nat)(hok:j≤od.length∧U.length=ss.length∧W.length=n)(env:Env)(st:St)
  (hg:gcAV true (p+5) 0 (canon env [4,6,10,47,48,49]) st=([(4,.ptr 0 0),(6,.ptr p 0),(10,.ptr (p+4) 0),(47,.rsl (p+1) 0 ss.length ss.length 1 false),(48,J ss.length),(49,J j)],⟨A++ [[.rsl 1 0 ss.length ss.length 1 true],od.map J,U.map J,W.map J,[.rsl (p+2) 0 ss.length ss.length 1 false,.rsl (p+3) 0 n n 1 false]],[]⟩)):
  ∃x_1 en s,lim (headed pure (run L) true [4,6,10,47,48,49] lp40_2 (p+5) 0) env st=some (x_1,en,s)∧(x_1=.exit 2∧en.get 4=.ptr 0 0∧en.get 10=.ptr (p+4) 0∧s=⟨A++ [[.rsl 1 0 ss.length ss.length 1 true],od.map J,((od.drop j).foldl (stepI ss) (U,W)).1.map J,((od.drop j).foldl (stepI ss) (U,W)).2.map J,[.rsl (p+2) 0 ss.length ss.length 1 false,.rsl (p+3) 0 n n 1 false]],[]⟩):=by
 refine loop_wp (α:=Nat×List Nat×List Nat) (fun ⟨j,U,W⟩=>od.length-j) (fun ⟨j,U,W⟩=>j≤od.length∧U.length=ss.length∧W.length=n) (fun ⟨j,U,W⟩=>([(4,.ptr 0 0),(6,.ptr p 0),(10,.ptr (p+4) 0),(47,.rsl (p+1) 0 ss.length ss.length 1 false),(48,J ss.length),(49,J j)],⟨A++ [[.rsl 1 0 ss.length ss.length 1 true],od.map J,U.map J,W.map J,[.rsl (p+2) 0 ss.length ss.length 1 false,.rsl (p+3) 0 n n 1 false]],[]⟩)) (fun ⟨j,U,W⟩ x_1 en s=>x_1=.exit 2∧en.get 4=.ptr 0 0∧en.get 10=.ptr (p+4) 0∧s=⟨A++ [[.rsl 1 0 ss.length ss.length 1 true],od.map J,((od.drop j).foldl (stepI ss) (U,W)).1.map J,((od.drop j).foldl (stepI ss) (U,W)).2.map J,[.rsl (p+2) 0 ss.length ss.length 1 false,.rsl (p+3) 0 n n 1 false]],[]⟩) (fun ⟨j,U,W⟩ hok=> ?_) ⟨j,U,W⟩ hok env st hg
 simp only at hok
 obtain ⟨h1,hU,hW⟩:=hok
 dsimp only at h1 hU hW⊢
 have h2n:2^n≤256:=Nat.pow_le_pow_right (n:=2) (by decide) hn
 have pt:=fun L k=>pp_take A L hp k
 have l0:(0<p+5)=True:=eT (by omega)
 have l0':(1<p+5)=True:=eT (by omega)
 have l1:(p<p+5)=True:=eT (by omega)
 have l2:(p+1<p+5)=True:=eT (by omega)
 have l3:(p+2<p+5)=True:=eT (by omega)
 have l4:(p+3<p+5)=True:=eT (by omega)
 have l5:(p+4<p+5)=True:=eT (by omega)
 by_cases h:j<od.length
 ·have hs:=succ64 j (by omega)
  have hlt:((j:Int)<(ss.length:Int))=True:=eT (by omega)
  have hil:(j+1≤ss.length)=True:=eT (by omega)
  have hd:od.drop j=od.getD j 0::od.drop (j+1):=by
   rw [List.drop_eq_getElem_cons h];simp [List.getD_eq_getElem?_getD,h]
  have hb:od.getD j 0<ss.length:=by
   rw [List.getD_eq_getElem?_getD,List.getElem?_eq_getElem h];exact hor _ (List.getElem_mem h)
  have hgj:=getJ od j h
  have hol:(od.map J).length=ss.length:=by rw [lm_,ho]
  rw [hd,List.foldl_cons]
  generalize od.getD j 0=i at*
  have g:=fun L k=>pp_get A L hp k
  have g0:=fun L=>pp_get0 A L hp
  have hb1:((i:Int)<(ss.length:Int))=True:=eT (by omega)
  have hb2:(i+1≤ss.length)=True:=eT (by omega)
  have hg8:=slice8 ss i hb
  have hmem:ss.getD i 0∈ss:=getD_mem hb
  have hsi:stepI ss (U,W) i=(memb (ss.getD i 0)).foldl (stepA i) (U,W):=rfl
  have hl2:=foldA_len i (memb (ss.getD i 0)) (U,W)
  rw [hsi]
  have hv:=hss _ hmem
  generalize ss.getD i 0=v at*
  have h94:=fun st=>c101 v (by omega) st
  have hll:lenAV (tAV (memb v))=some (J (memb v).length):=lenm_sl I true (memb v)
  have hml:=memb_len v
  have hr:=memb_range hn hv
  have pl:=fun L=>pp_len A L hp
  simp only [go_sem,lp40_2,hlt,hs,hil,hgj,hol,g,g0,pl,hA1,hb1,hb2,hg8,h94,hll,nn_,lm_]
  generalize hg:lim (headed pure (run L) true _ lp40_1 _ _) _ _=o
  obtain ⟨x,en,s,rfl,h2⟩: ∃x en s,o=some (x,en,s)∧_:=by rw [←hg];exact loop40_1 A hA p hp h2p ss.length n hm hn [.rsl 1 0 ss.length ss.length 1 true] (by simp [okRefs,okRef]) (fun n T acc=>by simp only [renCells,ren1]) od ho j i hb (memb v) hr hml 0 U W ⟨by omega,hU,hW⟩ _ _ (by simp only [go_sem,hA.okApp,hA.renApp,pt,okRefsJ,renCellsJ,ren1_t,l0,l0',l1,l2,l3,l4,l5,Int.natCast_zero]<;>rfl)
  clear hg
  rw [List.drop_zero] at h2
  generalize (memb v).foldl (stepA i) (U,W)=UW at*
  obtain ⟨U2,W2⟩:=UW
  dsimp only at*
  obtain ⟨rfl,e4,e6,e10,e47,e48,e49,rfl⟩:=h2
  simp only [go_sem,lp40_2,e4,e6,e10,e47,e48,e49,hs]
  refine ⟨(j+1,U2,W2),by simp only [go_sem,ren1_locm,loc_tips,locT_eq,e4,e6,e10,e47,e48,e49,hA.okApp,hA.renApp,pt,okRefsJ,renCellsJ,l0,l0',l1,l2,l3,l4,l5]<;>rfl,?_,?_,fun x en s hq=> ?_⟩
  ·dsimp only;exact ⟨by omega,by omega,by omega⟩
  ·dsimp only;omega
  ·exact hq
 ·have hd:od.drop j=[]:=List.drop_eq_nil_of_le (by omega)
  have hlt:((j:Int)<(ss.length:Int))=False:=eF (by omega)
  rw [hd]
  simp only [go_sem,lp40_2,hlt]
  rfl
theorem loop40_0 (A:List (List AV))(hA:Calm A)(p:Nat)(hp:A.length=p)(h2p:2≤p)(n m:Nat)(hm:m≤13)(j:Nat)(D:List Nat)(hok:j≤m∧D=List.range j++List.replicate (m-j) 0)(env:Env)(st:St)
  (hg:gcAV true (p+2) 0 (canon env [0,4,6,8,29,30]) st=([(0,J n),(4,.ptr 0 0),(6,.ptr p 0),(8,.rsl (p+1) 0 m m 1 false),(29,J m),(30,J j)],⟨A++ [[.rsl 1 0 m m 1 true],D.map J],[]⟩)):
  ∃x_1 en s,lim (headed pure (run L) true [0,4,6,8,29,30] lp40_0 (p+2) 0) env st=some (x_1,en,s)∧(x_1=.exit 0∧en.get 0=J n∧en.get 4=.ptr 0 0∧en.get 6=.ptr p 0∧en.get 8=.rsl (p+1) 0 m m 1 false∧s=⟨A++ [[.rsl 1 0 m m 1 true],(List.range m).map J],[]⟩):=by
 refine loop_wp (α:=Nat×List Nat) (fun ⟨j,D⟩=>m-j) (fun ⟨j,D⟩=>j≤m∧D=List.range j++List.replicate (m-j) 0) (fun ⟨j,D⟩=>([(0,J n),(4,.ptr 0 0),(6,.ptr p 0),(8,.rsl (p+1) 0 m m 1 false),(29,J m),(30,J j)],⟨A++ [[.rsl 1 0 m m 1 true],D.map J],[]⟩)) (fun ⟨j,D⟩ x_1 en s=>x_1=.exit 0∧en.get 0=J n∧en.get 4=.ptr 0 0∧en.get 6=.ptr p 0∧en.get 8=.rsl (p+1) 0 m m 1 false∧s=⟨A++ [[.rsl 1 0 m m 1 true],(List.range m).map J],[]⟩) (fun ⟨j,D⟩ hok=> ?_) ⟨j,D⟩ hok env st hg
 simp only at hok
 obtain ⟨h1,h2⟩:=hok
 dsimp only at h1 h2⊢
 have hDl:D.length=m:=by rw [h2];simp;omega
 by_cases h:j<m
 ·have hs:=succ64 j (by omega)
  have hlt:((j:Int)<(m:Int))=True:=eT (by omega)
  have hil:(j+1≤m)=True:=eT (by omega)
  have g:=fun L k=>pp_get A L hp k
  have s':=fun L k v=>pp_set A L hp k v
  have pt:=fun L k=>pp_take A L hp k
  have hset:(D.map J).set j (J j)=(List.range (j+1)++List.replicate (m-(j+1)) 0).map J:=by
   rw [setJ,h2,show m-j=(m-(j+1))+1 by omega,List.replicate_succ,List.range_succ]
   rw [List.set_append_right _ _ (by simp)]
   simp
  have hDJ:(D.map J).length=m:=by rw [lm_,hDl]
  have l0:(0<p+2)=True:=eT (by omega)
  have l0':(1<p+2)=True:=eT (by omega)
  have l1:(p<p+2)=True:=eT (by omega)
  have l2:(p+1<p+2)=True:=eT (by omega)
  simp only [go_sem,lp40_0,hlt,hs,hil,g,s',hset,hDJ,nn_,lm_,hDl]
  refine ⟨(j+1,List.range (j+1)++List.replicate (m-(j+1)) 0),by simp only [go_sem,ren1_locm,loc_tips,locT_eq,hA.okApp,hA.renApp,pt,okRefsJ,renCellsJ,l0,l0',l1,l2]<;>rfl,?_,?_,fun x en s hq=> ?_⟩
  ·dsimp only;exact ⟨by omega,rfl⟩
  ·dsimp only;omega
  ·exact hq
 ·have e:j=m:=by omega
  subst e
  rw [Nat.sub_self,List.replicate_zero,List.append_nil] at h2
  subst h2
  have hlt:((j:Int)<(j:Int))=False:=eF (by omega)
  simp only [go_sem,lp40_0,hlt]
theorem get8 (ss:List Nat)(j:Nat)(h:j<ss.length):(ss.map u8)[j]? =some (u8 (ss.getD j 0)):=by
 rw [getm u8 ss 0 j,if_pos h]
attribute [local go_sem] m_ x_ l_ k_ o_ t_ a_ s_ q_ b_ c_ u_ g_ okRef_o storable_o shaped_o cells_o fin_o pub_o shaped_t cells_t isAgg_t storable_t okRef_t pub_t
theorem c99 (ss:List Nat)(h256: ∀s∈ss,s<256)(p x y:Nat)(hx:x<ss.length)(hy:y<ss.length)(hm:ss.length≤13)(S:List (List AV))(T:List Nat)(g1:S[1]? =some (ss.map u8))(gp:S[p]? =some [.rsl 1 0 ss.length ss.length 1 true]):
  run L 99 [J x,J y,.ptr p 0] ⟨S,T⟩=some (I ((pc (ss.getD y 0):Int)-(pc (ss.getD x 0):Int)),⟨S,T⟩):=by
 rw [run_shared (fn:=ir99) rfl rfl]
 have b1:((x:Int)<(ss.length:Int))=True:=eT (by omega)
 have b2:((y:Int)<(ss.length:Int))=True:=eT (by omega)
 have h1:=get8 ss x hx
 have h2:=get8 ss y hy
 have hx8:=h256 _ (getD_mem hx)
 have hy8:=h256 _ (getD_mem hy)
 generalize ss.getD x 0=a at*
 generalize ss.getD y 0=b at*
 have ha:=fun st=>c100 a hx8 st
 have hb:=fun st=>c100 b hy8 st
 have la:=memb_len a
 have lb:=memb_len b
 have hw:IntKind.i64.wrap (((memb b).length:Int)-((memb a).length:Int))=(pc b:Int)-(pc a:Int):=by
  unfold pc;rw [wrap64]<;>omega
 simp only [ir99,go_sem,g1,gp,b1,b2,h1,h2,ha,hb,hw,nn_]
def cG (ss:List Nat) (x y:Fin ss.length):Int:=(pc (ss.getD y.val 0):Int)-(pc (ss.getD x.val 0):Int)
def ltG (ss:List Nat) (x y:Fin ss.length):Bool:=decide (cG ss x y<0)
theorem ltG_iff (ss:List Nat)(x y:Fin ss.length):ltG ss x y=true↔pc (ss.getD y.val 0)<pc (ss.getD x.val 0):=by
 unfold ltG cG;rw [decide_eq_true_iff];omega
theorem swoG (ss:List Nat):Go.Sort.SWO (ltG ss) where
 irrefl x:=by cases h:ltG ss x x;rfl;rw [ltG_iff] at h;omega
 trans x y z h1 h2:=by rw [ltG_iff] at h1 h2⊢;omega
 ntrans x y z h1 h2:=by
  cases h:ltG ss x z
  ·rfl
  ·rw [ltG_iff] at h
   have h1: ¬ltG ss x y=true:=by rw [h1];simp
   have h2: ¬ltG ss y z=true:=by rw [h2];simp
   rw [ltG_iff] at h1 h2
   omega
def ordG (ss:List Nat):List Nat:=
 if h:ss.length=0 then [] else
  haveI:NeZero ss.length:=⟨h⟩
  (Go.Sort.insertionSort (ltG ss) (List.finRange ss.length).toArray 0 ss.length).toList.map (fun x=>x.val)
theorem ordG_spec (ss:List Nat):(ordG ss).Perm (List.range ss.length)∧(ordG ss).Pairwise (fun i j=>pc (ss.getD j 0)≤pc (ss.getD i 0)):=by
 unfold ordG
 split
 ·next h=>rw [h];exact ⟨List.Perm.refl _,List.Pairwise.nil⟩
 ·next h=>
  haveI:NeZero ss.length:=⟨h⟩
  have hsz:(List.finRange ss.length).toArray.size=ss.length:=by simp
  have h1:=Go.Sort.insertionSort_holds (swoG ss) (List.finRange ss.length).toArray 0 ss.length (Nat.zero_le _) (by rw [hsz];exact Nat.le_refl _)
  generalize Go.Sort.insertionSort (ltG ss) (List.finRange ss.length).toArray 0 ss.length=d at*
  obtain ⟨⟨g1,g2,g3⟩,g4⟩:=h1
  have hd:d.size=ss.length:=by rw [g1,hsz]
  have key: ∀(k:Nat) (d:Array (Fin ss.length)),d.size=k→(d.extract 0 k).toList=d.toList:=by
   intro k d h
   subst h
   rw [Array.extract_size]
  rw [key _ d hd,key _ _ hsz] at g3
  constructor
  ·have:=g3.map (fun x=>x.val)
   have e:(List.finRange ss.length).map (fun x=>x.val)=List.range ss.length:=by
    apply List.ext_getElem
    ·simp
    ·intro i h1 h2;simp
   simpa [e] using this
  ·rw [List.pairwise_map,List.pairwise_iff_getElem]
   intro i j hi hj hij
   simp only [Array.length_toList] at hi hj
   have:=g4 i j (Nat.zero_le _) hij (by omega)
   rw [getElem!_pos d i hi,getElem!_pos d j hj] at this
   have h2: ¬ltG ss d[j] d[i]=true:=by rw [this];simp
   rw [ltG_iff] at h2
   simp only [Array.getElem_toList]
   omega
theorem ordG_lt (ss:List Nat): ∀x∈ordG ss,x<ss.length:=fun x hx=>List.mem_range.1 ((ordG_spec ss).1.mem_iff.1 hx)
theorem ordG_len (ss:List Nat):(ordG ss).length=ss.length:=by rw [(ordG_spec ss).1.length_eq,List.length_range]
theorem PL_sh {X:List (List AV)} (h:PL X)(n:Nat):shStore n X=X:=by
 induction X with
 |nil=>rfl
 |cons B r ih=>
  obtain ⟨k,i,rfl⟩:=h B (by simp)
  simp only [shStore,shVs,shV,ih (fun C hC=>h C (by simp [hC]))]
theorem c98s (ss:List Nat)(h256: ∀s∈ss,s<256)(hm:ss.length≤13)(h0:ss.length≠0)(A:List (List AV))(p:Nat)(hp:A.length=p)(h2p:2≤p)(hA1: ∀L,(A++L)[1]? =some (ss.map u8)):
  run L 98 [.rsl (p+1) 0 ss.length ss.length 1 false,.fn (.func 99) [] [.ptr p 0]] ⟨A++ [[.rsl 1 0 ss.length ss.length 1 true],(List.range ss.length).map J],[]⟩=some (.tup [],⟨A++ [[.rsl 1 0 ss.length ss.length 1 true],(ordG ss).map J],[]⟩):=by
 haveI:NeZero ss.length:=⟨h0⟩
 have hput: ∀X E,put (A++ [[.rsl 1 0 ss.length ss.length 1 true],[]]) (p+1) X E=A++([.rsl 1 0 ss.length ss.length 1 true]::X::E):=by
  intro X E
  unfold put
  rw [pp_set A _ hp 1]
  simp
 have h:=c98 ss.length (A++ [[.rsl 1 0 ss.length ss.length 1 true],[]]) [] (p+1) (by rw [pp_len A _ hp];simp) (by omega) false 99 rfl [.ptr p 0] (cG ss) (ltG ss) (fun _ _=>rfl)
  (fun x y X E=>by
   rw [hput]
   exact c99 ss h256 p x.val y.val x.isLt y.isLt hm _ [] (hA1 _) (by rw [pp_get0 A _ hp];rfl))
  (List.finRange ss.length).toArray (by simp)
 rw [hput,hput] at h
 have e1:Dm fK (List.finRange ss.length).toArray=(List.range ss.length).map J:=by
  unfold Dm
  apply List.ext_getElem
  ·simp
  ·intro i h1 h2;simp
 have e2:Dm fK (Go.Sort.insertionSort (ltG ss) (List.finRange ss.length).toArray 0 ss.length)=(ordG ss).map J:=by
  unfold Dm ordG
  rw [dif_neg h0,List.map_map];rfl
 rw [e1,e2] at h
 exact h
theorem makeJ (k:Nat)(hk:k≤1000)(S:List (List AV))(T:List Nat):makeAV 1 false [.v (.int .i64 0)] ⟨S,T⟩ (J k) (J k)=some (.rsl S.length 0 k k 1 false,⟨S++ [(List.replicate k 0).map J],T⟩):=by
 rw [make_ints,if_pos ⟨by omega,by unfold maxGrow;omega⟩,Int.toNat_natCast]
 simp
theorem pubsJ (X:List Nat):pubs (X.map J)=X.map J:=pubs_map J (fun _=>rfl) X
theorem fin_rslJ (st:St)(l m:Nat)(X:List Nat)(hm:X.length=m)(h:st.store[l]? =some (X.map J)):fin st (.rsl l 0 m m 1 false)=sl 1 false (X.map J):=by
 subst hm
 have e:fin st (.rsl l 0 X.length X.length 1 false)=.lst .any 1 (group false 1 X.length (pubs ((X.map J).drop 0))):=by
  simp only [fin,h]
  rw [if_pos (by simp)]
 rw [e,List.drop_zero,pubsJ,groupm_one J (fun _=>rfl)]
 rfl
def treeA (UW:List Nat×List Nat):AV:=.agg [sl 1 false (UW.1.map J),sl 1 false (UW.2.map J)]
theorem all40a:(List.range 7).map (fun n=>callAV L 400 40 [J (n+2),.v (.slice none 0 0)] ⟨[],[]⟩)=(List.range 7).map (fun n=>some (.tup [treeA (growN [] (n+2) []),I 0],(⟨[],[]⟩:St))):=by kernel_rfl
theorem all40b:(List.range 7).map (fun n=>callAV L 400 40 [J (n+2),.lst .any 1 []] ⟨[],[]⟩)=(List.range 7).map (fun n=>some (.tup [treeA (growN [] (n+2) []),I 0],(⟨[],[]⟩:St))):=by kernel_rfl
theorem c40e (n:Nat)(h2:2≤n)(hn:n≤8)(nl:Bool)(st:St):run L 40 [J n,sl 1 nl []] st=some (.tup [treeA (growN [] n []),I 0],st):=by
 obtain ⟨k,rfl⟩: ∃k,n=k+2:=⟨n-2,by omega⟩
 rcases sl_cases 1 nl [] with ⟨_,h⟩ |h
 ·rw [h];exact run_any' (fn:=ir40) rfl rfl (callAV_run L 400 _ _ _ _ (all_of all40a k (by omega))) st
 ·rw [h];exact run_any' (fn:=ir40) rfl rfl (callAV_run L 400 _ _ _ _ (all_of all40b k (by omega))) st
theorem c40 (n:Nat)(h2:2≤n)(hn:n≤8)(nl:Bool)(X:List Nat)(hX: ∀v∈X,v<2^n∧v≠0∧v≠2^n-1)(hnd:(X.map (smlN n)).Nodup)(hl:X.length≤13)(hc:clP (X.map (smlN n)) 0=none)(st:St):
  run L 40 [J n,sl 1 nl (X.map tM)] st=some (.tup [treeA (growN (srt (X.map (smlN n))) n (ordG (srt (X.map (smlN n))))),I 0],st):=by
 by_cases he:X=[]
 ·subst he
  have e1:srt (([]:List Nat).map (smlN n))=[]:=srt_nil
  have e2:ordG []=[]:=by unfold ordG;rw [dif_pos (by simp)]
  rw [e1,e2]
  exact c40e n h2 hn nl st
 rw [run_pure (fn:=ir40) rfl rfl]
 obtain ⟨X1,hX1,h79⟩:=(c97 n h2 hn nl X hX hnd hl).1 hc
 have hss0: ∀x∈X.map (smlN n),x<2^n:=by
  intro x hx
  rw [List.mem_map] at hx
  obtain ⟨v,hv,rfl⟩:=hx
  exact smlN_lt (hX v hv).1
 have h2n:2^n≤256:=Nat.pow_le_pow_right (n:=2) (by decide) hn
 have hsl:=srt_len (ss:=X.map (smlN n)) (fun s hs=>Nat.lt_of_lt_of_le (hss0 s hs) h2n)
 have hsm: ∀s∈srt (X.map (smlN n)),s<2^n:=fun s hs=>hss0 s ((srt_perm (fun s hs=>Nat.lt_of_lt_of_le (hss0 s hs) h2n)).mem_iff.1 hs)
 rw [lm_] at hsl
 generalize srt (X.map (smlN n))=ss at*
 have hne:ss≠[]:=fun e=>he (List.eq_nil_of_length_eq_zero (by rw [←hsl,e];rfl))
 have h0:ss.length≠0:=fun e=>hne (List.eq_nil_of_length_eq_zero e)
 rw [kA_ne hne,kS_ne hne] at h79
 have hsv:=shVs_8 1 ss
 have hsx:=PL_sh hX1 1
 have hcal:Calm ([.v (.slice none 0 0),.v (.slice none 0 0)]::ss.map u8::X1):=
  (hX1.calm.cons (fun n=>okRefs8 n ss) (fun n T acc=>renCells8 n T acc ss)).cons (fun n=>rfl) (fun n T acc=>rfl)
 obtain ⟨q,hq⟩: ∃q,X1.length=q:=⟨_,rfl⟩
 have g0:=fun L:List (List AV)=>pp_get0 X1 L hq
 have g:=fun (L:List (List AV)) k=>pp_get X1 L hq k
 have s0:=fun (L:List (List AV)) v=>pp_set0 X1 L hq v
 have pl:=fun L:List (List AV)=>pp_len X1 L hq
 have aa:=fun L M:List (List AV)=>List.append_assoc X1 L M
 have hmk:=fun S T=>makeJ ss.length (by omega) S T
 have hmn:=fun S T=>makeJ n (by omega) S T
 simp only [ir40,go_sem,h79,show pure 97=false from rfl,shStore,shV,shVs,hsv,hsx,keepR,keepT,ownTop,hq,g0,g,s0,pl,aa,hmk]
 obtain ⟨A,hAe⟩: ∃A,A=[.v (.slice none 0 0),.v (.slice none 0 0)]::ss.map u8::X1:=⟨_,rfl⟩
 have hcons: ∀L:List (List AV),[.v (.slice none 0 0),.v (.slice none 0 0)]::ss.map u8::(X1++L)=A++L:=by rw [hAe];exact fun L=>rfl
 have hA1: ∀L:List (List AV),(A++L)[1]? =some (ss.map u8):=fun L=>by rw [hAe];rfl
 have hA0: ∀L:List (List AV),(A++L)[0]? =some [.v (.slice none 0 0),.v (.slice none 0 0)]:=fun L=>by rw [hAe];rfl
 have hA0s: ∀(L:List (List AV)) v,(A++L).set 0 v=(v::ss.map u8::X1)++L:=fun L v=>by rw [hAe];rfl
 have hAp:A.length=q+1+1:=by rw [hAe];simp [hq]
 rw [←hAe] at hcal
 simp only [hcons]
 obtain ⟨p,hp⟩: ∃p,p=q+1+1:=⟨_,rfl⟩
 have hp1:q+1+1=p:=hp.symm
 have hp2:q+2+1+1=p+2:=by omega
 rw [←hp] at hAp
 clear hp g0 g s0 pl aa hq hsx
 simp only [hp1,hp2]
 have g0:=fun L=>pp_get0 A L hAp
 have g:=fun L k=>pp_get A L hAp k
 have s0:=fun L v=>pp_set0 A L hAp v
 have s':=fun L k v=>pp_set A L hAp k v
 have pl:=fun L=>pp_len A L hAp
 have pt:=fun L k=>pp_take A L hAp k
 have aa:=fun L M:List (List AV)=>List.append_assoc A L M
 have l0:(0<p+2)=True:=eT (by omega)
 have l0':(1<p+2)=True:=eT (by omega)
 have l1:(p<p+2)=True:=eT (by omega)
 have l2:(p+1<p+2)=True:=eT (by omega)
 have h2p:2≤p:=by rw [←hp1];omega
 have h256: ∀s∈ss,s<256:=fun s hs=>Nat.lt_of_lt_of_le (hsm s hs) h2n
 generalize hg:lim (headed pure (run L) true _ lp40_0 _ _) _ _=o
 obtain ⟨x,en,s,rfl,h2⟩: ∃x en s,o=some (x,en,s)∧_:=by rw [←hg];exact loop40_0 A hcal p hAp h2p n ss.length (by omega) 0 (List.replicate ss.length 0) ⟨by omega,by simp⟩ _ _ (by simp only [go_sem,hcal.okApp,hcal.renApp,pt,okRefsJ,renCellsJ,l0,l0',l1,l2,Int.natCast_zero]<;>rfl)
 clear hg
 obtain ⟨rfl,e0,e4,e6,e8,rfl⟩:=h2
 have h91:=c98s ss h256 (by omega) h0 A p hAp h2p hA1
 simp only [go_sem,e0,e4,e6,e8,h91,g0,g,s0,s',pl,aa,hmk,hmn]
 have k0:(0<p+5)=True:=eT (by omega)
 have k0':(1<p+5)=True:=eT (by omega)
 have k1:(p<p+5)=True:=eT (by omega)
 have k2:(p+1<p+5)=True:=eT (by omega)
 have k3:(p+2<p+5)=True:=eT (by omega)
 have k4:(p+3<p+5)=True:=eT (by omega)
 have k5:(p+4<p+5)=True:=eT (by omega)
 generalize hg:lim (headed pure (run L) true _ lp40_2 _ _) _ _=o
 obtain ⟨x,en,s,rfl,h2⟩: ∃x en s,o=some (x,en,s)∧_:=by rw [←hg];exact loop40_2 A hcal p hAp h2p ss hA1 n (by omega) hn hsm (ordG ss) (ordG_len ss) (ordG_lt ss) 0 (List.replicate ss.length 0) (List.replicate n 0) ⟨by omega,by simp,by simp⟩ _ _ (by simp only [go_sem,e0,e4,e6,e8,hcal.okApp,hcal.renApp,pt,okRefsJ,renCellsJ,k0,k0',k1,k2,k3,k4,k5,Int.natCast_zero]<;>rfl)
 clear hg
 clear e0 e4 e6 e8
 rw [List.drop_zero] at h2
 have hgl:(growN ss n (ordG ss)).1.length=ss.length∧(growN ss n (ordG ss)).2.length=n:=by
  have key: ∀(l:List Nat) (UA:List Nat×List Nat),(l.foldl (stepI ss) UA).1.length=UA.1.length∧(l.foldl (stepI ss) UA).2.length=UA.2.length:=by
   intro l
   induction l with
   |nil=>intro UA;exact ⟨rfl,rfl⟩
   |cons i r ih=>
    intro UA
    rw [List.foldl_cons]
    have h1:=ih (stepI ss UA i)
    have h2:=stepI_len ss UA i
    exact ⟨h1.1.trans h2.1,h1.2.trans h2.2⟩
  have:=key (ordG ss) (List.replicate ss.length 0,List.replicate n 0)
  unfold growN
  simpa using this
 rw [show (ordG ss).foldl (stepI ss) (List.replicate ss.length 0,List.replicate n 0)=growN ss n (ordG ss) from rfl] at h2
 generalize growN ss n (ordG ss)=UW at*
 obtain ⟨U,W⟩:=UW
 dsimp only at hgl h2
 obtain ⟨rfl,e4,e10,rfl⟩:=h2
 obtain ⟨A2,hA2l,hA2s,hA20⟩: ∃A2:List (List AV),A2.length=p∧(∀L,(A++L).set 0 [.rsl (p+2) 0 ss.length ss.length 1 false,.rsl (p+3) 0 n n 1 false]=A2++L)∧(∀L,(A2++L)[0]? =some [.rsl (p+2) 0 ss.length ss.length 1 false,.rsl (p+3) 0 n n 1 false]):=by
  refine ⟨[.rsl (p+2) 0 ss.length ss.length 1 false,.rsl (p+3) 0 n n 1 false]::ss.map u8::X1,?_,fun L=>hA0s L _,fun L=>rfl⟩
  rw [←hAp,hAe];rfl
 have gA:=fun L k=>pp_get A2 L hA2l k
 have f1:=fun S T h=>fin_rslJ ⟨S,T⟩ (p+2) ss.length U hgl.1 h
 have f2:=fun S T h=>fin_rslJ ⟨S,T⟩ (p+3) n W hgl.2 h
 have f1': ∀L,fin ⟨A2++([.rsl 1 0 ss.length ss.length 1 true]::L),[]⟩ (.rsl (p+2) 0 ss.length ss.length 1 false)=fin ⟨A2++([.rsl 1 0 ss.length ss.length 1 true]::L),[]⟩ (.rsl (p+2) 0 ss.length ss.length 1 false):=fun _=>rfl
 simp only [go_sem,e4,e10,g,hA0,hA2s,hA20]
 rw [show fin _ (AV.rsl (p+2) 0 ss.length ss.length 1 false)=sl 1 false (U.map J) from fin_rslJ _ _ _ U hgl.1 (by rw [gA];rfl),show fin _ (AV.rsl (p+3) 0 n n 1 false)=sl 1 false (W.map J) from fin_rslJ _ _ _ W hgl.2 (by rw [gA];rfl)]
 rfl
attribute [local go_sem] m_ x_ l_ k_ o_ t_ a_ s_ q_ b_ c_ u_ g_ okRef_o storable_o shaped_o cells_o fin_o pub_o shaped_t cells_t isAgg_t storable_t okRef_t pub_t
theorem c42 (n:Nat)(h2:2≤n)(hn:n≤8)(nl:Bool)(X:List Nat)(hX: ∀v∈X,v<2^n∧v≠0∧v≠2^n-1)(hnd:(X.map (smlN n)).Nodup)(hl:X.length≤13)(st:St):run L 42 [J n,sl 1 nl (X.map tM)] st=some (I 0,st):=by
 rw [run_pure (fn:=ir42) rfl rfl]
 have h70:=c102 n h2 hn nl X hX hnd (by omega)
 generalize X.map (smlN n)=ss at*
 by_cases he:ss=[]
 ·subst he
  rw [show kA []=.v (.slice none 0 0) from rfl,show kS []=[] from rfl] at h70
  simp only [ir42,go_sem,h70,show pure 102=false from rfl,shStore,shV,shVs]
 ·rw [kA_ne he,kS_ne he] at h70
  have hsv:=shVs_8 0 ss
  simp only [ir42,go_sem,h70,show pure 102=false from rfl,shStore,shV,shVs,hsv]
theorem frzV_E (l:Nat)(X:List Nat)(h:X≠[]):frzV l (X.map u8) (.rsl l 0 X.length X.length 1 true)=sl 1 true (X.map E8):=by
 simp only [frzV,lm_,List.drop_zero]
 rw [if_pos ⟨trivial,by omega,.inl trivial,Nat.le_refl _⟩,pubs8,groupE,sl_ne (by simpa using h)]
theorem frzEnv_get (l:Nat)(cs:List AV)(env:Env)(t:Tmp):(frzEnv l cs env).get t=frzV l cs (env.get t):=by
 induction env with
 |nil=>simp [frzEnv,Env.get,frzV]
 |cons x r ih=>
  obtain ⟨u,a⟩:=x
  simp only [frzEnv,Env.get]
  split
  ·rfl
  ·exact ih
attribute [local go_sem] m_ x_ l_ k_ o_ t_ a_ s_ q_ b_ c_ u_ g_ shaped_t cells_t isAgg_t storable_t okRef_t pub_t
def cellsI (D:List Int) (k:Nat):List AV:=(D++List.replicate k 0).map I
theorem cellsI_len (D:List Int)(k:Nat):(cellsI D k).length=D.length+k:=by
 unfold cellsI;simp
theorem flatI: ∀A:List Int,flatAV (A.map I)=A.map I
 | []=>rfl
 |p::r=>by
  have:=flatI r
  unfold flatAV at this⊢
  rw [List.map_cons,List.flatMap_cons,this];rfl
theorem appendI (D A:List Int)(k c:Nat)(hc:c=D.length+(A.length+k))(h0:0<c)(T:List Nat):
  appendmAV 1 false (.rsl 0 0 D.length c 1 false) (A.map I) ⟨[cellsI D (A.length+k)],T⟩=some (.rsl 0 0 (D++A).length c 1 false,⟨[cellsI (D++A) k],T⟩):=by
 have hl:=cellsI_len D (A.length+k)
 simp only [appendmAV,List.getElem?_cons_zero,lm_,Nat.zero_add,flatI]
 rw [if_pos ⟨trivial,trivial,by omega,by omega,by omega⟩,if_pos (by omega),if_pos (by omega),List.length_append]
 have e:(cellsI D (A.length+k)).take (D.length*1)++A.map I++(cellsI D (A.length+k)).drop (D.length*1+A.length)=cellsI (D++A) k:=by
  unfold cellsI
  rw [Nat.mul_one,List.map_append,List.map_append,List.take_left' (by simp),List.drop_append,List.drop_of_length_le (by simp),List.nil_append]
  rw [lm_,Nat.add_sub_cancel_left,←List.map_drop,List.drop_replicate,Nat.add_sub_cancel_left,List.map_append]
 rw [e];rfl
def catX (n1 n2:Bool) (A B:List Int):AV:=.lst .any 1 [sl 1 n1 (A.map I),sl 1 n2 (B.map I)]
def catT (A B:List Int):Nat→Nat
 |0=>0
 |1=>A.length
 |_=>A.length+B.length
theorem loop192_0 (n1 n2:Bool)(A B:List Int)(hA:A.length<1000)(hB:B.length<1000)(i:Nat)(hok:i≤2)(env:Env)(st:St)
  (hg:gcAV true 0 0 (canon env [0,3,9,10,11]) st=([(0,catX n1 n2 A B),(3,I (catT A B i)),(9,catX n1 n2 A B),(10,I 2),(11,I i)],⟨[],[]⟩)):
  ∃x_1 en s,lim (headed pure (run L) true [0,3,9,10,11] lp192_0 0 0) env st=some (x_1,en,s)∧(x_1=.exit 0∧en.get 0=catX n1 n2 A B∧en.get 3=I (catT A B 2)∧s=⟨[],[]⟩):=by
 refine loop_wp (α:=Nat) (fun i=>2-i) (fun i=>i≤2) (fun i=>([(0,catX n1 n2 A B),(3,I (catT A B i)),(9,catX n1 n2 A B),(10,I 2),(11,I i)],⟨[],[]⟩)) (fun i x_1 en s=>x_1=.exit 0∧en.get 0=catX n1 n2 A B∧en.get 3=I (catT A B 2)∧s=⟨[],[]⟩) (fun i hok=> ?_) i hok env st hg
 have hX:catX n1 n2 A B=.lst .any 1 [sl 1 n1 (A.map I),sl 1 n2 (B.map I)]:=rfl
 rcases (show i=0∨i=1∨i=2 by omega) with rfl|rfl|rfl
 ·have h0:indexSAV 1 (.lst .any 1 [sl 1 n1 (A.map I),sl 1 n2 (B.map I)]) (.v (.int .i64 0))=some (.eptr (sl 1 n1 (A.map I)) 0):=rfl
  have hlt:(((0:Nat):Int)<2)=True:=eT (by omega)
  have hw1:IntKind.i64.wrap (((catT A B 0:Nat):Int)+(A.length:Int))=((catT A B 1:Nat):Int):=by show IntKind.i64.wrap ((0:Int)+(A.length:Int))=(A.length:Int);rw [wrap64]<;>omega
  have hs:IntKind.i64.wrap 1=1:=rfl
  have hn:((catT A B 1:Int)<0)=False:=eF (by omega)
  simp only [go_sem,lp192_0,hX,h0,hlt,hw1,hs,hn,lm_]
  refine ⟨0+1,by simp only [go_sem,ren1_locm,loc_tips,locT_eq,hX]<;>rfl,?_,?_,fun x en s hq=> ?_⟩
  ·omega
  ·omega
  ·exact hq
 ·have h0:indexSAV 1 (.lst .any 1 [sl 1 n1 (A.map I),sl 1 n2 (B.map I)]) (.v (.int .i64 1))=some (.eptr (sl 1 n2 (B.map I)) 0):=rfl
  have hlt:(((1:Nat):Int)<2)=True:=eT (by omega)
  have hw1:IntKind.i64.wrap (((catT A B 1:Nat):Int)+(B.length:Int))=((catT A B 2:Nat):Int):=by show IntKind.i64.wrap ((A.length:Int)+(B.length:Int))=((A.length+B.length:Nat):Int);rw [wrap64]<;>omega
  have hs:IntKind.i64.wrap 2=2:=rfl
  have hn:((catT A B 2:Int)<0)=False:=eF (by omega)
  simp only [go_sem,lp192_0,hX,h0,hlt,hw1,hs,hn,lm_]
  refine ⟨1+1,by simp only [go_sem,ren1_locm,loc_tips,locT_eq,hX]<;>rfl,?_,?_,fun x en s hq=> ?_⟩
  ·omega
  ·omega
  ·exact hq
 ·have hlt:(((2:Nat):Int)<2)=False:=eF (by omega)
  simp only [go_sem,lp192_0,hlt]
theorem c230 (t:Nat)(h:1≤t)(h2:t<10000):run L 230 [.v (.slice none 0 0),I t] ⟨[],[]⟩=some (.rsl 0 0 0 t 1 false,⟨[cellsI [] t],[]⟩):=by
 rw [run_shared (fn:=ir230) rfl rfl]
 have p1:((t:Int)<0)=False:=eF (by omega)
 have p2:((0:Int)<(t:Int))=True:=eT (by omega)
 have hw:IntKind.i64.wrap ((t:Int)-0)=(t:Int):=by rw [wrap64]<;>omega
 have hg:growAV 1 false [.v (.int .i64 0)] ⟨[],[]⟩ (.v (.slice none 0 0)) (.v (.int .i64 (t:Int)))=some (.rsl 0 0 t t 1 false,⟨[cellsI [] t],[]⟩):=by
  have hm:t≤maxGrow:=by unfold maxGrow;omega
  simp [growAV,makeAV,natOf,hm,show t≠0 by omega,cellsI]
 have hs:sliceAV 1 (.rsl 0 0 t t 1 false) none (some (.v (.int .i64 0))) none=some (.rsl 0 0 0 t 1 false):=by
  simp [sliceAV,natOr,natOf]
 have hs0:sliceAV 1 (.v (.slice none 0 0)) none (some (.v (.int .i64 0))) none=some (.v (.slice none 0 0)):=rfl
 have hw0:IntKind.i64.wrap 0=0:=rfl
 simp only [ir230,go_sem,p1,p2,hw0,hw,hg,hs,hs0,capAV]
def catD (A B:List Int):Nat→List Int
 |0=> []
 |1=>A
 |_=>A++B
theorem okRefsP (k:Nat)(D:List Int)(m:Nat):okRefs k (cellsI D m)=true:=okRefs_ints _ _
theorem renCellsP (n:Nat)(T:List Nat)(acc:List (Nat×Nat))(D:List Int)(m:Nat):renCells n T acc (cellsI D m)=(cellsI D m,acc):=renCells_ints _ _ _ _
theorem loop192_1 (n1 n2:Bool)(A B:List Int)(c:Nat)(hc:c=A.length+B.length)(h0:0<c)(i:Nat)(hok:i≤2)(env:Env)(st:St)
  (hg:gcAV true 1 0 (canon env [6,25,26,27]) st=([(6,.rsl 0 0 (catD A B i).length c 1 false),(25,catX n1 n2 A B),(26,I 2),(27,I i)],⟨[cellsI (catD A B i) (c-(catD A B i).length)],[]⟩)):
  ∃x_1 en s,lim (headed pure (run L) true [6,25,26,27] lp192_1 1 0) env st=some (x_1,en,s)∧(x_1=.exit 2∧en.get 6=.rsl 0 0 c c 1 false∧s=⟨[cellsI (A++B) 0],[]⟩):=by
 refine loop_wp (α:=Nat) (fun i=>2-i) (fun i=>i≤2) (fun i=>([(6,.rsl 0 0 (catD A B i).length c 1 false),(25,catX n1 n2 A B),(26,I 2),(27,I i)],⟨[cellsI (catD A B i) (c-(catD A B i).length)],[]⟩)) (fun i x_1 en s=>x_1=.exit 2∧en.get 6=.rsl 0 0 c c 1 false∧s=⟨[cellsI (A++B) 0],[]⟩) (fun i hok=> ?_) i hok env st hg
 have hX:catX n1 n2 A B=.lst .any 1 [sl 1 n1 (A.map I),sl 1 n2 (B.map I)]:=rfl
 rcases (show i=0∨i=1∨i=2 by omega) with rfl|rfl|rfl
 ·have h1:indexSAV 1 (.lst .any 1 [sl 1 n1 (A.map I),sl 1 n2 (B.map I)]) (.v (.int .i64 0))=some (.eptr (sl 1 n1 (A.map I)) 0):=rfl
  have hs:IntKind.i64.wrap 1=1:=rfl
  have ha:=appendI [] A B.length c (by simp;omega) h0 []
  rw [List.nil_append,show A.length+B.length=c by omega] at ha
  have e0:catD A B 0=[]:=rfl
  have e1:c-([]:List Int).length=c:=by simp
  have e2:([]:List Int).length=0:=rfl
  have e3:c-A.length=B.length:=by omega
  have e4:catD A B 1=A:=rfl
  rw [e2] at ha e1
  rw [e0,e2,e1]
  simp only [go_sem,lp192_1,hX,h1,hs,ha]
  refine ⟨0+1,by simp only [go_sem,ren1_locm,loc_tips,locT_eq,hX,okRefsP,renCellsP,e3,e4]<;>rfl,?_,?_,fun x en s hq=> ?_⟩
  ·omega
  ·omega
  ·exact hq
 ·have h1:indexSAV 1 (.lst .any 1 [sl 1 n1 (A.map I),sl 1 n2 (B.map I)]) (.v (.int .i64 1))=some (.eptr (sl 1 n2 (B.map I)) 0):=rfl
  have hs:IntKind.i64.wrap 2=2:=rfl
  have ha:=appendI A B 0 c (by omega) h0 []
  rw [Nat.add_zero] at ha
  have e0:catD A B 1=A:=rfl
  have e3:c-A.length=B.length:=by omega
  have e4:catD A B 2=A++B:=rfl
  have e5:c-(A++B).length=0:=by rw [List.length_append];omega
  rw [e0,e3]
  simp only [go_sem,lp192_1,hX,h1,hs,ha]
  refine ⟨1+1,by simp only [go_sem,ren1_locm,loc_tips,locT_eq,hX,okRefsP,renCellsP,e4,e5]<;>rfl,?_,?_,fun x en s hq=> ?_⟩
  ·omega
  ·omega
  ·exact hq
 ·have hlt:(((2:Nat):Int)<2)=False:=eF (by omega)
  have e4:catD A B 2=A++B:=rfl
  have e5:(A++B).length=c:=by rw [List.length_append];omega
  rw [e4,e5,Nat.sub_self]
  simp only [go_sem,lp192_1,hlt]
theorem fin_rslI (st:St)(l m:Nat)(X:List Int)(hm:X.length=m)(h:st.store[l]? =some (X.map I)):fin st (.rsl l 0 m m 1 false)=sl 1 false (X.map I):=by
 subst hm
 have hp:pubs (X.map I)=X.map I:=pubs_map I (fun _=>rfl) X
 have e:fin st (.rsl l 0 X.length X.length 1 false)=.lst .any 1 (group false 1 X.length (pubs ((X.map I).drop 0))):=by
  simp only [fin,h]
  rw [if_pos (by simp)]
 rw [e,List.drop_zero,hp,groupm_one I (fun _=>rfl)]
 rfl
theorem shVs_I (n:Nat): ∀xs:List Int,shVs n (xs.map I)=xs.map I
 | []=>rfl
 |x::r=>by simp only [List.map_cons,shVs,shV,shVs_I n r]
theorem c192 (n1 n2:Bool)(A B:List Int)(hA:A.length<1000)(hB:B.length<1000)(h0:0<A.length+B.length)(st:St):run L 192 [catX n1 n2 A B] st=some (sl 1 false ((A++B).map I),st):=by
 rw [run_pure (fn:=ir192) rfl rfl]
 have hX:catX n1 n2 A B=.lst .any 1 [sl 1 n1 (A.map I),sl 1 n2 (B.map I)]:=rfl
 simp only [ir192,go_sem,hX]
 generalize hg:lim (headed pure (run L) true _ lp192_0 _ _) _ _=o
 obtain ⟨x,en,s,rfl,h2⟩: ∃x en s,o=some (x,en,s)∧_:=by rw [←hg];exact loop192_0 n1 n2 A B hA hB 0 (by omega) _ _ (by simp only [go_sem,hX,show catT A B 0=0 from rfl,Int.natCast_zero]<;>rfl)
 clear hg
 obtain ⟨rfl,e0,e3,rfl⟩:=h2
 have hct:catT A B 2=A.length+B.length:=rfl
 rw [hct] at e3
 rw [hX] at e0
 have h139:=c230 (A.length+B.length) (by omega) (by omega)
 have hcl:(cellsI [] (A.length+B.length)).length=A.length+B.length:=by rw [cellsI_len];simp
 have hsv:shVs 0 (cellsI [] (A.length+B.length))=cellsI [] (A.length+B.length):=by
  unfold cellsI
  exact shVs_I 0 _
 simp only [go_sem,e0,e3,h139,show pure 230=false from rfl,shStore,shV,shVs,hsv]
 generalize hg:lim (headed pure (run L) true _ lp192_1 _ _) _ _=o
 obtain ⟨x,en,s,rfl,h2⟩: ∃x en s,o=some (x,en,s)∧_:=by rw [←hg];exact loop192_1 n1 n2 A B (A.length+B.length) rfl h0 0 (by omega) _ _ (by simp only [go_sem,e0,e3,hX,okRefsP,renCellsP,show catD A B 0=[] from rfl,List.length_nil,Nat.sub_zero]<;>rfl)
 clear hg
 obtain ⟨rfl,e6,rfl⟩:=h2
 have hf:=fin_rslI ⟨[cellsI (A++B) 0],[]⟩ 0 (A.length+B.length) (A++B) (by simp) (by unfold cellsI;simp)
 simp only [go_sem,e6,hf]
theorem c111J (n1 n2:Bool)(A B:List Nat)(hA:A.length<1000)(hB:B.length<1000)(h0:0<A.length+B.length)(st:St):run L 192 [.lst .any 1 [sl 1 n1 (A.map J),sl 1 n2 (B.map J)]] st=some (sl 1 false ((A++B).map J),st):=by
 have:=c192 n1 n2 (A.map fun (x:Nat)=>(x:Int)) (B.map fun (x:Nat)=>(x:Int)) (by simpa using hA) (by simpa using hB) (by simpa using h0) st
 unfold catX at this
 rw [←List.map_append,List.map_map,List.map_map,List.map_map] at this
 exact this
attribute [local go_sem] m_ x_ l_ k_ o_ t_ a_ s_ q_ b_ c_ u_ g_ okRef_o storable_o shaped_o cells_o fin_o pub_o shaped_t cells_t isAgg_t storable_t okRef_t pub_t
def badC (m:Nat) (c:Int):Bool:=decide (c<0)||decide ((m:Int)<c)
def lostC (U:List Nat):Bool:=(List.range U.length).any fun c=>decide (itC U U.length (c+1)≠0)
def laneS (L:List Nat) (cu:Nat×Nat):List Nat:=(L.set (cu.1+1) (L.getD (cu.1+1) 0+1)).set cu.2 ((L.set (cu.1+1) (L.getD (cu.1+1) 0+1)).getD cu.2 0+1)
def laneF (U:List Nat):Nat→List Nat→List Nat→List Nat
 |_,[],L=>L
 |c,u::r,L=>laneF U (c+1) r (laneS L (c,u))
def laneL (U:List Nat):List Nat:=laneF U 0 U (List.replicate (U.length+1) 0)
def lackB (W:List Nat) (c k:Nat):Bool:=decide (k<3)&&decide (c ∉ W)
def lackF (W:List Nat):Nat→List Nat→Bool
 |_,[]=>false
 |c,k::r=>lackB W c k||lackF W (c+1) r
def walkO (U:List Nat) (a:Nat):Nat→Nat→List Nat→List Nat
 |0,_,out=>out
 |f+1,at',out=>if at'=0 then out else walkO U a f (upC U at') (out.set (at'-1) (out.getD (at'-1) 0|||2^a))
def outF (U:List Nat):Nat→List Nat→List Nat→List Nat
 |_,[],out=>out
 |a,w::r,out=>outF U (a+1) r (walkO U a U.length w out)
def outL (U W:List Nat):List Nat:=outF U 0 W (List.replicate U.length 0)
def srtB (O:List Nat):Bool:=(List.range (O.length-1)).all fun j=> !lexLt (memb (O.getD (j+1) 0)) (memb (O.getD j 0))
def readN (U W:List Nat):Int×List Nat:=
 if lostC U=true then (12,[]) else if W.getD 0 0≠0 then (5,[]) else if lackF W 0 (laneL U)=true then (4,[]) else if srtB (outL U W)=true then (0,outL U W) else (7,[])
theorem itC_succ (U:List Nat)(t c:Nat):itC U (t+1) c=upC U (itC U t c):=by
 have:=itC_add U t 1 c
 rw [this];rfl
theorem upC_le {U:List Nat} {m:Nat} (h: ∀u∈U,u≤m)(c:Nat):upC U c≤m:=by
 unfold upC
 split
 ·omega
 ·rw [List.getD_eq_getElem?_getD]
  cases hc:U[c-1]? with
  |none=>simp
  |some u=>exact h u (List.mem_of_getElem? hc)
theorem itC_le {U:List Nat} {m:Nat} (h: ∀u∈U,u≤m): ∀(t c:Nat),c≤m→itC U t c≤m
 |0,_,hc=>hc
 |t+1,c,_=>itC_le h t _ (upC_le h c)
theorem loop157_0 (x y:AV)(hx1: ∀n,okRef n x=true)(hx2: ∀n T acc,ren1 n T acc x=(x,acc))(hy1: ∀n,okRef n y=true)(hy2: ∀n T acc,ren1 n T acc y=(y,acc))(m:Nat)(nl:Bool)(A:List Int)(hA:A.length<1000)(i:Nat)(hok:i≤A.length)(env:Env)(st:St)
  (hg:gcAV true 1 0 (canon env [3,6,44,45,46]) st=([(3,.ptr 0 0),(6,J m),(44,sl 1 nl (A.map I)),(45,J A.length),(46,J i)],⟨[[x,y]],[]⟩)):
  ∃x_1 en s,lim (headed pure (run L) true [3,6,44,45,46] lp157_0 1 0) env st=some (x_1,en,s)∧(if (A.drop i).any (badC m)=true then x_1=.ret∧en.get 4=.v (.slice none 0 0)∧en.get 5=I 2 else x_1=.exit 1∧en.get 3=.ptr 0 0∧en.get 6=J m∧s=⟨[[x,y]],[]⟩):=by
 refine loop_wp (α:=Nat) (fun i=>A.length-i) (fun i=>i≤A.length) (fun i=>([(3,.ptr 0 0),(6,J m),(44,sl 1 nl (A.map I)),(45,J A.length),(46,J i)],⟨[[x,y]],[]⟩)) (fun i x_1 en s=>if (A.drop i).any (badC m)=true then x_1=.ret∧en.get 4=.v (.slice none 0 0)∧en.get 5=I 2 else x_1=.exit 1∧en.get 3=.ptr 0 0∧en.get 6=J m∧s=⟨[[x,y]],[]⟩) (fun i hok=> ?_) i hok env st hg
 by_cases h:i<A.length
 ·have hx:=index_ints nl A i h
  have hs:=succ64 i (by omega)
  have hd:A.drop i=A[i]::A.drop (i+1):=List.drop_eq_getElem_cons h
  have hlt:((i:Int)<(A.length:Int))=True:=eT (by omega)
  rw [hd,List.any_cons]
  generalize A[i]=a at*
  by_cases p1:a<0
  ·have e:badC m a=true:=by unfold badC;rw [decide_eq_true p1,Bool.true_or]
   rw [e,Bool.true_or]
   simp only [go_sem,lp157_0,hlt,hx,p1]
  ·by_cases p2:(m:Int)<a
   ·have e:badC m a=true:=by unfold badC;rw [decide_eq_true p2,Bool.or_true]
    rw [e,Bool.true_or]
    simp only [go_sem,lp157_0,hlt,hx,p1,p2]
   ·have e:badC m a=false:=by unfold badC;rw [decide_eq_false p1,decide_eq_false p2];rfl
    rw [e,Bool.false_or]
    simp only [go_sem,lp157_0,hlt,hx,p1,p2,hs]
    refine ⟨i+1,by simp only [go_sem,ren1_locm,loc_tips,locT_eq,hx1,hx2,hy1,hy2]<;>rfl,?_,?_,fun x en s hq=> ?_⟩
    ·omega
    ·omega
    ·exact hq
 ·have hd:A.drop i=[]:=List.drop_eq_nil_of_le (by omega)
  have hlt:((i:Int)<(A.length:Int))=False:=eF (by omega)
  rw [hd,List.any_nil]
  simp only [go_sem,lp157_0,hlt]
theorem loop157_1 (y:AV)(hy1: ∀n,okRef n y=true)(hy2: ∀n T acc,ren1 n T acc y=(y,acc))(nu:Bool)(U:List Nat)(hU: ∀u∈U,u≤U.length)(hl:U.length≤13)(c:Nat)(hc:c≤U.length)(t:Nat)(w:Nat)(hok:t≤U.length∧w=itC U t c∧w≤U.length)(env:Env)(st:St)
  (hg:gcAV true 1 0 (canon env [3,6,10,60,61,66,67]) st=([(3,.ptr 0 0),(6,J U.length),(10,J w),(60,J U.length),(61,J (c-1)),(66,J U.length),(67,J t)],⟨[[sl 1 nu (U.map J),y]],[]⟩)):
  ∃x_1 en s,lim (headed pure (run L) true [3,6,10,60,61,66,67] lp157_1 1 0) env st=some (x_1,en,s)∧(x_1=.exit 5∧en.get 3=.ptr 0 0∧en.get 6=J U.length∧en.get 10=J (itC U U.length c)∧en.get 60=J U.length∧en.get 61=J (c-1)∧s=⟨[[sl 1 nu (U.map J),y]],[]⟩):=by
 refine loop_wp (α:=Nat×Nat) (fun ⟨t,w⟩=>U.length-t) (fun ⟨t,w⟩=>t≤U.length∧w=itC U t c∧w≤U.length) (fun ⟨t,w⟩=>([(3,.ptr 0 0),(6,J U.length),(10,J w),(60,J U.length),(61,J (c-1)),(66,J U.length),(67,J t)],⟨[[sl 1 nu (U.map J),y]],[]⟩)) (fun ⟨t,w⟩ x_1 en s=>x_1=.exit 5∧en.get 3=.ptr 0 0∧en.get 6=J U.length∧en.get 10=J (itC U U.length c)∧en.get 60=J U.length∧en.get 61=J (c-1)∧s=⟨[[sl 1 nu (U.map J),y]],[]⟩) (fun ⟨t,w⟩ hok=> ?_) ⟨t,w⟩ hok env st hg
 simp only at hok
 obtain ⟨h1,h2,h3⟩:=hok
 dsimp only at h1 h2 h3⊢
 by_cases h:t<U.length
 ·have hs:=succ64 t (by omega)
  have hlt:((t:Int)<(U.length:Int))=True:=eT (by omega)
  have hit:=itC_succ U t c
  rw [←h2] at hit
  by_cases p:0<w
  ·have q:((0:Int)<(w:Int))=True:=eT (by omega)
   have hw:=pred64 w p (by omega)
   have hx:=idx_sl J nu U (w-1) (by omega)
   have hu:upC U w=U[w-1]'(by omega):=by
    unfold upC;rw [if_neg (by omega),List.getD_eq_getElem?_getD,List.getElem?_eq_getElem (by omega)];rfl
   have hle:=upC_le hU w
   rw [hu] at hit hle
   generalize U[w-1]'(by omega)=v at*
   simp only [go_sem,lp157_1,hlt,hs,q,hw,hx]
   refine ⟨(t+1,v),by simp only [go_sem,ren1_locm,loc_tips,locT_eq,hy1,hy2]<;>rfl,?_,?_,fun x en s hq=> ?_⟩
   ·dsimp only;exact ⟨by omega,hit.symm,hle⟩
   ·dsimp only;omega
   ·exact hq
  ·have q:((0:Int)<(w:Int))=False:=eF (by omega)
   have w0:w=0:=by omega
   simp only [go_sem,lp157_1,hlt,hs,q]
   refine ⟨(t+1,w),by simp only [go_sem,ren1_locm,loc_tips,locT_eq,hy1,hy2]<;>rfl,?_,?_,fun x en s hq=> ?_⟩
   ·dsimp only;exact ⟨by omega,by rw [hit,w0];rfl,h3⟩
   ·dsimp only;omega
   ·exact hq
 ·have e:t=U.length:=by omega
  subst e
  have hlt:((U.length:Int)<(U.length:Int))=False:=eF (by omega)
  rw [←h2]
  simp only [go_sem,lp157_1,hlt]
def lostTo (U:List Nat) (i:Nat):Bool:=(List.range' i (U.length-i)).any fun c=>decide (itC U U.length (c+1)≠0)
theorem loop157_2 (y:AV)(hy1: ∀n,okRef n y=true)(hy2: ∀n T acc,ren1 n T acc y=(y,acc))(nu:Bool)(U:List Nat)(hU: ∀u∈U,u≤U.length)(hl:U.length≤13)(i:Nat)(hok:i≤U.length)(env:Env)(st:St)
  (hg:gcAV true 1 0 (canon env [3,6,60,61]) st=([(3,.ptr 0 0),(6,J U.length),(60,J U.length),(61,J i)],⟨[[sl 1 nu (U.map J),y]],[]⟩)):
  ∃x_1 en s,lim (headed pure (run L) true [3,6,60,61] lp157_2 1 0) env st=some (x_1,en,s)∧(if lostTo U i=true then x_1=.ret∧en.get 4=.v (.slice none 0 0)∧en.get 5=I 12 else x_1=.exit 3∧en.get 3=.ptr 0 0∧en.get 6=J U.length∧s=⟨[[sl 1 nu (U.map J),y]],[]⟩):=by
 refine loop_wp (α:=Nat) (fun i=>U.length-i) (fun i=>i≤U.length) (fun i=>([(3,.ptr 0 0),(6,J U.length),(60,J U.length),(61,J i)],⟨[[sl 1 nu (U.map J),y]],[]⟩)) (fun i x_1 en s=>if lostTo U i=true then x_1=.ret∧en.get 4=.v (.slice none 0 0)∧en.get 5=I 12 else x_1=.exit 3∧en.get 3=.ptr 0 0∧en.get 6=J U.length∧s=⟨[[sl 1 nu (U.map J),y]],[]⟩) (fun i hok=> ?_) i hok env st hg
 by_cases h:i<U.length
 ·have hs:=succ64 i (by omega)
  have hlt:((i:Int)<(U.length:Int))=True:=eT (by omega)
  have e0:lostTo U i=(decide (itC U U.length (i+1)≠0)||lostTo U (i+1)):=by
   unfold lostTo
   rw [show U.length-i=(U.length-(i+1))+1 by omega,List.range'_succ,List.any_cons]
  by_cases p:itC U U.length (i+1)=0
  ·have e:lostTo U i=lostTo U (i+1):=by rw [e0,decide_eq_false (by simpa using p),Bool.false_or]
   rw [e]
   simp only [go_sem,lp157_2,hlt,hs]
   generalize hg:lim (headed pure (run L) true _ lp157_1 _ _) _ _=o
   obtain ⟨x,en,s,rfl,h2⟩: ∃x en s,o=some (x,en,s)∧_:=by rw [←hg];exact loop157_1 y hy1 hy2 nu U hU hl (i+1) (by omega) 0 (i+1) ⟨by omega,rfl,by omega⟩ _ _ (by simp only [go_sem,hy1,hy2,Int.natCast_zero,show i+1-1=i from rfl]<;>rfl)
   clear hg
   obtain ⟨rfl,e3,e6,e10,e60,e61,rfl⟩:=h2
   rw [show i+1-1=i from rfl] at e61
   rw [p] at e10
   have q:((0:Int)<((0:Nat):Int))=False:=eF (by omega)
   simp only [go_sem,lp157_2,e3,e6,e10,e60,e61,q,hs]
   refine ⟨i+1,by simp only [go_sem,ren1_locm,loc_tips,locT_eq,e3,e6,e60,hy1,hy2]<;>rfl,?_,?_,fun x en s hq=> ?_⟩
   ·omega
   ·omega
   ·exact hq
  ·have e:lostTo U i=true:=by rw [e0,decide_eq_true (by simpa using p),Bool.true_or]
   rw [e]
   simp only [go_sem,lp157_2,hlt,hs]
   generalize hg:lim (headed pure (run L) true _ lp157_1 _ _) _ _=o
   obtain ⟨x,en,s,rfl,h2⟩: ∃x en s,o=some (x,en,s)∧_:=by rw [←hg];exact loop157_1 y hy1 hy2 nu U hU hl (i+1) (by omega) 0 (i+1) ⟨by omega,rfl,by omega⟩ _ _ (by simp only [go_sem,hy1,hy2,Int.natCast_zero,show i+1-1=i from rfl]<;>rfl)
   clear hg
   obtain ⟨rfl,e3,e6,e10,e60,e61,rfl⟩:=h2
   rw [show i+1-1=i from rfl] at e61
   generalize itC U U.length (i+1)=z at*
   have q:((0:Int)<(z:Int))=True:=eT (by omega)
   simp only [go_sem,lp157_2,e3,e6,e10,e60,e61,q]
 ·have hlt:((i:Int)<(U.length:Int))=False:=eF (by omega)
  have e:lostTo U i=false:=by unfold lostTo;rw [show U.length-i=0 by omega];rfl
  rw [e]
  simp only [go_sem,lp157_2,hlt]
attribute [local go_sem] m_ x_ l_ k_ o_ t_ a_ s_ q_ b_ c_ u_ g_ okRef_o storable_o shaped_o cells_o fin_o pub_o shaped_t cells_t isAgg_t storable_t okRef_t pub_t
theorem laneS_len (L:List Nat)(cu:Nat×Nat):(laneS L cu).length=L.length:=by unfold laneS;simp
theorem laneF_snoc (U:List Nat): ∀(us:List Nat) (c:Nat) (L:List Nat),(laneF U c us L).length=L.length
 | [],_,_=>rfl
 |u::r,c,L=>by
  show (laneF U (c+1) r (laneS L (c,u))).length=L.length
  rw [laneF_snoc U r,laneS_len]
theorem set_getD (L:List Nat)(i v k:Nat):(L.set i v).getD k 0=if i=k∧k<L.length then v else L.getD k 0:=by
 rw [List.getD_eq_getElem?_getD,List.getD_eq_getElem?_getD,List.getElem?_set]
 by_cases h:i=k
 ·subst h
  by_cases h2:i<L.length
  ·simp [h2]
  ·rw [if_pos rfl,if_neg h2,if_neg (by simp [h2]),List.getElem?_eq_none (by omega)]
 ·rw [if_neg h,if_neg (by simp [h])]
theorem laneS_le {Q:List Nat} {b:Nat} (h: ∀k,Q.getD k 0≤b)(cu:Nat×Nat): ∀k,(laneS Q cu).getD k 0≤b+2:=by
 intro k
 have h1: ∀k,(Q.set (cu.1+1) (Q.getD (cu.1+1) 0+1)).getD k 0≤b+1:=by
  intro k
  rw [set_getD]
  split
  ·have:=h (cu.1+1);omega
  ·have:=h k;omega
 unfold laneS
 rw [set_getD]
 split
 ·have:=h1 cu.2;omega
 ·have:=h1 k;omega
theorem loop157_3 (y:AV)(hy1: ∀n,okRef n y=true)(hy2: ∀n T acc,ren1 n T acc y=(y,acc))(nu:Bool)(U:List Nat)(hU: ∀u∈U,u≤U.length)(hl:U.length≤13)(i:Nat)(Q:List Nat)(hok:i≤U.length∧Q.length=U.length+1∧∀k,Q.getD k 0≤2*i)(env:Env)(st:St)
  (hg:gcAV true 2 0 (canon env [3,6,11,90,91,92]) st=([(3,.ptr 0 0),(6,J U.length),(11,.rsl 1 0 (U.length+1) (U.length+1) 1 false),(90,sl 1 nu (U.map J)),(91,J U.length),(92,J i)],⟨[[sl 1 nu (U.map J),y],Q.map J],[]⟩)):
  ∃x_1 en s,lim (headed pure (run L) true [3,6,11,90,91,92] lp157_3 2 0) env st=some (x_1,en,s)∧(x_1=.exit 7∧en.get 3=.ptr 0 0∧en.get 6=J U.length∧en.get 11=.rsl 1 0 (U.length+1) (U.length+1) 1 false∧s=⟨[[sl 1 nu (U.map J),y],(laneF U i (U.drop i) Q).map J],[]⟩):=by
 refine loop_wp (α:=Nat×List Nat) (fun ⟨i,Q⟩=>U.length-i) (fun ⟨i,Q⟩=>i≤U.length∧Q.length=U.length+1∧∀k,Q.getD k 0≤2*i) (fun ⟨i,Q⟩=>([(3,.ptr 0 0),(6,J U.length),(11,.rsl 1 0 (U.length+1) (U.length+1) 1 false),(90,sl 1 nu (U.map J)),(91,J U.length),(92,J i)],⟨[[sl 1 nu (U.map J),y],Q.map J],[]⟩)) (fun ⟨i,Q⟩ x_1 en s=>x_1=.exit 7∧en.get 3=.ptr 0 0∧en.get 6=J U.length∧en.get 11=.rsl 1 0 (U.length+1) (U.length+1) 1 false∧s=⟨[[sl 1 nu (U.map J),y],(laneF U i (U.drop i) Q).map J],[]⟩) (fun ⟨i,Q⟩ hok=> ?_) ⟨i,Q⟩ hok env st hg
 simp only at hok
 obtain ⟨h1,h2,h3⟩:=hok
 dsimp only at h1 h2 h3⊢
 by_cases h:i<U.length
 ·have hs:=succ64 i (by omega)
  have hlt:((i:Int)<(U.length:Int))=True:=eT (by omega)
  have hx:=idx_sl J nu U i h
  have hd:U.drop i=U[i]::U.drop (i+1):=List.drop_eq_getElem_cons h
  have hu:=hU U[i] (List.getElem_mem h)
  have hlf:laneF U i (U[i]::U.drop (i+1)) Q=laneF U (i+1) (U.drop (i+1)) (laneS Q (i,U[i])):=rfl
  rw [hd,hlf]
  generalize U[i]=u at*
  have hsl:=laneS_len Q (i,u)
  have hse:laneS Q (i,u)=(Q.set (i+1) (Q.getD (i+1) 0+1)).set u ((Q.set (i+1) (Q.getD (i+1) 0+1)).getD u 0+1):=rfl
  have c1:(((i+1:Nat):Int)<((U.length+1:Nat):Int))=True:=eT (by omega)
  have c2:(i+1+1≤U.length+1)=True:=eT (by omega)
  have c3:((u:Int)<((U.length+1:Nat):Int))=True:=eT (by omega)
  have c4:(u+1≤U.length+1)=True:=eT (by omega)
  have g1:=getJ Q (i+1) (by omega)
  have hle:=laneS_le h3 (i,u)
  have hw1:IntKind.i64.wrap (((Q.getD (i+1) 0:Nat):Int)+1)=((Q.getD (i+1) 0+1:Nat):Int):=succ64 _ (by have:=h3 (i+1);omega)
  have hs1:=setJ Q (i+1) (Q.getD (i+1) 0+1)
  have hQ1:(Q.set (i+1) (Q.getD (i+1) 0+1)).length=U.length+1:=by rw [List.length_set,h2]
  have hQ1b: ∀k,(Q.set (i+1) (Q.getD (i+1) 0+1)).getD k 0≤2*i+1:=by
   intro k
   rw [set_getD]
   split
   ·have:=h3 (i+1);omega
   ·have:=h3 k;omega
  generalize Q.getD (i+1) 0=v at*
  generalize hQ1e:Q.set (i+1) (v+1)=Q1 at*
  have g2:=getJ Q1 u (by omega)
  have hw2:IntKind.i64.wrap (((Q1.getD u 0:Nat):Int)+1)=((Q1.getD u 0+1:Nat):Int):=succ64 _ (by have:=hQ1b u;omega)
  have hs2:=setJ Q1 u (Q1.getD u 0+1)
  rw [←hse] at hs2
  generalize Q1.getD u 0=v2 at*
  generalize laneS Q (i,u)=Q2 at*
  have hJl:(Q.map J).length=U.length+1:=by rw [lm_,h2]
  have hJl1:(Q1.map J).length=U.length+1:=by rw [lm_,hQ1]
  simp only [go_sem,lp157_3,hlt,hs,hx,c1,c2,c3,c4,g1,hw1,hs1,g2,hw2,hs2,hJl,hJl1,h2,hQ1,nn_,lm_]
  refine ⟨(i+1,Q2),by simp only [go_sem,ren1_locm,loc_tips,locT_eq,hy1,hy2,okRefsJ,renCellsJ]<;>rfl,?_,?_,fun x en s hq=> ?_⟩
  ·dsimp only;exact ⟨by omega,by omega,hle⟩
  ·dsimp only;omega
  ·exact hq
 ·have e:U.drop i=[]:=List.drop_eq_nil_of_le (by omega)
  have hlt:((i:Int)<(U.length:Int))=False:=eF (by omega)
  rw [e]
  simp only [go_sem,lp157_3,hlt]
  rfl
theorem all193:(List.range 100).map (fun k=>(callAV L 400 193 [J k,B true] ⟨[],[]⟩,callAV L 400 193 [J k,B false] ⟨[],[]⟩))=(List.range 100).map (fun k=>(some (I 0,(⟨[],[]⟩:St)),some (I (if k<3 then 4 else 0),(⟨[],[]⟩:St)))):=by kernel_rfl
theorem c193 (k:Nat)(hk:k<100)(b:Bool)(st:St):run L 193 [J k,B b] st=some (I (if k<3∧b=false then 4 else 0),st):=by
 have h:=all_of all193 k hk
 simp only [Prod.mk.injEq] at h
 cases b
 ·have:=run_any' (fn:=ir193) rfl rfl (callAV_run L 400 _ _ _ _ h.2) st
  simpa using this
 ·have:=run_any' (fn:=ir193) rfl rfl (callAV_run L 400 _ _ _ _ h.1) st
  simpa using this
theorem indexOf_mem (a:Int): ∀(l:List Int) (i:Nat),decide (0≤indexOf a l i)=decide (a∈l)
 | [],i=>by simp [indexOf]
 |b::r,i=>by
  have ih:=indexOf_mem a r (i+1)
  simp only [indexOf]
  by_cases h:a=b
  ·subst h;simp
  ·have h2: ¬b=a:=fun e=>h e.symm
   simp only [h,h2,if_false,List.mem_cons,false_or]
   exact ih
theorem c21 (nl:Bool)(W:List Nat)(hlen:W.length<1000000)(a:Nat)(st:St):run L 21 [sl 1 nl (W.map J),J a] st=some (B (decide (a∈W)),st):=by
 rw [run_pure (fn:=ir21) rfl rfl]
 have e:W.map J=(W.map fun (x:Nat)=>(x:Int)).map I:=by rw [List.map_map];rfl
 have h59:=fun st=>c69 nl (W.map fun (x:Nat)=>(x:Int)) (by simpa using hlen) (a:Int) st
 rw [←e] at h59
 have hm:=indexOf_mem (a:Int) (W.map fun (x:Nat)=>(x:Int)) 0
 have hiff:((a:Int)∈W.map fun (x:Nat)=>(x:Int))↔a∈W:=by
  rw [List.mem_map]
  constructor
  ·rintro ⟨x,hx,e⟩
   have:x=a:=by omega
   subst this;exact hx
  ·intro h;exact ⟨a,h,rfl⟩
 simp only [hiff] at hm
 simp only [ir21,go_sem,h59,hm]
theorem loop157_4 (x:AV)(hx1: ∀n,okRef n x=true)(hx2: ∀n T acc,ren1 n T acc x=(x,acc))(nw:Bool)(W:List Nat)(hW:W.length<1000)(m:Nat)(Q:List Nat)(hQ:Q.length=m)(hm:m≤14)(hQb: ∀k,Q.getD k 0<100)(i:Nat)(hok:i≤m)(env:Env)(st:St)
  (hg:gcAV true 2 0 (canon env [3,6,111,112,113]) st=([(3,.ptr 0 0),(6,J (m-1)),(111,.rsl 1 0 m m 1 false),(112,J m),(113,J i)],⟨[[x,sl 1 nw (W.map J)],Q.map J],[]⟩)):
  ∃x_1 en s,lim (headed pure (run L) true [3,6,111,112,113] lp157_4 2 0) env st=some (x_1,en,s)∧(if lackF W i (Q.drop i)=true then x_1=.ret∧en.get 4=.v (.slice none 0 0)∧en.get 5=I 4 else x_1=.exit 9∧en.get 3=.ptr 0 0∧en.get 6=J (m-1)∧s=⟨[[x,sl 1 nw (W.map J)],Q.map J],[]⟩):=by
 refine loop_wp (α:=Nat) (fun i=>m-i) (fun i=>i≤m) (fun i=>([(3,.ptr 0 0),(6,J (m-1)),(111,.rsl 1 0 m m 1 false),(112,J m),(113,J i)],⟨[[x,sl 1 nw (W.map J)],Q.map J],[]⟩)) (fun i x_1 en s=>if lackF W i (Q.drop i)=true then x_1=.ret∧en.get 4=.v (.slice none 0 0)∧en.get 5=I 4 else x_1=.exit 9∧en.get 3=.ptr 0 0∧en.get 6=J (m-1)∧s=⟨[[x,sl 1 nw (W.map J)],Q.map J],[]⟩) (fun i hok=> ?_) i hok env st hg
 by_cases h:i<m
 ·have hs:=succ64 i (by omega)
  have hlt:((i:Int)<(m:Int))=True:=eT (by omega)
  have hil:(i+1≤m)=True:=eT (by omega)
  have hg:=getJ Q i (by omega)
  have hd:Q.drop i=Q.getD i 0::Q.drop (i+1):=by
   rw [List.drop_eq_getElem_cons (by omega)];simp [List.getD_eq_getElem?_getD,show i<Q.length by omega]
  have hb:=hQb i
  have hJl:(Q.map J).length=m:=by rw [lm_,hQ]
  rw [hd]
  generalize Q.getD i 0=k at*
  have hlf:lackF W i (k::Q.drop (i+1))=(lackB W i k||lackF W (i+1) (Q.drop (i+1))):=rfl
  rw [hlf]
  have h112:=fun st=>c21 nw W (by omega) i st
  have h134:=fun st=>c193 k hb (decide (i∈W)) st
  by_cases p:k<3∧decide (i∈W)=false
  ·have e:lackB W i k=true:=by unfold lackB;simp only [p.1,decide_true,Bool.true_and];simpa using p.2
   rw [if_pos p] at h134
   rw [e,Bool.true_or]
   generalize decide (i∈W)=bb at*
   simp only [go_sem,lp157_4,hlt,hil,hg,hJl,hQ,h112,h134,nn_,lm_]
  ·have e:lackB W i k=false:=by
    unfold lackB
    rw [Bool.and_eq_false_iff]
    by_cases q:k<3
    ·right
     have:decide (i∈W)≠false:=fun h=>p ⟨q,h⟩
     simp at this
     simp [this]
    ·left;simp [q]
   rw [if_neg p] at h134
   rw [e,Bool.false_or]
   generalize decide (i∈W)=bb at*
   simp only [go_sem,lp157_4,hlt,hs,hil,hg,hJl,hQ,h112,h134,nn_,lm_]
   refine ⟨i+1,by simp only [go_sem,ren1_locm,loc_tips,locT_eq,hx1,hx2,okRefsJ,renCellsJ]<;>rfl,?_,?_,fun x en s hq=> ?_⟩
   ·omega
   ·omega
   ·exact hq
 ·have e:Q.drop i=[]:=List.drop_eq_nil_of_le (by omega)
  have hlt:((i:Int)<(m:Int))=False:=eF (by omega)
  rw [e]
  have e2:lackF W i []=false:=rfl
  rw [e2]
  simp only [go_sem,lp157_4,hlt]
attribute [local go_sem] m_ x_ l_ k_ o_ t_ a_ s_ q_ b_ c_ u_ g_ okRef_o storable_o shaped_o cells_o fin_o pub_o shaped_t cells_t isAgg_t storable_t okRef_t pub_t
theorem walkO_ok (U:List Nat)(a:Nat)(ha:a<8): ∀(f w:Nat) (O:List Nat),(∀k,O.getD k 0<256)→(walkO U a f w O).length=O.length∧∀k,(walkO U a f w O).getD k 0<256
 |0,_,_,h=>⟨rfl,h⟩
 |f+1,w,O,h=>by
  unfold walkO
  split
  ·exact ⟨rfl,h⟩
  ·have hb: ∀k,(O.set (w-1) (O.getD (w-1) 0|||2^a)).getD k 0<256:=by
    intro k
    rw [set_getD]
    split
    ·exact Nat.or_lt_two_pow (n:=8) (h _) (Nat.pow_lt_pow_right (by omega) ha)
    ·exact h k
   have ih:=walkO_ok U a ha f (upC U w) _ hb
   exact ⟨by rw [ih.1,List.length_set],ih.2⟩
theorem outF_ok (U:List Nat): ∀(W:List Nat) (a:Nat) (O:List Nat),a+W.length≤8→(∀k,O.getD k 0<256)→(outF U a W O).length=O.length∧∀k,(outF U a W O).getD k 0<256
 | [],_,_,_,h=>⟨rfl,h⟩
 |w::r,a,O,hl,h=>by
  rw [List.length_cons] at hl
  have h1:=walkO_ok U a (by omega) U.length w O h
  have ih:=outF_ok U r (a+1) (walkO U a U.length w O) (by omega) h1.2
  exact ⟨ih.1.trans h1.1,ih.2⟩
theorem set8 (O:List Nat)(i v:Nat):(O.map u8).set i (u8 v)=(O.set i v).map u8:=by rw [List.map_set]
theorem loop157_5 (y:AV)(hy1: ∀n,okRef n y=true)(hy2: ∀n T acc,ren1 n T acc y=(y,acc))(nu:Bool)(U:List Nat)(hU: ∀u∈U,u≤U.length)(hl:U.length≤13)(Q:List Nat)(X:AV)(hX1: ∀n,okRef n X=true)(hX2: ∀n T acc,ren1 n T acc X=(X,acc))(k a:Nat)(ha:a<8)(f:Nat)(w:Nat)(O:List Nat)(hok:itC U f w=0∧w≤U.length∧O.length=U.length∧∀k,O.getD k 0<256)(env:Env)(st:St)
  (hg:gcAV true 3 0 (canon env [3,17,18,19,131,132,133]) st=([(3,.ptr 0 0),(17,.rsl 2 0 U.length U.length 1 true),(18,J a),(19,J w),(131,X),(132,J k),(133,J a)],⟨[[sl 1 nu (U.map J),y],Q.map J,O.map u8],[]⟩)):
  ∃x_1 en s,lim (headed pure (run L) true [3,17,18,19,131,132,133] lp157_5 3 0) env st=some (x_1,en,s)∧(x_1=.exit 13∧en.get 3=.ptr 0 0∧en.get 17=.rsl 2 0 U.length U.length 1 true∧en.get 131=X∧en.get 132=J k∧en.get 133=J a∧s=⟨[[sl 1 nu (U.map J),y],Q.map J,(walkO U a f w O).map u8],[]⟩):=by
 refine loop_wp (α:=Nat×Nat×List Nat) (fun ⟨f,w,O⟩=>f) (fun ⟨f,w,O⟩=>itC U f w=0∧w≤U.length∧O.length=U.length∧∀k,O.getD k 0<256) (fun ⟨f,w,O⟩=>([(3,.ptr 0 0),(17,.rsl 2 0 U.length U.length 1 true),(18,J a),(19,J w),(131,X),(132,J k),(133,J a)],⟨[[sl 1 nu (U.map J),y],Q.map J,O.map u8],[]⟩)) (fun ⟨f,w,O⟩ x_1 en s=>x_1=.exit 13∧en.get 3=.ptr 0 0∧en.get 17=.rsl 2 0 U.length U.length 1 true∧en.get 131=X∧en.get 132=J k∧en.get 133=J a∧s=⟨[[sl 1 nu (U.map J),y],Q.map J,(walkO U a f w O).map u8],[]⟩) (fun ⟨f,w,O⟩ hok=> ?_) ⟨f,w,O⟩ hok env st hg
 simp only at hok
 obtain ⟨h1,h2,h3,h4⟩:=hok
 dsimp only at h1 h2 h3 h4⊢
 by_cases h:w=0
 ·subst h
  have e:walkO U a f 0 O=O:=by
   cases f with
   |zero=>rfl
   |succ f=>unfold walkO;rw [if_pos rfl]
  rw [e]
  have q:((0:Int)<((0:Nat):Int))=False:=eF (by omega)
  simp only [go_sem,lp157_5,q]
 ·cases f with
  |zero=>exact absurd h1 h
  |succ f=>
   have q:((0:Int)<(w:Int))=True:=eT (by omega)
   have hw:=pred64 w (by omega) (by omega)
   have hx:=idx_sl J nu U (w-1) (by omega)
   have hu:upC U w=U[w-1]'(by omega):=by
    unfold upC;rw [if_neg h,List.getD_eq_getElem?_getD,List.getElem?_eq_getElem (by omega)];rfl
   have hle:=upC_le hU w
   have h1:itC U f (upC U w)=0:=h1
   have e:walkO U a (f+1) w O=walkO U a f (upC U w) (O.set (w-1) (O.getD (w-1) 0|||2^a)):=by
    show (if w=0 then O else _)=_
    rw [if_neg h]
   rw [e]
   rw [hu] at hle h1⊢
   generalize U[w-1]'(by omega)=v at*
   have hob:=h4 (w-1)
   have hg:=get8 O (w-1) (by omega)
   have hpa:2^a<256:=Nat.pow_lt_pow_right (n:=8) (by omega) ha
   have hsh:=shl8 a ha
   have hor:=or8 (O.getD (w-1) 0) (2^a) hob hpa
   have hst:=set8 O (w-1) (O.getD (w-1) 0|||2^a)
   have hbn: ∀k,(O.set (w-1) (O.getD (w-1) 0|||2^a)).getD k 0<256:=by
    intro k
    rw [set_getD]
    split
    ·exact Nat.or_lt_two_pow (n:=8) hob hpa
    ·exact h4 k
   have hOl:(O.set (w-1) (O.getD (w-1) 0|||2^a)).length=U.length:=by rw [List.length_set,h3]
   generalize O.getD (w-1) 0=ov at*
   generalize O.set (w-1) (ov|||2^a)=O2 at*
   generalize ov|||2^a=ow at*
   have hJl:(O.map u8).length=U.length:=by rw [lm_,h3]
   have c1:(((w-1:Nat):Int)<(U.length:Int))=True:=eT (by omega)
   have c2:(w-1+1≤U.length)=True:=eT (by omega)
   simp only [go_sem,lp157_5,q,hw,hx,c1,c2,hg,hsh,hor,hst,hJl,h3,nn_,lm_]
   refine ⟨(f,v,O2),by simp only [go_sem,ren1_locm,loc_tips,locT_eq,hy1,hy2,hX1,hX2,okRefsJ,renCellsJ,okRefs8,renCells8]<;>rfl,?_,?_,fun x en s hq=> ?_⟩
   ·dsimp only;exact ⟨h1,hle,hOl,hbn⟩
   ·dsimp only;omega
   ·exact hq
theorem loop157_6 (nu nw:Bool)(U W:List Nat)(hU: ∀u∈U,u≤U.length)(hW: ∀w∈W,w≤U.length)(hl:U.length≤13)(hWl:W.length≤8)(hlost: ∀w,w≤U.length→itC U U.length w=0)(Q:List Nat)(i:Nat)(O:List Nat)(hok:i≤W.length∧O.length=U.length∧∀k,O.getD k 0<256)(env:Env)(st:St)
  (hg:gcAV true 3 0 (canon env [3,17,131,132,133]) st=([(3,.ptr 0 0),(17,.rsl 2 0 U.length U.length 1 true),(131,sl 1 nw (W.map J)),(132,J W.length),(133,J i)],⟨[[sl 1 nu (U.map J),sl 1 nw (W.map J)],Q.map J,O.map u8],[]⟩)):
  ∃x_1 en s,lim (headed pure (run L) true [3,17,131,132,133] lp157_6 3 0) env st=some (x_1,en,s)∧(x_1=.exit 11∧en.get 17=.rsl 2 0 U.length U.length 1 true∧s=⟨[[sl 1 nu (U.map J),sl 1 nw (W.map J)],Q.map J,(outF U i (W.drop i) O).map u8],[]⟩):=by
 refine loop_wp (α:=Nat×List Nat) (fun ⟨i,O⟩=>W.length-i) (fun ⟨i,O⟩=>i≤W.length∧O.length=U.length∧∀k,O.getD k 0<256) (fun ⟨i,O⟩=>([(3,.ptr 0 0),(17,.rsl 2 0 U.length U.length 1 true),(131,sl 1 nw (W.map J)),(132,J W.length),(133,J i)],⟨[[sl 1 nu (U.map J),sl 1 nw (W.map J)],Q.map J,O.map u8],[]⟩)) (fun ⟨i,O⟩ x_1 en s=>x_1=.exit 11∧en.get 17=.rsl 2 0 U.length U.length 1 true∧s=⟨[[sl 1 nu (U.map J),sl 1 nw (W.map J)],Q.map J,(outF U i (W.drop i) O).map u8],[]⟩) (fun ⟨i,O⟩ hok=> ?_) ⟨i,O⟩ hok env st hg
 simp only at hok
 obtain ⟨h1,h2,h3⟩:=hok
 dsimp only at h1 h2 h3⊢
 by_cases h:i<W.length
 ·have hs:=succ64 i (by omega)
  have hlt:((i:Int)<(W.length:Int))=True:=eT (by omega)
  have hx:=idx_sl J nw W i h
  have hd:W.drop i=W[i]::W.drop (i+1):=List.drop_eq_getElem_cons h
  have hw:=hW W[i] (List.getElem_mem h)
  have hof:outF U i (W[i]::W.drop (i+1)) O=outF U (i+1) (W.drop (i+1)) (walkO U i U.length W[i] O):=rfl
  rw [hd,hof]
  generalize W[i]=w at*
  have hwo:=walkO_ok U i (by omega) U.length w O h3
  simp only [go_sem,lp157_6,hlt,hs,hx]
  generalize hg:lim (headed pure (run L) true _ lp157_5 _ _) _ _=o
  obtain ⟨x,en,s,rfl,h2⟩: ∃x en s,o=some (x,en,s)∧_:=by rw [←hg];exact loop157_5 (sl 1 nw (W.map J)) (fun n=>okRef_sl _ _ _ _) (fun n T acc=>ren1_sl _ _ _ _ _ _) nu U hU hl Q (sl 1 nw (W.map J)) (fun n=>okRef_sl _ _ _ _) (fun n T acc=>ren1_sl _ _ _ _ _ _) W.length i (by omega) U.length w O ⟨hlost w hw,hw,h2,h3⟩ _ _ (by simp only [go_sem,okRefsJ,renCellsJ,okRefs8,renCells8]<;>rfl)
  clear hg
  generalize walkO U i U.length w O=O2 at*
  obtain ⟨rfl,e3,e17,e131,e132,e133,rfl⟩:=h2
  simp only [go_sem,lp157_6,e3,e17,e131,e132,e133,hs]
  refine ⟨(i+1,O2),by simp only [go_sem,ren1_locm,loc_tips,locT_eq,e3,e17,e131,e132,e133,okRefsJ,renCellsJ,okRefs8,renCells8]<;>rfl,?_,?_,fun x en s hq=> ?_⟩
  ·dsimp only;exact ⟨by omega,by omega,hwo.2⟩
  ·dsimp only;omega
  ·exact hq
 ·have e:W.drop i=[]:=List.drop_eq_nil_of_le (by omega)
  have hlt:((i:Int)<(W.length:Int))=False:=eF (by omega)
  rw [e]
  simp only [go_sem,lp157_6,hlt]
  rfl
def srtTo (O:List Nat) (i:Nat):Bool:=(List.range i).all fun j=> !lexLt (memb (O.getD (j+1) 0)) (memb (O.getD j 0))
theorem loop194 (a b:List AV)(O:List Nat)(hO: ∀k,O.getD k 0<256)(m:Nat)(hm:O.length=m)(hm13:m≤13)(lo hi:Nat)(i:Nat)(hok:i<m)(env:Env)(st:St)
  (hg:gcAV false lo hi (canon env [0,1,5]) st=([(0,.rsl 2 0 m m 1 true),(1,cmpS),(5,J i)],⟨[a,b,O.map u8],[]⟩)):
  ∃x_1 en s,lim (headed pure (run L) false [0,1,5] lp194_0 lo hi) env st=some (x_1,en,s)∧(s=⟨[a,b,O.map u8],[]⟩∧(if srtTo O i=true then x_1=.exit 0 else x_1=.ret∧en.get 4=B false)):=by
 refine loop_wp (α:=Nat) (fun i=>i) (fun i=>i<m) (fun i=>([(0,.rsl 2 0 m m 1 true),(1,cmpS),(5,J i)],⟨[a,b,O.map u8],[]⟩)) (fun i x_1 en s=>s=⟨[a,b,O.map u8],[]⟩∧(if srtTo O i=true then x_1=.exit 0 else x_1=.ret∧en.get 4=B false)) (fun i hok=> ?_) i hok env st hg
 cases i with
 |zero=>
  have q:((0:Int)<((0:Nat):Int))=False:=eF (by omega)
  have e:srtTo O 0=true:=rfl
  rw [e]
  simp only [go_sem,lp194_0,q]
 |succ j=>
  have q:((0:Int)<((j+1:Nat):Int))=True:=eT (by omega)
  have hw:IntKind.i64.wrap (((j+1:Nat):Int)-1)=((j:Nat):Int):=by rw [wrap64]<;>omega
  have hg1:=slice8 O (j+1) (by omega)
  have hg2:=slice8 O j (by omega)
  have c1:(((j+1:Nat):Int)<(m:Int))=True:=eT (by omega)
  have c2:(j+1+1≤m)=True:=eT (by omega)
  have c3:((j:Int)<(m:Int))=True:=eT (by omega)
  have c4:(j+1≤m)=True:=eT (by omega)
  have hJl:(O.map u8).length=m:=by rw [lm_,hm]
  have e:srtTo O (j+1)=(srtTo O j&& !lexLt (memb (O.getD (j+1) 0)) (memb (O.getD j 0))):=by
   unfold srtTo;rw [List.range_succ,List.all_append];simp
  rw [e]
  have b1:=hO (j+1)
  have b2:=hO j
  generalize O.getD (j+1) 0=u at*
  generalize O.getD j 0=v at*
  have h81:=fun st=>c149 u v b1 b2 st
  have hcl:=cmpN_lt (memb u) (memb v)
  have hp81:pure 149=true:=rfl
  cases hc:lexLt (memb u) (memb v) with
  |true=>
   rw [hc] at hcl
   have q4:(cmpN (memb u) (memb v)<0)=True:=eT (of_decide_eq_true hcl)
   rw [Bool.not_true,Bool.and_false]
   simp only [go_sem,lp194_0,q,hw,hg1,hg2,c1,c2,c3,c4,hJl,hm,h81,hp81,q4,nn_,lm_]
  |false=>
   rw [hc] at hcl
   have q4:(cmpN (memb u) (memb v)<0)=False:=eF (of_decide_eq_false hcl)
   rw [Bool.not_false,Bool.and_true]
   simp only [go_sem,lp194_0,q,hw,hg1,hg2,c1,c2,c3,c4,hJl,hm,h81,hp81,q4,nn_,lm_]
   refine ⟨j,by simp only [go_sem,ren1_locm,loc_tips,locT_eq]<;>rfl,?_,?_,fun x en s hq=> ?_⟩
   ·omega
   ·omega
   ·exact hq
theorem loop194n (st0:St)(R:AV)(lo hi:Nat)(i:Nat)(hok:True)(env:Env)(st:St)
  (hg:gcAV false lo hi (canon env [0,1,5]) st=([(0,R),(1,cmpS),(5,I (-1))],st0)):
  ∃x_1 en s,lim (headed pure (run L) false [0,1,5] lp194_0 lo hi) env st=some (x_1,en,s)∧(s=st0∧x_1=.exit 0):=by
 refine loop_wp (α:=Nat) (fun i=>i) (fun i=>True) (fun i=>([(0,R),(1,cmpS),(5,I (-1))],st0)) (fun i x_1 en s=>s=st0∧x_1=.exit 0) (fun i hok=> ?_) i hok env st hg
 have q:((0:Int)< -1)=False:=eF (by omega)
 simp only [go_sem,lp194_0,q]
theorem c194 (a b:List AV)(O:List Nat)(hO: ∀k,O.getD k 0<256)(m:Nat)(hm:O.length=m)(hm13:m≤13):run L 194 [.rsl 2 0 m m 1 true,cmpS] ⟨[a,b,O.map u8],[]⟩=some (B (srtB O),⟨[a,b,O.map u8],[]⟩):=by
 rw [run_shared (fn:=ir194) rfl rfl]
 have hb:srtB O=srtTo O (m-1):=by unfold srtB srtTo;rw [hm]
 rw [hb]
 by_cases h:m=0
 ·subst h
  have hw:IntKind.i64.wrap (((0:Nat):Int)-1)= -1:=by decide
  have e:srtTo O (0-1)=true:=rfl
  rw [e]
  simp only [ir194,go_sem,hw]
  generalize hg:lim (headed pure (run L) false _ lp194_0 _ _) _ _=o
  obtain ⟨x,en,s,rfl,h2⟩: ∃x en s,o=some (x,en,s)∧_:=by rw [←hg];exact loop194n ⟨[a,b,O.map u8],[]⟩ (.rsl 2 0 0 0 1 true) _ _ 0 trivial _ _ (by simp only [go_sem]<;>rfl)
  clear hg
  obtain ⟨rfl,rfl⟩:=h2
  simp only [go_sem]
 ·have hw:=pred64 m (by omega) (by omega)
  simp only [ir194,go_sem,hw]
  generalize hg:lim (headed pure (run L) false _ lp194_0 _ _) _ _=o
  obtain ⟨x,en,s,rfl,h2⟩: ∃x en s,o=some (x,en,s)∧_:=by rw [←hg];exact loop194 a b O hO m hm hm13 _ _ (m-1) (by omega) _ _ (by simp only [go_sem]<;>rfl)
  clear hg
  obtain ⟨rfl,h2⟩:=h2
  cases hc:srtTo O (m-1) with
  |true=>
   rw [hc,if_pos rfl] at h2
   subst h2
   simp only [go_sem]
  |false=>
   rw [hc,if_neg (by simp)] at h2
   obtain ⟨rfl,e4⟩:=h2
   simp only [go_sem,e4]
attribute [local go_sem] m_ x_ l_ k_ o_ t_ a_ s_ q_ b_ c_ u_ g_ okRef_o storable_o shaped_o cells_o fin_o pub_o shaped_t cells_t isAgg_t storable_t okRef_t pub_t
def readA (r:Int×List Nat):AV:=.tup [if r.1=0 then sl 1 false (r.2.map E8) else .v (.slice none 0 0),I r.1]
theorem fin_rsl8 (st:St)(l m:Nat)(X:List Nat)(hm:X.length=m)(h:st.store[l]? =some (X.map u8)):fin st (.rsl l 0 m m 1 true)=sl 1 false (X.map E8):=by
 subst hm
 have e:fin st (.rsl l 0 X.length X.length 1 true)=.lst .any 1 (group true 1 X.length (pubs ((X.map u8).drop 0))):=by
  simp only [fin,h]
  rw [if_pos (by simp)]
 rw [e,List.drop_zero,pubs8,groupE]
 rfl
theorem make8 (k:Nat)(hk:k≤1000)(S:List (List AV))(T:List Nat):makeAV 1 true [.v (.int .u8 0)] ⟨S,T⟩ (J k) (J k)=some (.rsl S.length 0 k k 1 true,⟨S++ [(List.replicate k 0).map u8],T⟩):=by
 simp only [makeAV,natOf]
 have:k≤maxGrow:=by unfold maxGrow;omega
 simp [this]
theorem laneL_len (U:List Nat):(laneL U).length=U.length+1:=by unfold laneL;rw [laneF_snoc];simp
theorem laneF_le (U:List Nat): ∀(us:List Nat) (c:Nat) (Q:List Nat) (b:Nat),(∀k,Q.getD k 0≤b)→∀k,(laneF U c us Q).getD k 0≤b+2*us.length
 | [],_,_,_,h,k=>by have:=h k;simpa [laneF] using this
 |u::r,c,Q,b,h,k=>by
  have:=laneF_le U r (c+1) (laneS Q (c,u)) (b+2) (laneS_le h _) k
  simp only [laneF,List.length_cons]
  omega
theorem lost_iff0 (U:List Nat):lostTo U 0=lostC U:=by unfold lostTo lostC;rw [Nat.sub_zero,List.range_eq_range']
theorem c96N (n:Nat)(h2:2≤n)(hn:n≤8)(nu nw:Bool)(U W:List Nat)(hU: ∀u∈U,u≤U.length)(hW: ∀w∈W,w≤U.length)(hl:U.length≤13)(hWl:W.length=n)(st:St):
  run L 157 [J n,.agg [sl 1 nu (U.map J),sl 1 nw (W.map J)]] st=some (readA (readN U W),st):=by
 rw [run_pure (fn:=ir157) rfl rfl]
 have q1:((n:Int)<2)=False:=eF (by omega)
 have q2:((8:Int)<(n:Int))=False:=eF (by omega)
 have q3:((13:Int)<(U.length:Int))=False:=eF (by omega)
 have hlU:=lenm_sl J nu U
 have hlW:=lenm_sl J nw W
 rw [hWl] at hlW
 have hUW:(U++W).map J=((U++W).map fun (x:Nat)=>(x:Int)).map I:=by rw [List.map_map];rfl
 have hbad:((U++W).map fun (x:Nat)=>(x:Int)).any (badC U.length)=false:=by
  rw [List.any_map,List.any_eq_false]
  intro x hx
  have:x≤U.length:=by
   rw [List.mem_append] at hx
   rcases hx with hx|hx
   ·exact hU x hx
   ·exact hW x hx
  simp only [Function.comp,badC,Bool.or_eq_true,decide_eq_true_eq,not_or]
  omega
 have h111: ∀st,run L 192 [.lst .full 1 [sl 1 nu (U.map J),sl 1 nw (W.map J)]] st=some (sl 1 false ((U++W).map J),st):=fun st=>
  (run_args (fn:=ir192) rfl rfl st (by rfl)).trans (c111J nu nw U W (by omega) (by omega) (by omega) st)
 rw [hUW] at h111
 have hpx:=fun n=>okRef_sl 1 nu (U.map J) n
 have hpy:=fun n=>okRef_sl 1 nw (W.map J) n
 have hrx:=fun n T acc=>ren1_sl 1 nu (U.map J) n T acc
 have hry:=fun n T acc=>ren1_sl 1 nw (W.map J) n T acc
 have hal:((U++W).map fun (x:Nat)=>(x:Int)).length=U.length+n:=by simp [hWl]
 have hl96:=lenm_sl I false ((U++W).map fun (x:Nat)=>(x:Int))
 simp only [ir157,go_sem,hlU,hlW,q1,q2,q3,h111,hl96]
 generalize hg:lim (headed pure (run L) true _ lp157_0 _ _) _ _=o
 obtain ⟨x,en,s,rfl,h2⟩: ∃x en s,o=some (x,en,s)∧_:=by rw [←hg];exact loop157_0 (sl 1 nu (U.map J)) (sl 1 nw (W.map J)) hpx hrx hpy hry U.length false ((U++W).map fun (x:Nat)=>(x:Int)) (by rw [hal];omega) 0 (by omega) _ _ (by simp only [go_sem,Int.natCast_zero,lm_]<;>rfl)
 clear hg
 rw [List.drop_zero,hbad,if_neg (by simp)] at h2
 obtain ⟨rfl,e3,e6,rfl⟩:=h2
 simp only [go_sem,e3,e6,hlU,hlW]
 generalize hg:lim (headed pure (run L) true _ lp157_2 _ _) _ _=o
 obtain ⟨x,en,s,rfl,h2⟩: ∃x en s,o=some (x,en,s)∧_:=by rw [←hg];exact loop157_2 (sl 1 nw (W.map J)) hpy hry nu U hU hl 0 (by omega) _ _ (by simp only [go_sem,e3,e6,Int.natCast_zero]<;>rfl)
 clear hg
 rw [lost_iff0] at h2
 unfold readN
 by_cases hlc:lostC U=true
 ·rw [if_pos hlc] at h2⊢
  obtain ⟨rfl,e4,e5⟩:=h2
  simp only [go_sem,e4,e5]
  rfl
 rw [if_neg hlc] at h2⊢
 clear e3 e6
 obtain ⟨rfl,e3,e6,rfl⟩:=h2
 have h0:=idx_sl J nw W 0 (by omega)
 have hw0:W.getD 0 0=W[0]'(by omega):=by rw [List.getD_eq_getElem?_getD,List.getElem?_eq_getElem (by omega)];rfl
 have h0':indexSAV 1 (sl 1 nw (W.map J)) (.v (.int .i64 0))=some (.eptr (J (W[0]'(by omega))) 0):=h0
 rw [hw0]
 generalize W[0]'(by omega)=w0 at*
 by_cases hz:w0=0
 ·have z1:((w0:Int)=0)=True:=eT (by omega)
  rw [if_neg (by simpa using hz)]
  have hmk:=fun S T=>makeJ (U.length+1) (by omega) S T
  have hs1:=succ64 U.length (by omega)
  have hlost: ∀w,w≤U.length→itC U U.length w=0:=by
   intro w hw
   by_cases hw0:w=0
   ·rw [hw0,itC_zero]
   ·have hlc:lostC U=false:=by simpa using hlc
    unfold lostC at hlc
    rw [List.any_eq_false] at hlc
    have:=hlc (w-1) (List.mem_range.2 (by omega))
    simp only [decide_eq_true_eq,Classical.not_not] at this
    rw [show w-1+1=w by omega] at this
    exact this
  simp only [go_sem,e3,e6,hlU,hlW,h0',z1,hs1,hmk]
  generalize hg:lim (headed pure (run L) true _ lp157_3 _ _) _ _=o
  obtain ⟨x,en,s,rfl,h2⟩: ∃x en s,o=some (x,en,s)∧_:=by rw [←hg];exact loop157_3 (sl 1 nw (W.map J)) hpy hry nu U hU hl 0 (List.replicate (U.length+1) 0) ⟨by omega,by simp,fun k=>by simp [List.getD_eq_getElem?_getD,List.getElem?_replicate];split<;>rfl⟩ _ _ (by simp only [go_sem,e3,e6,okRefsJ,renCellsJ,Int.natCast_zero]<;>rfl)
  clear hg
  rw [List.drop_zero,show laneF U 0 U (List.replicate (U.length+1) 0)=laneL U from rfl] at h2
  clear e3 e6
  obtain ⟨rfl,e3,e6,e11,rfl⟩:=h2
  have hll:=laneL_len U
  have hlb: ∀k,(laneL U).getD k 0<100:=fun k=>by
   have:=laneF_le U U 0 (List.replicate (U.length+1) 0) 0 (fun k=>by simp [List.getD_eq_getElem?_getD,List.getElem?_replicate];split<;>rfl) k
   unfold laneL
   omega
  generalize laneL U=Q at*
  simp only [go_sem,e3,e6,e11]
  generalize hg:lim (headed pure (run L) true _ lp157_4 _ _) _ _=o
  obtain ⟨x,en,s,rfl,h2⟩: ∃x en s,o=some (x,en,s)∧_:=by rw [←hg];exact loop157_4 (sl 1 nu (U.map J)) hpx hrx nw W (by omega) (U.length+1) Q hll (by omega) hlb 0 (by omega) _ _ (by simp only [go_sem,e3,e6,okRefsJ,renCellsJ,Int.natCast_zero,show U.length+1-1=U.length from rfl]<;>rfl)
  clear hg
  rw [List.drop_zero] at h2
  by_cases hla:lackF W 0 Q=true
  ·rw [if_pos hla] at h2⊢
   obtain ⟨rfl,e4,e5⟩:=h2
   simp only [go_sem,e4,e5]
   rfl
  ·rw [if_neg hla] at h2⊢
   clear e3 e6 e11
   obtain ⟨rfl,e3,e6,rfl⟩:=h2
   rw [show U.length+1-1=U.length from rfl] at e6
   have hm8:=fun S T=>make8 U.length (by omega) S T
   simp only [go_sem,e3,e6,hlW,hm8]
   generalize hg:lim (headed pure (run L) true _ lp157_6 _ _) _ _=o
   obtain ⟨x,en,s,rfl,h2⟩: ∃x en s,o=some (x,en,s)∧_:=by rw [←hg];exact loop157_6 nu nw U W hU hW hl (by omega) hlost Q 0 (List.replicate U.length 0) ⟨by omega,by simp,fun k=>by simp [List.getD_eq_getElem?_getD,List.getElem?_replicate];split<;>simp⟩ _ _ (by simp only [go_sem,e3,e6,okRefsJ,renCellsJ,okRefs8,renCells8,Int.natCast_zero,hWl]<;>rfl)
   clear hg
   rw [List.drop_zero,show outF U 0 W (List.replicate U.length 0)=outL U W from rfl] at h2
   have hoo:=outF_ok U W 0 (List.replicate U.length 0) (by omega) (fun k=>by simp [List.getD_eq_getElem?_getD,List.getElem?_replicate];split<;>simp)
   rw [show outF U 0 W (List.replicate U.length 0)=outL U W from rfl,List.length_replicate] at hoo
   generalize outL U W=O at*
   clear e3 e6
   obtain ⟨rfl,e17,rfl⟩:=h2
   have h135:=c194 [sl 1 nu (U.map J),sl 1 nw (W.map J)] (Q.map J) O hoo.2 U.length hoo.1 hl
   have hf:=fin_rsl8 ⟨[[sl 1 nu (U.map J),sl 1 nw (W.map J)],Q.map J,O.map u8],[]⟩ 2 U.length O hoo.1 rfl
   cases hso:srtB O with
   |true=>
    rw [hso] at h135
    rw [if_pos rfl]
    simp only [go_sem,e17,h135,hf]
    rfl
   |false=>
    rw [hso] at h135
    rw [if_neg (by simp)]
    simp only [go_sem,e17,h135]
    rfl
 ·have z1:((w0:Int)=0)=False:=eF (by omega)
  rw [if_pos hz]
  simp only [go_sem,e3,e6,hlU,hlW,h0',z1]
  rfl
attribute [local go_sem] m_ x_ l_ k_ o_ t_ a_ s_ q_ b_ c_ u_ g_ okRef_o storable_o shaped_o cells_o fin_o pub_o shaped_t cells_t isAgg_t storable_t okRef_t pub_t
theorem c30N (n:Nat)(h2:2≤n)(hn:n≤8)(nu nw:Bool)(U W:List Nat)(hU: ∀u∈U,u≤U.length)(hW: ∀w∈W,w≤U.length)(hl:U.length≤13)(hWl:W.length=n)(st:St):
  run L 105 [J n,.agg [sl 1 nu (U.map J),sl 1 nw (W.map J)]] st=some (I (readN U W).1,st):=by
 rw [run_pure (fn:=ir105) rfl rfl]
 have h96:=fun st=>c96N n h2 hn nu nw U W hU hW hl hWl st
 generalize readN U W=r at*
 obtain ⟨e,O⟩:=r
 unfold readA at h96
 dsimp only at h96⊢
 simp only [ir105,go_sem,h96]
theorem walkO_zero (U:List Nat)(a f:Nat)(O:List Nat):walkO U a f 0 O=O:=by
 cases f with
 |zero=>rfl
 |succ f=>unfold walkO;rw [if_pos rfl]
theorem foldA_spec (i:Nat): ∀(l:List Int) (U W:List Nat),(∀a∈l,0≤a∧a<(W.length:Int))→l.Nodup→i<U.length→
  (∀k,k≠i→(l.foldl (stepA i) (U,W)).1.getD k 0=U.getD k 0)∧(l≠[]→∃a∈l,(l.foldl (stepA i) (U,W)).1.getD i 0=W.getD a.toNat 0)∧
  ∀a:Nat,a<W.length→(l.foldl (stepA i) (U,W)).2.getD a 0=if ((a:Nat):Int)∈l then i+1 else W.getD a 0
 | [],U,W,_,_,_=>⟨fun _ _=>rfl,fun h=>absurd rfl h,fun a _=>by simp⟩
 |b::r,U,W,hr,hnd,hi=>by
  rw [List.nodup_cons] at hnd
  have hb:=hr b (by simp)
  obtain ⟨b,rfl⟩:=Int.eq_ofNat_of_zero_le hb.1
  have hs:stepA i (U,W) (b:Int)=(U.set i (W.getD b 0),W.set b (i+1)):=by unfold stepA;rw [Int.toNat_natCast]
  obtain ⟨h1,h2,h3⟩:=foldA_spec i r (U.set i (W.getD b 0)) (W.set b (i+1)) (fun a ha=>by rw [List.length_set];exact hr a (by simp [ha])) hnd.2 (by rw [List.length_set];exact hi)
  rw [List.foldl_cons,hs]
  refine ⟨fun k hk=> ?_,fun _=> ?_,fun a ha=> ?_⟩
  ·rw [h1 k hk,set_getD,if_neg (by omega)]
  ·by_cases he:r=[]
   ·subst he
    refine ⟨(b:Int),by simp,?_⟩
    rw [List.foldl_nil,set_getD,if_pos ⟨rfl,hi⟩,Int.toNat_natCast]
   ·obtain ⟨a,ha,e⟩:=h2 he
    refine ⟨a,by simp [ha],?_⟩
    rw [e,set_getD,if_neg]
    rintro ⟨e2,_⟩
    have ha0:=(hr a (by simp [ha])).1
    have:(b:Int)=a:=by omega
    rw [this] at hnd
    exact hnd.1 ha
  ·rw [h3 a (by rw [List.length_set];exact ha),set_getD]
   by_cases hm:(a:Int)∈r
   ·rw [if_pos hm,if_pos (by simp [hm])]
   ·rw [if_neg hm]
    by_cases e:b=a
    ·subst e
     rw [if_pos ⟨rfl,ha⟩,if_pos (by simp)]
    ·rw [if_neg (by omega),if_neg]
     rw [List.mem_cons]
     rintro (h|h)
     ·exact e (by omega)
     ·exact hm h
structure GrowInv (L:List Nat) (n:Nat) (P:List Nat) (U W:List Nat):Prop where
 ul:U.length=L.length
 wl:W.length=n
 at': ∀a,a<n→(W.getD a 0=0∧∀j∈P,(L.getD j 0).testBit a=false)∨(∃j∈P,W.getD a 0=j+1∧(L.getD j 0).testBit a=true∧∀i∈P,(L.getD i 0).testBit a=true→Sub (L.getD j 0) (L.getD i 0))
 up: ∀i∈P,Abv L (L.getD i 0) (some i) (U.getD i 0)
theorem memb_nd (m:Nat):(memb m).Nodup:=(memb_asc m).imp (fun h=>by omega)
theorem grow_step {n:Nat} {L:List Nat} (hn:n≤8)(h:Lam n L) {P:List Nat} {U W:List Nat} (hI:GrowInv L n P U W) {i:Nat} (hi:i<L.length)(hiP:i ∉ P)(hP: ∀j∈P,j<L.length)
  (hpc: ∀j∈P,pc (L.getD i 0)≤pc (L.getD j 0)) (hbig: ∀j,j<L.length→pc (L.getD i 0)<pc (L.getD j 0)→j∈P):
  GrowInv L n (P++ [i]) (stepI L (U,W) i).1 (stepI L (U,W) i).2:=by
 have hmi:=getD_mem hi
 have hlt:=h.lt _ hmi
 have hl8:=h.lt8 hn hmi
 have hr:=memb_range hn hlt
 obtain ⟨s1,s2,s3⟩:=foldA_spec i (memb (L.getD i 0)) U W (by rw [hI.wl];exact hr) (memb_nd _) (by rw [hI.ul];exact hi)
 have hlen:=foldA_len i (memb (L.getD i 0)) (U,W)
 have he:stepI L (U,W) i=(memb (L.getD i 0)).foldl (stepA i) (U,W):=rfl
 rw [he]
 generalize (memb (L.getD i 0)).foldl (stepA i) (U,W)=UW at*
 obtain ⟨U2,W2⟩:=UW
 dsimp only at*
 have hsub: ∀j∈P,∀b,(L.getD i 0).testBit b=true→(L.getD j 0).testBit b=true→Sub (L.getD i 0) (L.getD j 0):=by
  intro j hj b hb1 hb2
  have l2:=h.lt8 hn (getD_mem (hP j hj))
  rcases h.cmp hn hmi (getD_mem (hP j hj)) hb1 hb2 with c|c
  ·exact c
  ·rw [pc_inj (by omega) (by omega) c (hpc j hj)];exact Sub.refl _
 have hmemb: ∀a:Nat,((a:Nat):Int)∈memb (L.getD i 0)↔(L.getD i 0).testBit a=true:=by
  intro a
  rw [memb_mem (by omega)]
  constructor
  ·rintro ⟨k,e,hk⟩
   have:a=k:=by omega
   subst this;exact hk
  ·intro hk;exact ⟨a,rfl,hk⟩
 have hnotP: ∀j,j<L.length→j≠i→Sub (L.getD i 0) (L.getD j 0)→j∈P:=by
  intro j hj hne hs
  have l2:=h.lt8 hn (getD_mem hj)
  exact hbig j hj (pc_lt (by omega) (by omega) hs (fun e=>hne (nd_getD h.nd hi hj e).symm))
 refine ⟨hlen.1.trans hI.ul,hlen.2.trans hI.wl,fun a ha=> ?_,fun k hk=> ?_⟩
 ·rw [s3 a (by rw [hI.wl];exact ha)]
  by_cases hb:(L.getD i 0).testBit a=true
  ·rw [if_pos ((hmemb a).2 hb)]
   refine .inr ⟨i,by simp,rfl,hb,fun j hj hbj=> ?_⟩
   rw [List.mem_append] at hj
   rcases hj with hj|hj
   ·exact hsub j hj a hb hbj
   ·rw [List.mem_singleton.1 hj];exact Sub.refl _
  ·rw [if_neg (fun hm=>hb ((hmemb a).1 hm))]
   rcases hI.at' a ha with ⟨h1,h2⟩ | ⟨j,hj,h1,h2,h3⟩
   ·refine .inl ⟨h1,fun j hj=> ?_⟩
    rw [List.mem_append] at hj
    rcases hj with hj|hj
    ·exact h2 j hj
    ·rw [List.mem_singleton.1 hj];simpa using hb
   ·refine .inr ⟨j,by simp [hj],h1,h2,fun k hk hbk=> ?_⟩
    rw [List.mem_append] at hk
    rcases hk with hk|hk
    ·exact h3 k hk hbk
    ·rw [List.mem_singleton.1 hk] at hbk;exact absurd hbk hb
 ·rw [List.mem_append] at hk
  rcases hk with hk|hk
  ·rw [s1 k (by rintro rfl;exact hiP hk)]
   exact hI.up k hk
  ·rw [List.mem_singleton.1 hk]
   have hne:memb (L.getD i 0)≠[]:=by
    intro e
    have:=pc_pos hl8 (h.ne _ hmi)
    unfold pc at this
    rw [e] at this;simp at this
   obtain ⟨a,ha,e⟩:=s2 hne
   have ha2:=hr a ha
   obtain ⟨a,rfl⟩:=Int.eq_ofNat_of_zero_le ha2.1
   rw [Int.toNat_natCast] at e
   have hb:=(hmemb a).1 ha
   rw [e]
   rcases hI.at' a (by omega) with ⟨h1,h2⟩ | ⟨j,hj,h1,h2,h3⟩
   ·refine .inl ⟨h1,fun j hj hne hs=> ?_⟩
    have:=h2 j (hnotP j hj (by simpa using hne) hs)
    rw [hs a hb] at this;cases this
   ·refine .inr ⟨j,h1,hP j hj,?_,hsub j hj a hb h2,fun k hk hne hs=> ?_⟩
    ·intro e2
     have:j=i:=by simpa using e2
     rw [this] at hj;exact hiP hj
    ·exact pc_mono (h3 k (hnotP k hk (by simpa using hne) hs) (hs a hb))
theorem grow_fold {n:Nat} {L:List Nat} (hn:n≤8)(h:Lam n L): ∀(R P:List Nat) (U W:List Nat),GrowInv L n P U W→(P++R).Perm (List.range L.length)→(P++R).Pairwise (fun i j=>pc (L.getD j 0)≤pc (L.getD i 0))→
  GrowInv L n (P++R) (R.foldl (stepI L) (U,W)).1 (R.foldl (stepI L) (U,W)).2
 | [],P,U,W,hI,_,_=>by rw [List.append_nil];exact hI
 |i::R,P,U,W,hI,hp,hs=>by
  have hnd:(P++i::R).Nodup:=hp.nodup_iff.2 List.nodup_range
  have hall: ∀j∈P++i::R,j<L.length:=fun j hj=>List.mem_range.1 (hp.mem_iff.1 hj)
  have hi:i<L.length:=hall i (by simp)
  have hs2:=List.pairwise_append.1 hs
  have hs3:=List.pairwise_cons.1 hs2.2.1
  have hstep:=grow_step hn h hI hi (fun hm=>by
    have:=(List.nodup_append.1 hnd).2.2 i hm i (by simp)
    exact this rfl) (fun j hj=>hall j (by simp [hj]))
   (fun j hj=>hs2.2.2 j hj i (by simp)) (fun j hj hlt=>by
    have hm:=hp.mem_iff.2 (List.mem_range.2 hj)
    rw [List.mem_append,List.mem_cons] at hm
    rcases hm with hm|rfl|hm
    ·exact hm
    ·omega
    ·have:=hs3.1 j hm;omega)
  have e:P++i::R=(P++ [i])++R:=by simp
  rw [e] at hp hs⊢
  rw [List.foldl_cons]
  have:=grow_fold hn h R (P++ [i]) (stepI L (U,W) i).1 (stepI L (U,W) i).2 hstep hp hs
  exact this
theorem grow_tree {n:Nat} {L:List Nat} (hn:n≤8)(h:Lam n L):IsTree L n (growN L n (ordG L)).1 (growN L n (ordG L)).2:=by
 obtain ⟨hp,hs⟩:=ordG_spec L
 have h0:GrowInv L n [] (List.replicate L.length 0) (List.replicate n 0):=⟨by simp,by simp,fun a ha=> .inl ⟨by simp [List.getD_eq_getElem?_getD,List.getElem?_replicate];split<;>rfl,fun j hj=>by cases hj⟩,fun i hi=>by cases hi⟩
 have hI:=grow_fold hn h (ordG L) [] _ _ h0 (by simpa using hp) (by simpa using hs)
 rw [List.nil_append] at hI
 have hin: ∀k,k<L.length→k∈ordG L:=fun k hk=>hp.mem_iff.2 (List.mem_range.2 hk)
 have hlt:=ordG_lt L
 refine ⟨hI.ul,hI.wl,fun k hk=>hI.up k (hin k hk),fun a ha=> ?_⟩
 rcases hI.at' a ha with ⟨h1,h2⟩ | ⟨j,hj,h1,h2,h3⟩
 ·refine .inl ⟨h1,fun j hj _ hs=> ?_⟩
  have:=h2 j (hin j hj)
  rw [sub_pow hs] at this;cases this
 ·exact .inr ⟨j,h1,hlt j hj,by simp,pow_sub h2,fun k hk _ hs=>pc_mono (h3 k (hin k hk) (sub_pow hs))⟩
theorem walkO_bit (U:List Nat)(a:Nat): ∀(f w:Nat) (O:List Nat),(∀t,itC U t w≤O.length)→∀k,k<O.length→∀b,
  ((walkO U a f w O).getD k 0).testBit b=((O.getD k 0).testBit b||(decide (b=a)&&decide (∃t,t<f∧itC U t w=k+1)))
 |0,w,O,_,k,hk,b=>by
  have: ¬ ∃t,t<0∧itC U t w=k+1:=fun ⟨t,h,_⟩=>by omega
  rw [decide_eq_false this,Bool.and_false,Bool.or_false];rfl
 |f+1,w,O,hle,k,hk,b=>by
  by_cases hw:w=0
  ·subst hw
   rw [walkO_zero]
   have: ¬ ∃t,t<f+1∧itC U t 0=k+1:=fun ⟨t,_,h⟩=>by rw [itC_zero] at h;omega
   rw [decide_eq_false this,Bool.and_false,Bool.or_false]
  ·have e:walkO U a (f+1) w O=walkO U a f (upC U w) (O.set (w-1) (O.getD (w-1) 0|||2^a)):=by
    show (if w=0 then O else _)=_
    rw [if_neg hw]
   have hw1:w≤O.length:=hle 0
   have ih:=walkO_bit U a f (upC U w) (O.set (w-1) (O.getD (w-1) 0|||2^a)) (fun t=>by rw [List.length_set];exact hle (t+1)) k (by rw [List.length_set];exact hk) b
   rw [e,ih,set_getD]
   have hsplit:decide (∃t,t<f+1∧itC U t w=k+1)=(decide (w=k+1)||decide (∃t,t<f∧itC U t (upC U w)=k+1)):=by
    rw [Bool.eq_iff_iff]
    simp only [Bool.or_eq_true,decide_eq_true_eq]
    constructor
    ·rintro ⟨t,h1,h2⟩
     cases t with
     |zero=>exact .inl h2
     |succ t=>exact .inr ⟨t,by omega,h2⟩
    ·rintro (h| ⟨t,h1,h2⟩)
     ·exact ⟨0,by omega,h⟩
     ·exact ⟨t+1,by omega,h2⟩
   rw [hsplit]
   by_cases hk2:w=k+1
   ·rw [if_pos ⟨by omega,hk⟩,Nat.testBit_or,Nat.testBit_two_pow,decide_eq_true hk2,Bool.true_or,Bool.and_true]
    rw [show w-1=k by omega]
    have e3:decide (a=b)=decide (b=a):=by simp only [eq_comm]
    rw [e3]
    cases (O.getD k 0).testBit b<;>cases decide (b=a)<;>simp
   ·rw [if_neg (by omega),decide_eq_false hk2,Bool.false_or]
theorem outF_bit (U:List Nat)(m:Nat)(hU: ∀u∈U,u≤m): ∀(W:List Nat) (a:Nat) (O:List Nat),a+W.length≤8→O.length=m→(∀w∈W,w≤m)→(∀k,O.getD k 0<256)→∀k,k<m→∀b,
  ((outF U a W O).getD k 0).testBit b=((O.getD k 0).testBit b||(decide (a≤b∧b<a+W.length)&&decide (∃t,t<U.length∧itC U t (W.getD (b-a) 0)=k+1)))
 | [],a,O,_,_,_,_,k,hk,b=>by
  have: ¬(a≤b∧b<a+([]:List Nat).length):=by simp
  rw [decide_eq_false this,Bool.false_and,Bool.or_false];rfl
 |w::r,a,O,hl,hO,hW,hb,k,hk,b=>by
  rw [List.length_cons] at hl
  have hwo:=walkO_ok U a (by omega) U.length w O hb
  have hbit:=walkO_bit U a U.length w O (fun t=>by rw [hO];exact itC_le hU t w (hW w (by simp))) k (by rw [hO];exact hk) b
  have ih:=outF_bit U m hU r (a+1) (walkO U a U.length w O) (by omega) (by rw [hwo.1,hO]) (fun x hx=>hW x (by simp [hx])) hwo.2 k hk b
  show ((outF U (a+1) r (walkO U a U.length w O)).getD k 0).testBit b=_
  rw [ih,hbit]
  by_cases h1:b=a
  ·subst h1
   have e1: ¬(b+1≤b∧b<b+1+r.length):=by omega
   have e2:b≤b∧b<b+(w::r).length:=⟨Nat.le_refl _,by simp⟩
   rw [decide_eq_false e1,decide_eq_true e2,Nat.sub_self,List.getD_cons_zero]
   simp
  ·rw [decide_eq_false h1,Bool.false_and,Bool.or_false]
   by_cases h2:a+1≤b∧b<a+1+r.length
   ·have e2:a≤b∧b<a+(w::r).length:=⟨by omega,by rw [List.length_cons];omega⟩
    rw [decide_eq_true h2,decide_eq_true e2,show b-a=(b-(a+1))+1 by omega]
    rfl
   ·have e2: ¬(a≤b∧b<a+(w::r).length):=by rw [List.length_cons];omega
    rw [decide_eq_false h2,decide_eq_false e2]
    simp
theorem outL_bit {U W:List Nat} (hU: ∀u∈U,u≤U.length)(hW: ∀w∈W,w≤U.length)(hWl:W.length≤8) {k:Nat} (hk:k<U.length)(b:Nat):
  ((outL U W).getD k 0).testBit b=(decide (b<W.length)&&decide (∃t,t<U.length∧itC U t (W.getD b 0)=k+1)):=by
 have h:=outF_bit U U.length hU W 0 (List.replicate U.length 0) (by omega) (by simp) hW (fun k=>by simp [List.getD_eq_getElem?_getD,List.getElem?_replicate];split<;>simp) k hk b
 have e0:((List.replicate U.length 0).getD k 0).testBit b=false:=by
  simp [List.getD_eq_getElem?_getD,List.getElem?_replicate,hk]
 unfold outL
 rw [h,e0,Bool.false_or,Nat.zero_add,Nat.sub_zero]
 simp
theorem ext_getD {A B:List Nat} (hl:A.length=B.length)(h: ∀k,k<A.length→A.getD k 0=B.getD k 0):A=B:=by
 apply List.ext_getElem hl
 intro i h1 h2
 have:=h i h1
 rw [List.getD_eq_getElem?_getD,List.getD_eq_getElem?_getD,List.getElem?_eq_getElem h1,List.getElem?_eq_getElem h2] at this
 exact this
theorem laneF_get (U:List Nat): ∀(us:List Nat) (s:Nat) (Q:List Nat) (c:Nat),c<Q.length→s+us.length<Q.length→(∀u∈us,u<Q.length)→
  (laneF U s us Q).getD c 0=Q.getD c 0+(if s<c∧c≤s+us.length then 1 else 0)+us.count c
 | [],s,Q,c,_,_,_=>by
  rw [if_neg (by simp)];rfl
 |u::r,s,Q,c,hc,hs,hu=>by
  rw [List.length_cons] at hs
  have hl:=laneS_len Q (s,u)
  have ih:=laneF_get U r (s+1) (laneS Q (s,u)) c (by rw [hl];exact hc) (by rw [hl];omega) (fun x hx=>by rw [hl];exact hu x (by simp [hx]))
  show (laneF U (s+1) r (laneS Q (s,u))).getD c 0=_
  have hul:=hu u (by simp)
  have e:(laneS Q (s,u)).getD c 0=Q.getD c 0+(if c=s+1 then 1 else 0)+(if u=c then 1 else 0):=by
   unfold laneS
   dsimp only
   have e2: ∀x,x<Q.length→(Q.set (s+1) (Q.getD (s+1) 0+1)).getD x 0=Q.getD x 0+(if x=s+1 then 1 else 0):=by
    intro x hx
    rw [set_getD]
    by_cases h:s+1=x
    ·rw [if_pos ⟨h,hx⟩,if_pos h.symm,h]
    ·rw [if_neg (fun h2=>h h2.1),if_neg (fun h2=>h h2.symm),Nat.add_zero]
   rw [set_getD,List.length_set]
   by_cases h:u=c
   ·subst h
    rw [if_pos ⟨rfl,hc⟩,e2 u hc,if_pos rfl]
   ·rw [if_neg (fun h2=>h h2.1),if_neg h,e2 c hc];omega
  rw [ih,e,List.count_cons,List.length_cons]
  have e3:(if (u==c)=true then 1 else 0)=(if u=c then 1 else 0):=by simp
  rw [e3]
  repeat' split
  all_goals omega
theorem laneL_get {U:List Nat} (hU: ∀u∈U,u≤U.length) {c:Nat} (hc:c≤U.length):(laneL U).getD c 0=min c 1+U.count c:=by
 unfold laneL
 rw [laneF_get U U 0 _ c (by simp;omega) (by simp) (fun u hu=>by have:=hU u hu;simp;omega)]
 have e0:(List.replicate (U.length+1) 0).getD c 0=0:=by simp [List.getD_eq_getElem?_getD,List.getElem?_replicate];split<;>rfl
 rw [e0]
 by_cases h:c=0
 ·subst h;simp
 ·rw [if_pos (by omega)];omega
theorem lackF_iff (W:List Nat): ∀(Q:List Nat) (c:Nat),lackF W c Q=true↔∃i,i<Q.length∧Q.getD i 0<3∧(c+i) ∉ W
 | [],c=>by simp [lackF]
 |k::r,c=>by
  have ih:=lackF_iff W r (c+1)
  simp only [lackF,Bool.or_eq_true,ih,lackB,Bool.and_eq_true,decide_eq_true_eq]
  constructor
  ·rintro (⟨h1,h2⟩ | ⟨i,h1,h2,h3⟩)
   ·exact ⟨0,by simp,h1,h2⟩
   ·exact ⟨i+1,by simpa using h1,h2,by rwa [show c+(i+1)=c+1+i by omega]⟩
  ·rintro ⟨i,h1,h2,h3⟩
   cases i with
   |zero=>exact .inl ⟨h2,h3⟩
   |succ i=>exact .inr ⟨i,by simpa using h1,h2,by rwa [show c+1+i=c+(i+1) by omega]⟩
section
variable {n:Nat} {L U A:List Nat} (hn:n≤8) (h:Lam n L) (ht:IsTree L n U A)
include hn h ht
theorem tree_U: ∀u∈U,u≤U.length:=by
 intro u hu
 obtain ⟨k,hk,rfl⟩:=List.getElem_of_mem hu
 rw [ht.ul]
 have hk2:k<L.length:=by rw [←ht.ul];exact hk
 have e:U.getD k 0=U[k]:=by rw [List.getD_eq_getElem?_getD,List.getElem?_eq_getElem hk];rfl
 rcases ht.up k hk2 with ⟨h1,_⟩ | ⟨j,h1,h2,_⟩
 ·rw [e] at h1;omega
 ·rw [e] at h1;omega
theorem tree_A: ∀w∈A,w≤U.length:=by
 intro w hw
 obtain ⟨a,ha,rfl⟩:=List.getElem_of_mem hw
 rw [ht.ul]
 have e:A.getD a 0=A[a]:=by rw [List.getD_eq_getElem?_getD,List.getElem?_eq_getElem ha];rfl
 rcases ht.at' a (by rw [←ht.al];exact ha) with ⟨h1,_⟩ | ⟨j,h1,h2,_⟩
 ·rw [e] at h1;omega
 ·rw [e] at h1;omega
theorem tree_end: ∀w,w≤U.length→itC U U.length w=0:=by
 intro w hw
 by_cases h0:w=0
 ·rw [h0,itC_zero]
 ·have:=up_end hn h ht (k:=w-1) (by rw [←ht.ul];omega)
  rw [show w-1+1=w by omega,←ht.ul] at this
  exact this
theorem tree_zero (h1:1≤n):A.getD 0 0=0:=by
 rcases at_cases hn h ht (a:=0) (by omega) with ⟨h1,_⟩ | ⟨j,_,h2,h3,_⟩
 ·exact h1
 ·rw [h.even _ (getD_mem h2)] at h3;cases h3
theorem tree_child {k a:Nat} (ha:a<n)(hk:k<L.length)(hb:(L.getD k 0).testBit a=true)(hne:A.getD a 0≠k+1): ∃i,i<L.length∧U.getD i 0=k+1∧(L.getD i 0).testBit a=true:=by
 obtain ⟨t,e⟩:=(met_iff hn h ht ha k).2 ⟨hk,hb⟩
 cases t with
 |zero=>exact absurd e hne
 |succ t=>
  rw [itC_succ] at e
  have hc0:itC U t (A.getD a 0)≠0:=fun h0=>by rw [h0] at e;simp [upC] at e
  obtain ⟨i,hi⟩: ∃i,itC U t (A.getD a 0)=i+1:=⟨itC U t (A.getD a 0)-1,by omega⟩
  rw [hi,upC_succ] at e
  obtain ⟨h1,h2⟩:=(met_iff hn h ht ha i).1 ⟨t,hi⟩
  exact ⟨i,h1,e,h2⟩
theorem count_two {U:List Nat} {c i j:Nat} (hi:i<U.length)(hj:j<U.length)(hij:i<j)(h1:U.getD i 0=c)(h2:U.getD j 0=c):2≤U.count c:=by
 have e1:U[i]=c:=by rwa [List.getD_eq_getElem?_getD,List.getElem?_eq_getElem hi] at h1
 have e2:U[j]=c:=by rwa [List.getD_eq_getElem?_getD,List.getElem?_eq_getElem hj] at h2
 have hs:U=U.take j++U.drop j:=(List.take_append_drop j U).symm
 rw [hs,List.count_append]
 have m1:c∈U.take j:=by rw [List.mem_take_iff_getElem];exact ⟨i,by omega,e1⟩
 have m2:c∈U.drop j:=by rw [List.drop_eq_getElem_cons hj,e2];simp
 have:=List.count_pos_iff.2 m1
 have:=List.count_pos_iff.2 m2
 omega
theorem tree_lack (h1:1≤n): ∀c,c≤U.length→¬(min c 1+U.count c<3∧c ∉ A):=by
 rintro c hc ⟨h2,h3⟩
 have hin: ∀a,a<n→A.getD a 0∈A:=fun a ha=>getD_mem (by rw [ht.al];exact ha)
 by_cases h0:c=0
 ·have:=hin 0 (by omega)
  rw [tree_zero hn h ht h1] at this
  rw [h0] at h3;exact h3 this
 ·obtain ⟨k,rfl⟩: ∃k,c=k+1:=⟨c-1,by omega⟩
  have hk:k<L.length:=by rw [←ht.ul];omega
  have hmk:=getD_mem hk
  have lk:=h.lt8 hn hmk
  have hlt: ∀{s a:Nat},s∈L→s.testBit a=true→a<n:=by
   intro s a hs hb
   apply Nat.lt_of_not_le;intro h9
   rw [tb_lt (h.lt s hs) a h9] at hb;cases hb
  obtain ⟨a,ha⟩:=ne_bit (h.ne _ hmk)
  have han:=hlt hmk ha
  obtain ⟨i,hi,ui,bi⟩:=tree_child hn h ht han hk ha (fun e=>h3 (e▸hin a han))
  have hmi:=getD_mem hi
  have li:=h.lt8 hn hmi
  have hik:Sub (L.getD i 0) (L.getD k 0)∧pc (L.getD i 0)<pc (L.getD k 0):=by
   rcases up_cases hn h ht hi with ⟨e,_⟩ | ⟨j,e,hj,s1,s2,_⟩
   ·rw [e] at ui;omega
   ·have:j=k:=by rw [ui] at e;omega
    subst this;exact ⟨s1,s2⟩
  obtain ⟨b,hb1,hb2⟩: ∃b,(L.getD k 0).testBit b=true∧(L.getD i 0).testBit b=false:=by
   apply Classical.byContradiction
   intro hno
   have:Sub (L.getD k 0) (L.getD i 0):=fun b hb=>by
    cases hc:(L.getD i 0).testBit b
    ·exact absurd ⟨b,hb,hc⟩ hno
    ·rfl
   have:=pc_mono this
   omega
  have hbn:=hlt hmk hb1
  obtain ⟨j,hj,uj,bj⟩:=tree_child hn h ht hbn hk hb1 (fun e=>h3 (e▸hin b hbn))
  have hij:i≠j:=by rintro rfl;rw [hb2] at bj;cases bj
  have hcnt:2≤U.count (k+1):=by
   rcases Nat.lt_or_gt_of_ne hij with h4|h4
   ·exact count_two hn h ht (by rw [ht.ul];exact hi) (by rw [ht.ul];exact hj) h4 ui uj
   ·exact count_two hn h ht (by rw [ht.ul];exact hj) (by rw [ht.ul];exact hi) h4 uj ui
  omega
theorem tree_out:outL U A=L:=by
 have hU:=tree_U hn h ht
 have hA:=tree_A hn h ht
 have hoo:=outF_ok U A 0 (List.replicate U.length 0) (by rw [ht.al];omega) (fun k=>by simp [List.getD_eq_getElem?_getD,List.getElem?_replicate];split<;>simp)
 rw [show outF U 0 A (List.replicate U.length 0)=outL U A from rfl,List.length_replicate] at hoo
 apply ext_getD (hoo.1.trans ht.ul)
 intro k hk
 rw [hoo.1] at hk
 have hk2:k<L.length:=by rw [←ht.ul];exact hk
 apply Nat.eq_of_testBit_eq
 intro b
 rw [outL_bit hU hA (by rw [ht.al];exact hn) hk b,ht.al,Bool.eq_iff_iff]
 simp only [Bool.and_eq_true,decide_eq_true_eq]
 constructor
 ·rintro ⟨hb,t,_,e⟩
  exact ((met_iff hn h ht hb k).1 ⟨t,e⟩).2
 ·intro hb
  have hbn:b<n:=by
   apply Nat.lt_of_not_le;intro h9
   rw [tb_lt (h.lt _ (getD_mem hk2)) b h9] at hb;cases hb
  obtain ⟨t,e⟩:=(met_iff hn h ht hbn k).2 ⟨hk2,hb⟩
  refine ⟨hbn,t,?_,e⟩
  apply Nat.lt_of_not_le
  intro hge
  have hend:=tree_end hn h ht (A.getD b 0) (hA _ (getD_mem (by rw [ht.al];exact hbn)))
  have:itC U t (A.getD b 0)=0:=by
   rw [show t=U.length+(t-U.length) by omega,itC_add,hend,itC_zero]
  omega
theorem tree_read (h1:1≤n)(hs:L.Pairwise LexLe):readN U A=(0,L):=by
 have hlc:lostC U=false:=by
  unfold lostC
  rw [List.any_eq_false]
  intro c hc
  have:=tree_end hn h ht (c+1) (by have:=List.mem_range.1 hc;omega)
  simp [this]
 have hla:lackF A 0 (laneL U)=false:=by
  cases hq:lackF A 0 (laneL U)
  ·rfl
  ·rw [lackF_iff] at hq
   obtain ⟨i,hi,h2,h3⟩:=hq
   rw [laneL_len] at hi
   rw [laneL_get (tree_U hn h ht) (by omega)] at h2
   rw [Nat.zero_add] at h3
   exact absurd ⟨h2,h3⟩ (tree_lack hn h ht h1 i (by omega))
 have hso:srtB L=true:=by
  unfold srtB
  rw [List.all_eq_true]
  intro j hj
  have hj:=List.mem_range.1 hj
  have:=List.pairwise_iff_getElem.1 hs j (j+1) (by omega) (by omega) (by omega)
  unfold LexLe at this
  rw [List.getD_eq_getElem?_getD,List.getD_eq_getElem?_getD,List.getElem?_eq_getElem (by omega),List.getElem?_eq_getElem (by omega)]
  simp only [Option.getD_some,this,Bool.not_false]
 unfold readN
 rw [hlc,if_neg (by simp),tree_zero hn h ht h1,if_neg (by simp),hla,if_neg (by simp),tree_out hn h ht,hso,if_pos rfl]
end
def wayF (U:List Nat):Nat→Nat→List Nat
 |0,w=> [w]
 |f+1,w=>if w=0 then [0] else w::wayF U f (upC U w)
theorem wayF_zero (U:List Nat): ∀f,wayF U f 0=[0]
 |0=>rfl
 |f+1=>by show (if 0=0 then _ else _)=_;rw [if_pos rfl]
theorem wayF_more (U:List Nat): ∀f w,itC U f w=0→wayF U (f+1) w=wayF U f w
 |0,w,h=>by
  have:w=0:=h
  subst this;rfl
 |f+1,w,h=>by
  have h:itC U f (upC U w)=0:=h
  show (if w=0 then [0] else w::wayF U (f+1) (upC U w))=(if w=0 then [0] else w::wayF U f (upC U w))
  rw [wayF_more U f _ h]
theorem wayF_step {U:List Nat} {m w:Nat} (h:itC U m w=0)(hw:w≠0):wayF U m w=w::wayF U m (upC U w):=by
 cases m with
 |zero=>exact absurd h hw
 |succ m=>
  have h2:itC U m (upC U w)=0:=h
  rw [wayF_more U m _ h2]
  show (if w=0 then [0] else w::wayF U m (upC U w))=_
  rw [if_neg hw]
theorem it_up {U:List Nat} {m w:Nat} (h:itC U m w=0):itC U m (upC U w)=0:=by
 have:=itC_succ U m w
 rw [h] at this
 show itC U (m+1) w=0
 rw [this];rfl
theorem zero_way {U:List Nat}: ∀(t m w:Nat),itC U t w=0→itC U m w=0→0∈wayF U m w
 |0,m,w,h,_=>by
  have:w=0:=h
  subst this;rw [wayF_zero];simp
 |t+1,m,w,h,hm=>by
  by_cases hw:w=0
  ·subst hw;rw [wayF_zero];simp
  ·rw [wayF_step hm hw]
   exact List.mem_cons_of_mem _ (zero_way t m _ h (it_up hm))
theorem mem_way {U:List Nat} {m:Nat} (c:Nat)(hc:c≠0): ∀(t w:Nat),itC U t w=0→itC U m w=0→(c∈wayF U m w↔∃t,itC U t w=c)
 |0,w,h,_=>by
  have:w=0:=h
  subst this;rw [wayF_zero]
  simp only [List.mem_singleton,itC_zero,exists_const]
  exact eq_comm
 |t+1,w,h,hm=>by
  by_cases hw:w=0
  ·subst hw;rw [wayF_zero]
   simp only [List.mem_singleton,itC_zero,exists_const]
   exact eq_comm
  ·rw [wayF_step hm hw,List.mem_cons,mem_way c hc t _ h (it_up hm)]
   constructor
   ·rintro (rfl| ⟨s,e⟩)
    ·exact ⟨0,rfl⟩
    ·exact ⟨s+1,e⟩
   ·rintro ⟨s,e⟩
    cases s with
    |zero=>left;exact e.symm
    |succ s=>right;exact ⟨s,e⟩
theorem loop_zero {U:List Nat} {w s:Nat} (hs:itC U (s+1) w=w): ∀(k:Nat),itC U (k*(s+1)) w=w
 |0=>by rw [Nat.zero_mul];rfl
 |k+1=>by rw [Nat.succ_mul,itC_add,loop_zero hs k,hs]
theorem not_loop {U:List Nat} {m w:Nat} (hm:itC U m w=0)(hw:w≠0):w ∉ wayF U m (upC U w):=by
 intro h
 rw [mem_way w hw m _ (it_up hm) (it_up hm)] at h
 obtain ⟨s,e⟩:=h
 have h2:=loop_zero (U:=U) (w:=w) (s:=s) e m
 have h3:m*(s+1)=m+m*s:=by rw [Nat.mul_succ,Nat.add_comm]
 rw [h3,itC_add,hm,itC_zero] at h2
 exact hw h2.symm
theorem way_split {U:List Nat} {m:Nat} (c:Nat): ∀(t w:Nat),itC U t w=0→itC U m w=0→c∈wayF U m w→∃Q,wayF U m w=Q++wayF U m c∧c ∉ Q∧itC U m c=0
 |0,w,h,_,hc=>by
  have:w=0:=h
  subst this;rw [wayF_zero,List.mem_singleton] at hc
  subst hc;exact ⟨[],rfl,by simp,itC_zero U m⟩
 |t+1,w,h,hm,hc=>by
  by_cases e:c=w
  ·subst e;exact ⟨[],rfl,by simp,hm⟩
  ·by_cases hw:w=0
   ·subst hw;rw [wayF_zero,List.mem_singleton] at hc;exact absurd hc e
   ·rw [wayF_step hm hw,List.mem_cons] at hc
    obtain ⟨Q,h1,h2,h3⟩:=way_split c t _ h (it_up hm) (hc.resolve_left e)
    refine ⟨w::Q,by rw [wayF_step hm hw,h1];rfl,?_,h3⟩
    rw [List.mem_cons,not_or];exact ⟨e,h2⟩
def farF (y:List Nat):List Nat→Nat→Nat
 | [],_=>0
 |c::r,i=>if c∈y then i+y.idxOf c else farF y r (i+1)
theorem idx_split {Q r:List Nat} {c:Nat} (h:c ∉ Q):(Q++c::r).idxOf c=Q.length:=by
 rw [List.idxOf_append,if_neg h,List.idxOf_cons_self,Nat.zero_add]
theorem wayF_head {U:List Nat} {m c:Nat} (hm:itC U m c=0): ∃r,wayF U m c=c::r:=by
 by_cases h:c=0
 ·subst h;rw [wayF_zero];exact ⟨[],rfl⟩
 ·rw [wayF_step hm h];exact ⟨_,rfl⟩
theorem far_split {U:List Nat} {m:Nat} (wb:Nat)(hb:itC U m wb=0): ∀(t w i:Nat),itC U t w=0→itC U m w=0→
  ∃P Q c,wayF U m w=P++wayF U m c∧wayF U m wb=Q++wayF U m c∧(∀p∈P,p ∉ wayF U m wb)∧c ∉ Q∧itC U m c=0∧P.Nodup∧farF (wayF U m wb) (wayF U m w) i=i+P.length+Q.length
 |t,w,i,h,hm=>by
  by_cases hin:w∈wayF U m wb
  ·obtain ⟨Q,h1,h2,h3⟩:=way_split w m wb hb hb hin
   refine ⟨[],Q,w,rfl,h1,by simp,h2,h3,List.nodup_nil,?_⟩
   obtain ⟨r,hr⟩:=wayF_head hm
   have e:(wayF U m wb).idxOf w=Q.length:=by rw [h1,hr,idx_split h2]
   rw [hr]
   show (if w∈_ then _ else _)=_
   rw [if_pos hin,e];rfl
  ·have hw:w≠0:=by rintro rfl;exact hin (zero_way m m wb hb hb)
   cases t with
   |zero=>exact absurd h hw
   |succ t=>
    obtain ⟨P,Q,c,h1,h2,h3,h4,h5,h6,h7⟩:=far_split wb hb t (upC U w) (i+1) h (it_up hm)
    have hnl:=not_loop hm hw
    refine ⟨w::P,Q,c,by rw [wayF_step hm hw,h1];rfl,h2,?_,h4,h5,?_,?_⟩
    ·intro p hp
     rw [List.mem_cons] at hp
     rcases hp with rfl|hp
     ·exact hin
     ·exact h3 p hp
    ·rw [List.nodup_cons]
     refine ⟨fun hp=>hnl ?_,h6⟩
     rw [h1];exact List.mem_append_left _ hp
    ·rw [wayF_step hm hw]
     show (if w∈_ then _ else _)=_
     rw [if_neg hin,h7,List.length_cons];omega
theorem way_nodup {U:List Nat} {m:Nat}: ∀(t w:Nat),itC U t w=0→itC U m w=0→(wayF U m w).Nodup
 |0,w,h,_=>by
  have:w=0:=h
  subst this;rw [wayF_zero];simp
 |t+1,w,h,hm=>by
  by_cases hw:w=0
  ·subst hw;rw [wayF_zero];simp
  ·rw [wayF_step hm hw,List.nodup_cons]
   exact ⟨not_loop hm hw,way_nodup t _ h (it_up hm)⟩
theorem pred_len {m:Nat} {P:List Nat} (f:Nat→Bool)(hnd:P.Nodup)(h0:0 ∉ P)(h: ∀j,(j<m∧f j=true)↔j+1∈P):P.length=((List.range m).filter f).length:=by
 have e:(P.map (· -1)).Perm ((List.range m).filter f):=by
  rw [List.perm_ext_iff_of_nodup]
  ·intro a
   rw [List.mem_filter,List.mem_range,h a,List.mem_map]
   constructor
   ·rintro ⟨x,hx,rfl⟩
    have:x≠0:=by rintro rfl;exact h0 hx
    rwa [show x-1+1=x by omega]
   ·intro hx
    exact ⟨a+1,hx,by omega⟩
  ·unfold List.Nodup at*
   rw [List.pairwise_map]
   refine List.Pairwise.imp_of_mem (fun {a b} ha hb hne he=>hne ?_) hnd
   have h1:a≠0:=by rintro rfl;exact h0 ha
   have h2:b≠0:=by rintro rfl;exact h0 hb
   omega
  ·exact List.nodup_range.sublist List.filter_sublist
 rw [←e.length_eq,lm_]
theorem countP_range (L:List Nat)(f:Nat→Bool):L.countP f=((List.range L.length).filter (fun j=>f (L.getD j 0))).length:=by
 rw [←List.countP_eq_length_filter]
 conv=>lhs;rw [show L=(List.range L.length).map (fun j=>L.getD j 0) by
  apply List.ext_getElem
  ·simp
  ·intro i h1 h2;simp [List.getD_eq_getElem?_getD,h1]]
 rw [List.countP_map];rfl
def xorN (a b s:Nat):Bool:=s.testBit a !=s.testBit b
theorem far_tree {n:Nat} {L U A:List Nat} (hn:n≤8)(h:Lam n L)(ht:IsTree L n U A) {a b:Nat} (ha:a<n)(hb:b<n):
  farF (wayF U U.length (A.getD b 0)) (wayF U U.length (A.getD a 0)) 0=L.countP (xorN a b):=by
 have ea:=at_end hn h ht ha
 have eb:=at_end hn h ht hb
 rw [←ht.ul] at ea eb
 obtain ⟨P,Q,c,h1,h2,h3,h4,h5,h6,h7⟩:=far_split _ eb U.length (A.getD a 0) 0 ea ea
 rw [h7]
 have z:=zero_way U.length U.length _ eb eb
 have nb:=way_nodup U.length _ eb eb
 have na:=way_nodup U.length _ ea ea
 have hma:=fun j=>(mem_way (j+1) (by omega) U.length _ ea ea).trans (met_iff hn h ht ha j)
 have hmb:=fun j=>(mem_way (j+1) (by omega) U.length _ eb eb).trans (met_iff hn h ht hb j)
 rw [h2] at nb
 obtain ⟨nq,_,nq2⟩:=List.nodup_append.1 nb
 have hzc:0∈wayF U U.length c:=zero_way U.length U.length _ h5 h5
 have p0:0 ∉ P:=fun hp=>h3 0 hp z
 have q0:0 ∉ Q:=fun hq=>nq2 0 hq 0 hzc rfl
 have lP:P.length=((List.range L.length).filter (fun j=>(L.getD j 0).testBit a&& !(L.getD j 0).testBit b)).length:=by
  apply pred_len _ h6 p0
  intro j
  rw [Bool.and_eq_true,Bool.not_eq_true']
  constructor
  ·rintro ⟨hj,f1,f2⟩
   have:j+1∈wayF U U.length (A.getD a 0):=(hma j).2 ⟨hj,f1⟩
   rw [h1,List.mem_append] at this
   rcases this with h|h
   ·exact h
   ·have:j+1∈wayF U U.length (A.getD b 0):=by rw [h2];exact List.mem_append_right _ h
    rw [(hmb j).1 this |>.2] at f2;cases f2
  ·intro hp
   have h8:j+1∈wayF U U.length (A.getD a 0):=by rw [h1];exact List.mem_append_left _ hp
   obtain ⟨h9,h10⟩:=(hma j).1 h8
   refine ⟨h9,h10,?_⟩
   cases hc:(L.getD j 0).testBit b
   ·rfl
   ·exact absurd ((hmb j).2 ⟨h9,hc⟩) (h3 _ hp)
 have lQ:Q.length=((List.range L.length).filter (fun j=>(L.getD j 0).testBit b&& !(L.getD j 0).testBit a)).length:=by
  apply pred_len _ nq q0
  intro j
  rw [Bool.and_eq_true,Bool.not_eq_true']
  constructor
  ·rintro ⟨hj,f1,f2⟩
   have:j+1∈wayF U U.length (A.getD b 0):=(hmb j).2 ⟨hj,f1⟩
   rw [h2,List.mem_append] at this
   rcases this with h|h
   ·exact h
   ·have:j+1∈wayF U U.length (A.getD a 0):=by rw [h1];exact List.mem_append_right _ h
    rw [(hma j).1 this |>.2] at f2;cases f2
  ·intro hq
   have h8:j+1∈wayF U U.length (A.getD b 0):=by rw [h2];exact List.mem_append_left _ hq
   obtain ⟨h9,h10⟩:=(hmb j).1 h8
   refine ⟨h9,h10,?_⟩
   cases hc:(L.getD j 0).testBit a
   ·rfl
   ·have h11:=(hma j).2 ⟨h9,hc⟩
    rw [h1,List.mem_append] at h11
    rcases h11 with h11|h11
    ·exact absurd h8 (h3 _ h11)
    ·exact absurd rfl (nq2 _ hq _ h11)
 rw [lP,lQ,countP_range]
 simp only [←List.countP_eq_length_filter,Nat.zero_add]
 generalize List.range L.length=R
 induction R with
 |nil=>rfl
 |cons j r ih=>
  simp only [List.countP_cons,xorN] at ih⊢
  rw [←ih]
  cases (L.getD j 0).testBit a<;>cases (L.getD j 0).testBit b<;>simp<;>omega
def two (s w x y z:Nat):Bool:=s.testBit w==s.testBit x&&s.testBit y==s.testBit z&&s.testBit w !=s.testBit y
theorem frzL_at {S:List (List AV)} {l:Nat} {cs:List AV} (h:S[l]? =some cs)(hne:cs≠[])(T:List Nat): ∃S',∀env,frzL l env ⟨S,T⟩=(frzEnv l cs env,⟨S',T⟩):=by
 cases cs with
 |nil=>exact absurd rfl hne
 |cons x r=>exact ⟨(frzStore l (x::r) S).set l [],fun env=>by simp only [frzL,h]⟩
attribute [local go_sem] m_ x_ l_ k_ o_ t_ a_ s_ q_ b_ c_ u_ g_ okRef_o storable_o shaped_o cells_o fin_o pub_o shaped_t cells_t isAgg_t storable_t okRef_t pub_t
theorem loop104 (nl:Bool)(ss:List Nat)(hss: ∀s∈ss,s<256)(hk:ss.length≤100)(a b:Nat)(ha:a≤8)(hb:b≤8)(i:Nat)(k:Nat)(hok:i≤ss.length∧k≤i)(env:Env)(st:St)
  (hg:gcAV true 0 0 (canon env [1,2,7,10,11,12]) st=([(1,J a),(2,J b),(7,J k),(10,sl 1 nl (ss.map E8)),(11,J ss.length),(12,J i)],⟨[],[]⟩)):
  ∃x_1 en s,lim (headed pure (run L) true [1,2,7,10,11,12] lp104_0 0 0) env st=some (x_1,en,s)∧(x_1=.exit 0∧en.get 7=J (k+(ss.drop i).countP (xorN a b))):=by
 refine loop_wp (α:=Nat×Nat) (fun ⟨i,k⟩=>ss.length-i) (fun ⟨i,k⟩=>i≤ss.length∧k≤i) (fun ⟨i,k⟩=>([(1,J a),(2,J b),(7,J k),(10,sl 1 nl (ss.map E8)),(11,J ss.length),(12,J i)],⟨[],[]⟩)) (fun ⟨i,k⟩ x_1 en s=>x_1=.exit 0∧en.get 7=J (k+(ss.drop i).countP (xorN a b))) (fun ⟨i,k⟩ hok=> ?_) ⟨i,k⟩ hok env st hg
 simp only at hok
 obtain ⟨h1,h2⟩:=hok
 dsimp only at h1 h2⊢
 by_cases h:i<ss.length
 ·have hs:=succ64 i (by omega)
  have hk1:=succ64 k (by omega)
  have hlt:((i:Int)<(ss.length:Int))=True:=eT (by omega)
  have hx:=idx_sl E8 nl ss i h
  have hd:ss.drop i=ss[i]::ss.drop (i+1):=List.drop_eq_getElem_cons h
  rw [hd,List.countP_cons]
  generalize ss[i]=s at*
  have h1a:=fun st=>c152g s a ha st
  have h1b:=fun st=>c152g s b hb st
  have hxo:xorN a b s=(s.testBit a !=s.testBit b):=rfl
  rw [hxo]
  by_cases e:s.testBit a=s.testBit b
  ·have e2:(s.testBit a !=s.testBit b)=false:=by simpa using e
   rw [e2,if_neg (by simp),Nat.add_zero]
   rw [e] at h1a
   cases hb:s.testBit b<;>rw [hb] at h1a h1b
   all_goals
    simp only [go_sem,lp104_0,hlt,hs,hx,h1a,h1b]
    refine ⟨(i+1,k),by simp only [go_sem,ren1_locm,loc_tips,locT_eq]<;>rfl,?_,?_,fun x en s hq=> ?_⟩
    ·dsimp only;omega
    ·dsimp only;omega
    ·exact hq
  ·have e2:(s.testBit a !=s.testBit b)=true:=by simpa using e
   rw [e2,if_pos rfl]
   have e3:k+((ss.drop (i+1)).countP (xorN a b)+1)=(k+1)+(ss.drop (i+1)).countP (xorN a b):=by omega
   rw [e3]
   cases ha:s.testBit a<;>cases hb:s.testBit b<;>rw [ha,hb] at e<;>rw [ha] at h1a<;>rw [hb] at h1b
   ·exact absurd rfl e
   ·simp only [go_sem,lp104_0,hlt,hs,hk1,hx,h1a,h1b]
    refine ⟨(i+1,k+1),by simp only [go_sem,ren1_locm,loc_tips,locT_eq]<;>rfl,?_,?_,fun x en s hq=> ?_⟩
    ·dsimp only;omega
    ·dsimp only;omega
    ·exact hq
   ·simp only [go_sem,lp104_0,hlt,hs,hk1,hx,h1a,h1b]
    refine ⟨(i+1,k+1),by simp only [go_sem,ren1_locm,loc_tips,locT_eq]<;>rfl,?_,?_,fun x en s hq=> ?_⟩
    ·dsimp only;omega
    ·dsimp only;omega
    ·exact hq
   ·exact absurd rfl e
 ·have e:ss.drop i=[]:=List.drop_eq_nil_of_le (by omega)
  have hlt:((i:Int)<(ss.length:Int))=False:=eF (by omega)
  rw [e]
  simp only [go_sem,lp104_0,hlt]
  rfl
theorem c104 (nl:Bool)(ss:List Nat)(hss: ∀s∈ss,s<256)(hk:ss.length≤100)(a b:Nat)(ha:a≤8)(hb:b≤8)(st:St):
  run L 104 [sl 1 nl (ss.map E8),J a,J b] st=some (J (ss.countP (xorN a b)),st):=by
 rw [run_pure (fn:=ir104) rfl rfl]
 simp only [ir104,go_sem,lm_]
 generalize hg:lim (headed pure (run L) true _ lp104_0 _ _) _ _=o
 obtain ⟨x,en,s,rfl,h2⟩: ∃x en s,o=some (x,en,s)∧_:=by rw [←hg];exact loop104 nl ss hss hk a b ha hb 0 0 (by omega) _ _ (by simp only [go_sem,Int.natCast_zero]<;>rfl)
 clear hg
 rw [List.drop_zero,Nat.zero_add] at h2
 obtain ⟨rfl,e7⟩:=h2
 simp only [go_sem,e7]
theorem c43 (n:Nat)(h2:2≤n)(hn:n≤8)(nl:Bool)(X:List Nat)(hX: ∀v∈X,v<2^n∧v≠0∧v≠2^n-1)(hnd:(X.map (smlN n)).Nodup)(hl:X.length≤13)(a b:Nat)(ha:a<n)(hb:b<n)(st:St):
  run L 43 [J n,sl 1 nl (X.map tM),J a,J b] st=some (.tup [J ((X.map (smlN n)).countP (xorN a b)),I 0],st):=by
 rw [run_pure (fn:=ir43) rfl rfl]
 have h70:=c102 n h2 hn nl X hX hnd (by omega)
 have hss: ∀x∈X.map (smlN n),x<256:=by
  intro x hx
  rw [List.mem_map] at hx
  obtain ⟨v,hv,rfl⟩:=hx
  exact Nat.lt_of_lt_of_le (smlN_lt (hX v hv).1) (Nat.pow_le_pow_right (n:=2) (by decide) hn)
 have hk:(X.map (smlN n)).length≤13:=by rw [lm_];exact hl
 have h102:=fun st=>c104 true (X.map (smlN n)) hss (by omega) a b (by omega) (by omega) st
 generalize X.map (smlN n)=ss at*
 have q1:(min (a:Int) (b:Int)<0)=False:=eF (by omega)
 have q2:((n:Int)≤max (a:Int) (b:Int))=False:=eF (by omega)
 by_cases he:ss=[]
 ·subst he
  have eA:kA []=.v (.slice none 0 0):=rfl
  have eS:kS []=[]:=rfl
  rw [eA,eS] at h70
  rw [show sl 1 true (([]:List Nat).map E8)=AV.v (.slice none 0 0) from rfl] at h102
  simp only [ir43,go_sem,h70,show pure 102=false from rfl,shStore,shV,shVs,h102,q1,q2,code_frz,frzAV,frzW,frzT,frzLs,rslsOf]
 ·rw [kA_ne he,kS_ne he] at h70
  have hsv:=shVs_8 0 ss
  obtain ⟨S',hfz⟩:=frzL_at (S:=[ss.map u8]) (l:=0) rfl (by simpa using he) []
  have hfv:=frzV_E 0 ss he
  simp only [ir43,go_sem,h70,show pure 102=false from rfl,shStore,shV,shVs,hsv,h102,q1,q2,code_frz,frzAV,frzW,frzT,frzLs,rslsOf,hfz,frzEnv,frzEnv_get,frzV_v,hfv]
def wA (l:List Nat):AV:=if l.length≤1 then .lst .full 1 (l.map J) else oA (l.map J)
def wT (l:List Nat):List Nat:=if l.length≤1 then [] else oT (l.map J)
def wAcc (l:List Nat):List (Nat×Nat):=if l.length≤1 then [] else oAcc (l.map J)
theorem ren1_w (l:List Nat):ren1 0 (wT l) [] (wA l)=(wA l,wAcc l):=by
 unfold wA wT wAcc
 split
 ·rw [ren1_lfull]
 ·exact ren1_o _
theorem wAcc_snd (l:List Nat):(wAcc l).map (fun x=>x.2)=wT l:=by
 unfold wAcc wT
 split
 ·rfl
 ·exact oAcc_snd _
theorem okRef_w (n:Nat)(l:List Nat):okRef n (wA l)=true:=by
 unfold wA;split
 ·rfl
 ·exact okRef_o _ _
theorem len_w (l:List Nat):lenAV (wA l)=some (J l.length):=by
 unfold wA;split
 ·rw [len_lst,lm_]
 ·rw [len_o,lm_]
theorem append_w (p:List Nat)(w y:Nat)(s:List (List AV))(h:p.length<900):appendAV 1 (wA (p++ [w])) [J y] ⟨s,wT (p++ [w])⟩=some (wA (p++ [w]++ [y]),⟨s,wT (p++ [w]++ [y])⟩):=by
 unfold wA wT
 have h2: ¬(p++ [w]++ [y]).length≤1:=by simp
 rw [if_neg h2,if_neg h2]
 cases p with
 |nil=>rfl
 |cons a r=>
  have h3: ¬(a::r++ [w]).length≤1:=by simp
  rw [if_neg h3,if_neg h3,append_o _ _ _ (by simp at h⊢;omega)]
  simp
theorem last_w (p:List Nat)(w:Nat):indexSAV 1 (wA (p++ [w])) (J p.length)=some (.eptr (J w) 0):=by
 have key: ∀g,indexSAV 1 (.lst g 1 ((p++ [w]).map J)) (J p.length)=some (.eptr (J w) 0):=by
  intro g
  have e:((p++ [w]).map J)[p.length]? =some (J w):=by simp
  simp only [indexSAV,natOf,e]
  simp
 unfold wA oA loc
 split
 ·exact key _
 ·rw [if_neg (by simp)];exact key _
theorem fin_w (st:St)(p:List Nat)(h:p≠[]):fin st (wA p)=sl 1 true (p.map J):=by
 unfold wA
 split
 ·rw [fin_lst,sl_ne (by simpa using h)]
 ·rw [fin_o]
def treeE (nu nw:Bool) (U W:List Nat):AV:=.eptr (.agg [sl 1 nu (U.map J),sl 1 nw (W.map J)]) 0
theorem loop106 (nu nw:Bool)(U W:List Nat)(hU: ∀u∈U,u≤U.length)(hl:U.length≤13)(f:Nat)(p:List Nat)(w:Nat)(hok:itC U f w=0∧w≤U.length∧p.length+f≤20)(env:Env)(st:St)
  (hg:gcAV true 0 0 (canon env [0,1,4]) st=([(0,J w),(1,treeE nu nw U W),(4,wA (p++ [w]))],⟨[],wT (p++ [w])⟩)):
  ∃x_1 en s,lim (headed pure (run L) true [0,1,4] lp106_0 0 0) env st=some (x_1,en,s)∧(x_1=.exit 0∧en.get 4=wA (p++wayF U f w)∧s=⟨[],wT (p++wayF U f w)⟩):=by
 refine loop_wp (α:=Nat×List Nat×Nat) (fun ⟨f,p,w⟩=>f) (fun ⟨f,p,w⟩=>itC U f w=0∧w≤U.length∧p.length+f≤20) (fun ⟨f,p,w⟩=>([(0,J w),(1,treeE nu nw U W),(4,wA (p++ [w]))],⟨[],wT (p++ [w])⟩)) (fun ⟨f,p,w⟩ x_1 en s=>x_1=.exit 0∧en.get 4=wA (p++wayF U f w)∧s=⟨[],wT (p++wayF U f w)⟩) (fun ⟨f,p,w⟩ hok=> ?_) ⟨f,p,w⟩ hok env st hg
 simp only at hok
 obtain ⟨h1,h2,h3⟩:=hok
 dsimp only at h1 h2 h3⊢
 by_cases h:w=0
 ·subst h
  rw [wayF_zero]
  simp only [go_sem,lp106_0,Int.natCast_zero]
 ·cases f with
  |zero=>exact absurd h1 h
  |succ f=>
   have h1:itC U f (upC U w)=0:=h1
   have hgt:((0:Int)<(w:Int))=True:=eT (by omega)
   have hm:IntKind.i64.wrap ((w:Int)-1)=((w-1:Nat):Int):=by
    rw [←w64 (w-1) (by omega)];congr 1;omega
   have hx:=idx_sl J nu U (w-1) (by omega)
   have hup:upC U w=U[w-1]'(by omega):=by
    unfold upC;rw [if_neg h,List.getD_eq_getElem?_getD,List.getElem?_eq_getElem (by omega)];rfl
   have hle:=hU (U[w-1]'(by omega)) (List.getElem_mem _)
   have hwf:wayF U (f+1) w=w::wayF U f (upC U w):=by
    show (if w=0 then _ else _)=_
    rw [if_neg h]
   rw [hwf,hup]
   rw [hup] at h1
   generalize U[w-1]'(by omega)=u at*
   have happ:=fun S=>append_w p w u S (by omega)
   have hll:=len_w (p++ [w]++ [u])
   have hll2:IntKind.i64.wrap (((p++ [w]++ [u]).length:Int)-1)=((p++ [w]).length:Int):=by
    rw [←w64 (p++ [w]).length (by simp;omega)];congr 1;simp;omega
   have hla:=last_w (p++ [w]) u
   have e:p++w::wayF U f u=(p++ [w])++wayF U f u:=by simp
   rw [e]
   unfold treeE
   simp only [go_sem,lp106_0,hgt,hm,hx,happ,hll,hll2,hla]
   refine ⟨(f,p++ [w],u),by simp only [go_sem,ren1_locm,loc_tips,locT_eq,ren1_w,wAcc_snd,okRef_w,treeE]<;>rfl,?_,?_,fun x en s hq=> ?_⟩
   ·dsimp only;exact ⟨h1,hle,by simp;omega⟩
   ·dsimp only;omega
   ·exact hq
theorem wayF_ne (U:List Nat)(f w:Nat):wayF U f w≠[]:=by
 cases f with
 |zero=>simp [wayF]
 |succ f=>unfold wayF;split<;>simp
theorem c106 (nu nw:Bool)(U W:List Nat)(hU: ∀u∈U,u≤U.length)(hl:U.length≤13)(w:Nat)(hw:w≤U.length)(h0:itC U U.length w=0)(st:St):
  run L 106 [J w,treeE nu nw U W] st=some (sl 1 true ((wayF U U.length w).map J),st):=by
 rw [run_pure (fn:=ir106) rfl rfl]
 have e1:wA ([]++ [w])=.lst .full 1 [J w]:=rfl
 have hf:=fun st=>fin_w st (wayF U U.length w) (wayF_ne _ _ _)
 simp only [ir106,go_sem,treeE]
 generalize hg:lim (headed pure (run L) true _ lp106_0 _ _) _ _=o
 obtain ⟨x,en,s,rfl,h2⟩: ∃x en s,o=some (x,en,s)∧_:=by rw [←hg];exact loop106 nu nw U W hU hl U.length [] w ⟨h0,hw,by simp;omega⟩ _ _ (by simp only [go_sem,Int.natCast_zero,treeE,e1]<;>rfl)
 clear hg
 rw [List.nil_append] at h2
 obtain ⟨rfl,e4,rfl⟩:=h2
 simp only [go_sem,e4,hf]
attribute [local go_sem] m_ x_ l_ k_ o_ t_ a_ s_ q_ b_ c_ u_ g_ okRef_o storable_o shaped_o cells_o fin_o pub_o shaped_t cells_t isAgg_t storable_t okRef_t pub_t
theorem indexOf_nat (y:List Nat)(c:Nat): ∀i,indexOf (c:Int) (y.map fun (n:Nat)=>(n:Int)) i=if c∈y then ((i+y.idxOf c:Nat):Int) else -1:=by
 induction y with
 |nil=>intro i;rfl
 |cons b r ih=>
  intro i
  rw [List.map_cons]
  show (if (c:Int)=(b:Int) then (i:Int) else indexOf (c:Int) _ (i+1))=_
  by_cases h:c=b
  ·subst h
   rw [if_pos rfl,if_pos (by simp),List.idxOf_cons_self];rfl
  ·rw [if_neg (by omega),ih (i+1),List.idxOf_cons]
   have hb:(b==c)=false:=by simpa using fun e=>h e.symm
   rw [hb,cond_false]
   by_cases h2:c∈r
   ·rw [if_pos h2,if_pos (by simp [h2])];omega
   ·rw [if_neg h2,if_neg (by simp [h,h2])]
theorem idx_le (y:List Nat)(c:Nat)(h:c∈y):y.idxOf c<y.length:=List.idxOf_lt_length_iff.2 h
theorem mapJ (y:List Nat):(y.map fun (n:Nat)=>(n:Int)).map I=y.map J:=by rw [List.map_map];rfl
theorem loop44 (n1 n2:Bool)(xs ys:List Nat)(hx:xs.length≤100)(hy:ys.length≤100)(i:Nat)(hok:i≤xs.length∧∃c∈xs.drop i,c∈ys)(env:Env)(st:St)
  (hg:gcAV true 1 0 (canon env [13,51,52,53]) st=([(13,sl 1 n2 (ys.map J)),(51,sl 1 n1 (xs.map J)),(52,J xs.length),(53,J i)],⟨[[]],[]⟩)):
  ∃x_1 en s,lim (headed pure (run L) true [13,51,52,53] lp44_0 1 0) env st=some (x_1,en,s)∧(x_1=.ret∧en.get 8=J (farF ys (xs.drop i) i)∧en.get 9=I 0):=by
 refine loop_wp (α:=Nat) (fun i=>xs.length-i) (fun i=>i≤xs.length∧∃c∈xs.drop i,c∈ys) (fun i=>([(13,sl 1 n2 (ys.map J)),(51,sl 1 n1 (xs.map J)),(52,J xs.length),(53,J i)],⟨[[]],[]⟩)) (fun i x_1 en s=>x_1=.ret∧en.get 8=J (farF ys (xs.drop i) i)∧en.get 9=I 0) (fun i hok=> ?_) i hok env st hg
 obtain ⟨h1,h2⟩:=hok
 by_cases h:i<xs.length
 ·have hs:=succ64 i (by omega)
  have hlt:((i:Int)<(xs.length:Int))=True:=eT (by omega)
  have hx:=idx_sl J n1 xs i h
  have hd:xs.drop i=xs[i]::xs.drop (i+1):=List.drop_eq_getElem_cons h
  rw [hd] at h2⊢
  generalize xs[i]=c at*
  have hff:farF ys (c::xs.drop (i+1)) i=if c∈ys then i+ys.idxOf c else farF ys (xs.drop (i+1)) (i+1):=rfl
  have h59:=fun st=>c69 n2 (ys.map fun (n:Nat)=>(n:Int)) (by rw [lm_];omega) c st
  rw [mapJ,indexOf_nat] at h59
  rw [hff]
  by_cases hc:c∈ys
  ·have hlt2:=idx_le ys c hc
   rw [if_pos hc] at h59⊢
   rw [Nat.zero_add] at h59
   generalize ys.idxOf c=k at*
   have hw:IntKind.i64.wrap ((i:Int)+(k:Int))=((i+k:Nat):Int):=by
    rw [←w64 (i+k) (by omega)];congr 1
   have q:((0:Int)≤(k:Int))=True:=eT (by omega)
   simp only [go_sem,lp44_0,hlt,hs,hx,h59,hw,q]
  ·rw [if_neg hc] at h59⊢
   have q:((0:Int)≤(-1:Int))=False:=eF (by omega)
   obtain ⟨d,hd1,hd2⟩:=h2
   rw [List.mem_cons] at hd1
   have hd1:d∈xs.drop (i+1):=by
    rcases hd1 with rfl|hd1
    ·exact absurd hd2 hc
    ·exact hd1
   simp only [go_sem,lp44_0,hlt,hs,hx,h59,q]
   refine ⟨i+1,by simp only [go_sem,ren1_locm,loc_tips,locT_eq]<;>rfl,?_,?_,fun x en s hq=> ?_⟩
   ·exact ⟨by omega,d,hd1,hd2⟩
   ·omega
   ·exact hq
 ·obtain ⟨c,hc,_⟩:=h2
  rw [List.drop_eq_nil_of_le (by omega)] at hc
  cases hc
theorem way_len (U:List Nat): ∀f w,(wayF U f w).length≤f+1
 |0,w=>by simp [wayF]
 |f+1,w=>by
  unfold wayF
  split
  ·simp
  ·have:=way_len U f (upC U w)
   rw [List.length_cons];omega
theorem c44 (n:Nat)(h2:2≤n)(hn:n≤8)(nu nw:Bool)(U W:List Nat)(hU: ∀u∈U,u≤U.length)(hW: ∀w∈W,w≤U.length)(hl:U.length≤13)(hWl:W.length=n)(hend: ∀w,w≤U.length→itC U U.length w=0)(hr:(readN U W).1=0)(a b:Nat)(ha:a<n)(hb:b<n)(st:St):
  run L 44 [J n,.agg [sl 1 nu (U.map J),sl 1 nw (W.map J)],J a,J b] st=some (.tup [J (farF (wayF U U.length (W.getD b 0)) (wayF U U.length (W.getD a 0)) 0),I 0],st):=by
 rw [run_pure (fn:=ir44) rfl rfl]
 have h30:=fun st=>c30N n h2 hn nu nw U W hU hW hl hWl st
 rw [hr] at h30
 have q1:(min (a:Int) (b:Int)<0)=False:=eF (by omega)
 have q2:((n:Int)≤max (a:Int) (b:Int))=False:=eF (by omega)
 have ea:W.getD a 0=W[a]'(by omega):=by rw [List.getD_eq_getElem?_getD,List.getElem?_eq_getElem (by omega)];rfl
 have eb:W.getD b 0=W[b]'(by omega):=by rw [List.getD_eq_getElem?_getD,List.getElem?_eq_getElem (by omega)];rfl
 have hxa:=idx_sl J nw W a (by omega)
 have hxb:=idx_sl J nw W b (by omega)
 have hwa:=hW (W[a]'(by omega)) (List.getElem_mem _)
 have hwb:=hW (W[b]'(by omega)) (List.getElem_mem _)
 rw [ea,eb]
 generalize W[a]'(by omega)=wa at*
 generalize W[b]'(by omega)=wb at*
 have ia:=hend wa hwa
 have ib:=hend wb hwb
 have h104a:=fun st=>c106 nu nw U W hU hl wa hwa ia st
 have h104b:=fun st=>c106 nu nw U W hU hl wb hwb ib st
 unfold treeE at h104a h104b
 have za:=zero_way U.length U.length wa ia ia
 have zb:=zero_way U.length U.length wb ib ib
 have la:=way_len U U.length wa
 have lb:=way_len U U.length wb
 have hll:=lenm_sl J true (wayF U U.length wa)
 generalize wayF U U.length wa=xs at*
 generalize wayF U U.length wb=ys at*
 simp only [ir44,go_sem,h30,q1,q2,code_frzp,frzPs,frzP1,hxa,hxb,h104a,h104b,hll]
 generalize hg:lim (headed pure (run L) true _ lp44_0 _ _) _ _=o
 obtain ⟨x,en,s,rfl,h2⟩: ∃x en s,o=some (x,en,s)∧_:=by rw [←hg];exact loop44 true true xs ys (by omega) (by omega) 0 ⟨by omega,0,by simpa using za,zb⟩ _ _ (by simp only [go_sem,Int.natCast_zero]<;>rfl)
 clear hg
 rw [List.drop_zero] at h2
 obtain ⟨rfl,e8,e9⟩:=h2
 simp only [go_sem,e8,e9]
theorem clP_none: ∀(ss:List Nat) (i:Nat),clP ss i=none↔ss.Pairwise (fun a b=>agN a b=true)
 | [],i=>by simp [clP]
 |a::r,i=>by
  have ih:=clP_none r (i+1)
  rw [List.pairwise_cons,←ih]
  have e:clP (a::r) i=match r.findIdx? (fun b=> !agN a b) with|some j=>some (i,i+1+j)|none=>clP r (i+1):=rfl
  rw [e]
  cases h:r.findIdx? (fun b=> !agN a b) with
  |none=>
   have:=List.findIdx?_eq_none_iff.1 h
   simp only
   constructor
   ·intro h2;exact ⟨fun b hb=>by simpa using this b hb,h2⟩
   ·intro h2;exact h2.2
  |some j=>
   simp only
   constructor
   ·intro h2;cases h2
   ·intro h2
    rw [List.findIdx?_eq_some_iff_getElem] at h
    obtain ⟨h3,h4,_⟩:=h
    have:=h2.1 r[j] (List.getElem_mem h3)
    simp [this] at h4
attribute [local go_sem] m_ x_ l_ k_ o_ t_ a_ s_ q_ b_ c_ u_ g_ okRef_o storable_o shaped_o cells_o fin_o pub_o shaped_t cells_t isAgg_t storable_t okRef_t pub_t
end Go.Proofs.YtdnjagnechibhaaGreatDoor.Vm
namespace Go.Proofs.YtdnjagnechibhaaGreatDoor.Vm
open Go Go.Ev
set_option maxRecDepth 100001
def mkR (x:Nat):List Nat→Nat
 | []=>0
 |y::r=>2*mkR x r+(if y=x then 1 else 0)
theorem mkR_bit (x:Nat): ∀(p:List Nat) (i:Nat),(mkR x p).testBit i=decide (p[i]? =some x)
 | [],i=>by simp [mkR]
 |y::r,0=>by
  rw [Nat.testBit_zero]
  simp only [mkR,List.getElem?_cons_zero,Option.some.injEq]
  split
  ·next h=>simp [h]
  ·next h=>simp [h]
 |y::r,i+1=>by
  rw [Nat.testBit_succ,List.getElem?_cons_succ,←mkR_bit x r i]
  congr 1
  simp only [mkR]
  split<;>omega
theorem mkR_lt (x:Nat): ∀p:List Nat,mkR x p<2^p.length
 | []=>by simp [mkR]
 |y::r=>by
  have:=mkR_lt x r
  simp only [mkR,List.length_cons,Nat.pow_succ]
  split<;>omega
def rgs:List Nat→Nat→Prop
 | [],_=>True
 |x::r,g=>x≤g∧rgs r (if x=g then g+1 else g)
def cntG:List Nat→Nat→Nat
 | [],g=>g
 |x::r,g=>cntG r (if x=g then g+1 else g)
theorem cntG_le: ∀(r:List Nat) (g:Nat),g≤cntG r g
 | [],g=>Nat.le_refl _
 |x::r,g=>by
  simp only [cntG]
  have:=cntG_le r (if x=g then g+1 else g)
  split at this<;>split<;>omega
theorem rgs_lt: ∀(r:List Nat) (g:Nat),rgs r g→∀y∈r,y<cntG r g
 | [],g,_,y,hy=>by simp at hy
 |x::r,g,h,y,hy=>by
  simp only [rgs] at h
  simp only [cntG]
  rcases List.mem_cons.1 hy with rfl|hy
  ·have:=cntG_le r (if y=g then g+1 else g)
   by_cases q:y=g
   ·rw [if_pos q] at this⊢;omega
   ·rw [if_neg q] at this⊢;omega
  ·exact rgs_lt r _ h.2 y hy
theorem rgs_all: ∀(r:List Nat) (g x:Nat),g≤x→x<cntG r g→x∈r
 | [],g,x,h1,h2=>by simp only [cntG] at h2;omega
 |y::r,g,x,h1,h2=>by
  simp only [cntG] at h2
  by_cases q:y=g
  ·rw [if_pos q] at h2
   by_cases e:x=g
   ·rw [e,←q];exact List.mem_cons_self
   ·exact List.mem_cons_of_mem _ (rgs_all r (g+1) x (by omega) h2)
  ·rw [if_neg q] at h2
   exact List.mem_cons_of_mem _ (rgs_all r g x h1 h2)
theorem cntG_len: ∀(r:List Nat) (g:Nat),cntG r g≤g+r.length
 | [],g=>Nat.le_refl _
 |x::r,g=>by
  simp only [cntG,List.length_cons]
  have:=cntG_len r (if x=g then g+1 else g)
  split at this<;>split<;>omega
section
variable {n k:Nat} {p:List Nat} (hn:3≤n∧n≤8) (hl:p.length=n) (hr:rgs p 0) (hk:cntG p 0=k) (h3:3≤k)
include hn hl hr hk h3
theorem gp_zero:p[0]? =some 0:=by
 cases p with
 |nil=>simp at hl;omega
 |cons y r=>
  have:y≤0:=hr.1
  simp;omega
theorem gp_lt {i x:Nat} (h:p[i]? =some x):x<k∧i<n:=by
 obtain ⟨hi,e⟩:=List.getElem?_eq_some_iff.1 h
 rw [←e,←hk,←hl]
 exact ⟨rgs_lt p 0 hr _ (List.getElem_mem hi),hi⟩
theorem gp_ex {x:Nat} (h:x<k): ∃i,i<n∧p[i]? =some x:=by
 have:=rgs_all p 0 x (Nat.zero_le _) (by omega)
 obtain ⟨i,hi,e⟩:=List.getElem_of_mem this
 exact ⟨i,by omega,by rw [List.getElem?_eq_getElem hi,e]⟩
theorem gp_bit (x i:Nat):(smlN n (mkR x p)).testBit i=if x=0 then decide (i<n∧p[i]? ≠some 0) else decide (p[i]? =some x):=by
 have h0:=gp_zero hn hl hr hk h3
 unfold smlN
 by_cases q:x=0
 ·subst q
  rw [mkR_bit,h0,decide_eq_true rfl,if_pos rfl,if_pos rfl,Nat.testBit_xor,mkR_bit,Nat.testBit_two_pow_sub_one]
  by_cases hi:i<n
  ·by_cases e:p[i]? =some 0
   ·simp [hi,e]
   ·simp [hi,e]
  ·have:p[i]? =none:=List.getElem?_eq_none (by omega)
   simp [hi,this]
 ·rw [if_neg q,mkR_bit,h0,if_neg (by simp;omega),mkR_bit]
theorem gp_good {x:Nat} (hx:x<k):mkR x p<2^n∧mkR x p≠0∧mkR x p≠2^n-1:=by
 refine ⟨by rw [←hl];exact mkR_lt x p,fun e=> ?_,fun e=> ?_⟩
 ·obtain ⟨i,hi,h⟩:=gp_ex hn hl hr hk h3 hx
  have:=mkR_bit x p i
  rw [e,h] at this
  simp at this
 ·obtain ⟨y,hy,hyx⟩: ∃y,y<k∧y≠x:=by
   by_cases q:x=0
   ·exact ⟨1,by omega,by omega⟩
   ·exact ⟨0,by omega,by omega⟩
  obtain ⟨i,hi,h⟩:=gp_ex hn hl hr hk h3 hy
  have:=mkR_bit x p i
  rw [e,h,Nat.testBit_two_pow_sub_one] at this
  simp [hi] at this
  exact hyx this
theorem gp_lt2 {x:Nat}:smlN n (mkR x p)<2^n:=by
 apply Nat.lt_pow_two_of_testBit
 intro i hi
 rw [gp_bit hn hl hr hk h3]
 have:p[i]? =none:=List.getElem?_eq_none (by omega)
 split<;>simp [this]
 omega
theorem gp_ne {x y:Nat} (hx:x<k)(hy:y<k)(h:x<y):smlN n (mkR x p)≠smlN n (mkR y p):=by
 intro e
 by_cases q:x=0
 ·obtain ⟨z,hz,h1,h2⟩: ∃z,z<k∧z≠0∧z≠y:=by
   by_cases q:y=1
   ·exact ⟨2,by omega,by omega,by omega⟩
   ·exact ⟨1,by omega,by omega,by omega⟩
  obtain ⟨i,hi,g⟩:=gp_ex hn hl hr hk h3 hz
  have a:=gp_bit hn hl hr hk h3 x i
  rw [e,gp_bit hn hl hr hk h3 y i,if_neg (by omega),if_pos q,g] at a
  simp [hi,h1,h2] at a
 ·obtain ⟨i,hi,g⟩:=gp_ex hn hl hr hk h3 hx
  have a:=gp_bit hn hl hr hk h3 x i
  rw [e,gp_bit hn hl hr hk h3 y i,if_neg (by omega),if_neg q,g] at a
  simp at a
  omega
def gpX (p:List Nat) (k:Nat):List Nat:=(List.range k).map fun x=>mkR x p
theorem gp_lam:Lam n ((gpX p k).map (smlN n)):=by
 have h256:2^n≤256:=Nat.pow_le_pow_right (n:=2) (by decide) hn.2
 have hm: ∀s∈(gpX p k).map (smlN n),∃x,x<k∧s=smlN n (mkR x p):=fun s hs=>by
  simp only [gpX,List.map_map,List.mem_map,List.mem_range,Function.comp_apply] at hs
  obtain ⟨x,hx,rfl⟩:=hs
  exact ⟨x,hx,rfl⟩
 have h0:=gp_zero hn hl hr hk h3
 refine ⟨fun s hs=> ?_,fun s hs=> ?_,fun s hs=> ?_,?_,fun s hs t ht=> ?_⟩
 ·obtain ⟨x,hx,rfl⟩:=hm s hs
  exact gp_lt2 hn hl hr hk h3
 ·obtain ⟨x,hx,rfl⟩:=hm s hs
  intro e
  by_cases q:x=0
  ·obtain ⟨i,hi,g⟩:=gp_ex hn hl hr hk h3 (show 1<k by omega)
   have a:=gp_bit hn hl hr hk h3 x i
   rw [e,if_pos q,g] at a
   simp [hi] at a
  ·obtain ⟨i,hi,g⟩:=gp_ex hn hl hr hk h3 hx
   have a:=gp_bit hn hl hr hk h3 x i
   rw [e,if_neg q,g] at a
   simp at a
 ·obtain ⟨x,hx,rfl⟩:=hm s hs
  rw [gp_bit hn hl hr hk h3,h0]
  split
  ·simp
  ·simp;omega
 ·unfold gpX
  rw [List.map_map,List.Nodup,List.pairwise_map]
  refine List.Pairwise.imp_of_mem (fun {a b} ha hb hab=> ?_) (List.pairwise_lt_range (n:=k))
  exact gp_ne hn hl hr hk h3 (List.mem_range.1 ha) (List.mem_range.1 hb) hab
 ·obtain ⟨x,hx,rfl⟩:=hm s hs
  obtain ⟨y,hy,rfl⟩:=hm t ht
  have l1:=Nat.lt_of_lt_of_le (gp_lt2 hn hl hr hk h3 (x:=x)) h256
  have l2:=Nat.lt_of_lt_of_le (gp_lt2 hn hl hr hk h3 (x:=y)) h256
  by_cases q:x=y
  ·rw [q];exact agN_self l2
  ·rw [ag_iff l1 l2]
   have sub: ∀{a b:Nat},a=0→b≠0→Sub (smlN n (mkR b p)) (smlN n (mkR a p)):=fun {a b} ha hb i h=>by
    rw [gp_bit hn hl hr hk h3,if_neg hb,decide_eq_true_eq] at h
    rw [gp_bit hn hl hr hk h3,if_pos ha,decide_eq_true_eq]
    exact ⟨(gp_lt hn hl hr hk h3 h).2,by rw [h];simp;omega⟩
   by_cases qx:x=0
   ·exact .inr (.inr (sub qx (by omega)))
   ·by_cases qy:y=0
    ·exact .inr (.inl (sub qy qx))
    ·left
     intro i h
     rw [gp_bit hn hl hr hk h3,if_neg qx,decide_eq_true_eq] at h
     rw [gp_bit hn hl hr hk h3,if_neg qy,decide_eq_false_iff_not,h]
     simp;omega
end
end Go.Proofs.YtdnjagnechibhaaGreatDoor.Vm
namespace Go.Proofs.YtdnjagnechibhaaGreatDoor.Vm
open Go Go.Ev
set_option maxRecDepth 100001
theorem cnt2 {c d:Nat} (h:c≠d): ∀k,(List.range k).countP (fun x=>decide (x=c∨x=d))=(if c<k then 1 else 0)+(if d<k then 1 else 0)
 |0=>by simp
 |k+1=>by
  rw [List.range_succ,List.countP_append,cnt2 h k,List.countP_singleton]
  simp only [decide_eq_true_eq]
  (repeat' split)<;>omega
def grpL (p:List Nat) (x i:Nat):List Nat:=(List.range i).filter fun j=>decide (p[j]? =some x)
theorem grpL_succ (p:List Nat)(x i:Nat):grpL p x (i+1)=if p[i]? =some x then grpL p x i++ [i] else grpL p x i:=by
 unfold grpL
 rw [List.range_succ,List.filter_append]
 by_cases h:p[i]? =some x
 ·simp [h]
 ·simp [h]
theorem range_9 (n:Nat)(hn:n≤9):List.range 9=List.range n++List.range' n (9-n):=by
 rw [List.range_eq_range',List.range_eq_range']
 have:=(List.range'_append (s:=0) (m:=n) (n:=9-n) (step:=1))
 rw [show n+(9-n)=9 by omega] at this
 simpa using this.symm
theorem memb_mk (x:Nat)(p:List Nat)(n:Nat)(hl:p.length=n)(hn:n≤8):memb (mkR x p)=(grpL p x n).map fun (i:Nat)=>(i:Int):=by
 unfold memb grpL
 congr 1
 rw [range_9 n (by omega),List.filter_append]
 have e:(List.range' n (9-n)).filter (mkR x p).testBit=[]:=by
  rw [List.filter_eq_nil_iff]
  intro i hi
  rw [List.mem_range'_1] at hi
  rw [mkR_bit,List.getElem?_eq_none (by omega)]
  simp
 rw [e,List.append_nil]
 apply List.filter_congr
 intro i _
 exact mkR_bit x p i
section
variable {n k:Nat} {p:List Nat} (hn:3≤n∧n≤8) (hl:p.length=n) (hr:rgs p 0) (hk:cntG p 0=k) (h3:3≤k)
include hn hl hr hk h3
theorem gp_parted {a b:Nat} (ha:a<n)(hb:b<n):((gpX p k).map (smlN n)).countP (xorN a b)=if p.getD a 0=p.getD b 0 then 0 else 2:=by
 have ea:p[a]? =some (p.getD a 0):=by simp [List.getD_eq_getElem?_getD,show a<p.length by omega]
 have eb:p[b]? =some (p.getD b 0):=by simp [List.getD_eq_getElem?_getD,show b<p.length by omega]
 have lu:=(gp_lt hn hl hr hk h3 ea).1
 have lv:=(gp_lt hn hl hr hk h3 eb).1
 generalize p.getD a 0=u at*
 generalize p.getD b 0=v at*
 unfold gpX
 rw [List.map_map,List.countP_map]
 have hb: ∀x,((xorN a b)∘(smlN n)∘fun x=>mkR x p) x=((if x=0 then decide (u≠0) else decide (u=x)) !=(if x=0 then decide (v≠0) else decide (v=x))):=fun x=>by
  simp only [Function.comp_apply,xorN,gp_bit hn hl hr hk h3,ea,eb,ha,hb,true_and,Option.some.injEq,ne_eq]
 by_cases q:u=v
 ·rw [if_pos q,List.countP_eq_zero]
  intro x _
  rw [hb,q];simp
 ·rw [if_neg q]
  have e:(List.range k).countP ((xorN a b)∘(smlN n)∘fun x=>mkR x p)=(List.range k).countP (fun x=>decide (x=u∨x=v)):=by
   apply List.countP_congr
   intro x _
   rw [hb]
   by_cases z:x=0
   ·subst z
    by_cases z1:u=0
    ·by_cases z2:v=0
     ·omega
     ·simp [z1,z2]
    ·by_cases z2:v=0
     ·simp [z1,z2]
     ·simp [z1,z2];omega
   ·by_cases z1:u=x
    ·by_cases z2:v=x
     ·omega
     ·simp [z,z1,z2]
    ·by_cases z2:v=x
     ·simp [z,z1,z2]
     ·simp [z,z1,z2];omega
  rw [e,cnt2 q k,if_pos lu,if_pos lv]
end
end Go.Proofs.YtdnjagnechibhaaGreatDoor.Vm
namespace Go.Proofs.YtdnjagnechibhaaGreatDoor.Vm
open Go Go.Ev
set_option maxRecDepth 100000
set_option maxHeartbeats 4000000
attribute [local go_sem] m_ x_ l_ k_ o_ t_ a_ s_ q_ b_ c_ u_ g_ cells_any storable_any ren1_any shaped_ptr cells_ptr storable_ptr ren1_ptr shaped_eptr cells_eptr storable_eptr ren1_eptr shaped_rsl cells_rsl storable_rsl ren1_rsl shaped_int cells_int storable_int ren1_int shaped_bool cells_bool storable_bool ren1_bool shaped_nils cells_nils storable_nils ren1_nils shaped_lst cells_lst storable_lst shaped_fn cells_fn storable_fn ren1_fn shaped_ifc cells_ifc storable_ifc ren1_ifc shaped_agg cells_agg storable_agg ren1_agg shaped_tup cells_tup storable_tup ren1_tup shaped_nif cells_nif storable_nif ren1_nif ren1_lany ren1_lfull ren1_lown len_lst len_rsl len_nil load_ptr load_eptr isRsl_lst isRsl_nil isRsl_rsl elems_nil elems_lst elems_sl isRsl_sl body_eq bodyK_normal bodyK_ret resK_some leaveK_some only_some code_skip code_exit code_ret code_ops code_seq code_cond code_block seqK_normal seqK_ret seqK_exit condK_true condK_false blockK_normal blockK_ret blockK_exit opsK_some ops_nil ops_cons wantK_true wantK_false stepK_some pubs pub pub_sl params okRef_loc storable_loc shaped_loc cells_loc isRsl_loc elems_loc len_loc untips untip untip_sl wantedAV setElems withO isAgg_v isAgg_agg isAgg_lst isAgg_ptr isAgg_fn isAgg_ifc isAgg_rsl isAgg_sl isAgg_loc List.replicate_succ List.replicate_zero opAV valAV aval avals ofVal Env.get setD canon gcAV renAll renEnv renStore renCells ren1_sl cutSt okEnv okStore okRefs okRef okRef_sl bin_int bin_bool bin_lst bin_rsl bin_nil bin_agg cellsEq cellEq isShift intOp boolOp min_int max_int beq_int bne resAV tupAV leave_eq fin_sl fin_loc fins fin_v fin_lst fin_agg fin_tup fin_fn storeAV readCells putCells cells_sl shaped_sl storable_sl fieldAddrAV len_sl goI List.getElem?_cons_zero List.getElem?_cons_succ List.getElem?_nil Option.bind_some Option.map_some List.length_cons List.length_nil List.all_cons List.all_nil Bool.and_true Bool.true_and Bool.and_false Bool.false_and and_true true_and and_false false_and Bool.false_eq_true List.set_cons_zero List.set_cons_succ List.append_nil List.nil_append List.cons_append List.take_zero List.take_succ_cons List.take_nil List.drop_zero List.drop_succ_cons List.map_cons List.map_nil decide_true decide_false beq_self_eq_true Bool.not_true Bool.not_false or_true true_or or_false false_or Nat.zero_add Nat.add_zero Nat.le_refl Nat.lt_irrefl decide_eq_true_eq eq_self_iff_true not_true_eq_false not_false_eq_true List.getD_cons_zero code_loop Nat.zero_le Nat.not_lt_zero Bool.true_beq Bool.false_beq beq_true beq_false ge_iff_le gt_iff_lt keepR keepT ownTop Lpure pus Option.map_none assert_ifc assert_nil idxA_ptr idxA_eptr idxV_agg Int.cast_ofNat_Int Nat.mul_one Nat.zero_mul Int.toNat_natCast Int.toNat_zero setParts withO2 hasKey eqnil_sl nenil_sl eqnil_loc nenil_loc map_nil_iff elemsM_nil elemsM_lst elemsM_sl elemsM_loc elemsM_rsl elemsM_agg setElemsR pubR_v pubR_rsl pubE_v pubE_rsl okRefs_ints renCells_ints index_rsl_if setm make_ints condK_dec wantK_dec not_dec and_dec or_dec seqK_ite seqK_none blockK_ite blockK_none opsK_ite opsK_none stepK_ite stepK_none bodyK_ite bodyK_none resK_ite resK_none leaveK_ite leaveK_none only_ite only_none bind_ite gives_some gives_none gives_ite then_normal then_ret then_exit then_none then_ite Option.bind_none Bool.not_eq_true' decide_eq_false_iff_not Bool.and_eq_true Bool.or_eq_true Option.some.injEq Int.not_lt Int.not_le
attribute [local go_sem_proc] reduceIte Nat.reduceEqDiff Nat.reduceAdd Nat.reduceSub Nat.reduceLeDiff Nat.reduceLT reduceCtorEq Int.reduceLT Int.reduceLE Int.reduceEq Int.reduceBEq Int.reduceSub Int.reduceAdd Int.reduceMul Int.reduceNeg Int.reduceToNat Nat.reduceMul Nat.reduceBEq
theorem c117 (x size:Int)(h:1≤x∧x≤size)(R:List (List AV))(T:List Nat):run L 117 [I x,.ptr 0 0] ⟨[I size]::R,T⟩=some (B false,⟨[I size]::R,T⟩):=by
 rw [run_shared (fn:=ir117) rfl rfl]
 have p:(x<1)=False:=eF (by omega)
 have q:(size<x)=False:=eF (by omega)
 simp only [ir117,go_sem,p,q]
theorem c56 (size:Int)(hs:1≤size∧size≤24)(nl:Bool)(l:List Int)(hl:l.length≤8)(hx: ∀x∈l,1≤x∧x≤size)(st:St):run L 56 [I size,sl 1 nl (l.map I)] st=some (I 0,st):=by
 rw [run_pure (fn:=ir56) rfl rfl]
 have p:(size<1)=False:=eF (by omega)
 have q:(24<size)=False:=eF (by omega)
 have r:((8:Int)<(l.length:Int))=False:=eF (by omega)
 have h112:=c112 ⟨[[I size]],[]⟩ 117 rfl [.ptr 0 0] (sl 1 nl (l.map I)) l (by omega) (lenm_sl I nl l) (fun i h=>idx_sl I nl l i h) (fun _=>false) (fun x h=>c117 x size (hx x h) [] [])
 rw [show (l.any fun _=>false)=false by simp] at h112
 simp only [ir56,go_sem,p,q,r,h112,lm_]
def cF (ps:List Int) (x y:Fin ps.length):Int:=ps.getD y.val 0-ps.getD x.val 0
def ltF (ps:List Int) (x y:Fin ps.length):Bool:=decide (cF ps x y<0)
theorem ltF_iff (ps:List Int)(x y:Fin ps.length):ltF ps x y=true↔ps.getD y.val 0<ps.getD x.val 0:=by
 unfold ltF cF;rw [decide_eq_true_iff];omega
theorem swoF (ps:List Int):Go.Sort.SWO (ltF ps) where
 irrefl x:=by cases h:ltF ps x x;rfl;rw [ltF_iff] at h;omega
 trans x y z h1 h2:=by rw [ltF_iff] at h1 h2⊢;omega
 ntrans x y z h1 h2:=by
  cases h:ltF ps x z
  ·rfl
  ·rw [ltF_iff] at h
   have h1: ¬ltF ps x y=true:=by rw [h1];simp
   have h2: ¬ltF ps y z=true:=by rw [h2];simp
   rw [ltF_iff] at h1 h2
   omega
def ordF (ps:List Int):List Nat:=
 if h:ps.length=0 then [] else
  haveI:NeZero ps.length:=⟨h⟩
  (Go.Sort.insertionSort (ltF ps) (List.finRange ps.length).toArray 0 ps.length).toList.map (fun x=>x.val)
theorem ordF_perm (ps:List Int):(ordF ps).Perm (List.range ps.length):=by
 unfold ordF
 split
 ·next h=>rw [h];exact List.Perm.refl _
 ·next h=>
  haveI:NeZero ps.length:=⟨h⟩
  have hsz:(List.finRange ps.length).toArray.size=ps.length:=by simp
  have h1:=Go.Sort.insertionSort_holds (swoF ps) (List.finRange ps.length).toArray 0 ps.length (Nat.zero_le _) (by rw [hsz];exact Nat.le_refl _)
  generalize Go.Sort.insertionSort (ltF ps) (List.finRange ps.length).toArray 0 ps.length=d at*
  obtain ⟨⟨g1,g2,g3⟩,g4⟩:=h1
  have hd:d.size=ps.length:=by rw [g1,hsz]
  have key: ∀(k:Nat) (d:Array (Fin ps.length)),d.size=k→(d.extract 0 k).toList=d.toList:=by
   intro k d h
   subst h
   rw [Array.extract_size]
  rw [key _ d hd,key _ _ hsz] at g3
  have:=g3.map (fun x=>x.val)
  have e:(List.finRange ps.length).map (fun x=>x.val)=List.range ps.length:=by
   apply List.ext_getElem
   ·simp
   ·intro i h1 h2;simp
  simpa [e] using this
theorem c146 (ps:List Int)(hps: ∀x∈ps,1≤x∧x≤24)(x y:Nat)(hx:x<ps.length)(hy:y<ps.length)(R:List (List AV))(T:List Nat):
  run L 146 [J x,J y,.ptr 0 0] ⟨[sl 1 true (ps.map I)]::R,T⟩=some (I (ps.getD y 0-ps.getD x 0),⟨[sl 1 true (ps.map I)]::R,T⟩):=by
 rw [run_shared (fn:=ir146) rfl rfl]
 have i1:=index_ints true ps x hx
 have i2:=index_ints true ps y hy
 have e1:ps[x]=ps.getD x 0:=by simp [List.getD_eq_getElem?_getD,hx]
 have e2:ps[y]=ps.getD y 0:=by simp [List.getD_eq_getElem?_getD,hy]
 have b1:=hps _ (List.getElem_mem hx)
 have b2:=hps _ (List.getElem_mem hy)
 rw [e1] at i1 b1
 rw [e2] at i2 b2
 generalize ps.getD x 0=a at*
 generalize ps.getD y 0=b at*
 have hw:=wrap64 (b-a) (by omega) (by omega)
 simp only [ir146,go_sem,i1,i2,hw]
def fillI (n i:Nat):List Nat:=(List.range n).map fun j=>if j<i then j else 0
theorem fillI_len (n i:Nat):(fillI n i).length=n:=by simp [fillI]
theorem fillI_set (n i:Nat)(h:i<n):(fillI n i).set i i=fillI n (i+1):=by
 apply List.ext_getElem
 ·simp [fillI]
 ·intro k h1 h2
  rw [List.getElem_set]
  simp only [fillI,List.getElem_map,List.getElem_range]
  split
  ·next e=>rw [if_pos (by omega)];exact e
  ·next e=>split<;>split<;>first|rfl|omega
theorem loop91 (pL:AV)(hpL1: ∀n,okRef n pL=true)(hpL2: ∀n T acc,ren1 n T acc pL=(pL,acc))(n:Nat)(hn:n≤8)(i:Nat)(hok:i≤n)(env:Env)(st:St)
  (hg:gcAV true 2 0 (canon env [1,3,9,10]) st=([(1,.ptr 0 0),(3,.rsl 1 0 n n 1 false),(9,J n),(10,J i)],⟨[[pL],(fillI n i).map J],[]⟩)):
  ∃x_1 en s,lim (headed pure (run L) true [1,3,9,10] lp91_0 2 0) env st=some (x_1,en,s)∧(x_1=.exit 0∧en.get 1=.ptr 0 0∧en.get 3=.rsl 1 0 n n 1 false∧s=⟨[[pL],(fillI n n).map J],[]⟩):=by
 refine loop_wp (α:=Nat) (fun i=>n-i) (fun i=>i≤n) (fun i=>([(1,.ptr 0 0),(3,.rsl 1 0 n n 1 false),(9,J n),(10,J i)],⟨[[pL],(fillI n i).map J],[]⟩)) (fun i x_1 en s=>x_1=.exit 0∧en.get 1=.ptr 0 0∧en.get 3=.rsl 1 0 n n 1 false∧s=⟨[[pL],(fillI n n).map J],[]⟩) (fun i hok=> ?_) i hok env st hg
 by_cases h:i<n
 ·have hs:=succ64 i (by omega)
  have hlt:((i:Int)<(n:Int))=True:=eT (by omega)
  have hst:=fillI_set n i h
  have hl:=fillI_len n i
  have hi1:(i+1≤n)=True:=eT (by omega)
  have hset:((fillI n i).map J).set i (J i)=(fillI n (i+1)).map J:=by rw [setJ,hst]
  simp only [go_sem,lp91_0,hlt,hs,hset,hl,hi1,nn_,lm_]
  refine ⟨(i+1),by simp only [go_sem,ren1_locm,loc_tips,locT_eq,okRefsJ,renCellsJ,hpL1,hpL2]<;>rfl,?_,?_,fun x en s hq=> ?_⟩
  all_goals first|exact hq|omega
 ·have hlt:((i:Int)<(n:Int))=False:=eF (by omega)
  obtain rfl:i=n:=by omega
  simp only [go_sem,lp91_0,hlt]
theorem c91 (ps:List Int)(hps: ∀x∈ps,1≤x∧x≤24)(n:Nat)(hl:ps.length=n)(hn:1≤n∧n≤8)(st:St):run L 91 [sl 1 true (ps.map I)] st=some (sl 1 false ((ordF ps).map J),st):=by
 subst hl
 haveI:NeZero ps.length:=⟨by omega⟩
 have hput: ∀X E,put [[sl 1 true (ps.map I)],[]] 1 X E=[sl 1 true (ps.map I)]::X::E:=fun X E=>rfl
 have h:=c98 ps.length [[sl 1 true (ps.map I)],[]] [] 1 (by simp) (by omega) false 146 rfl [.ptr 0 0] (cF ps) (ltF ps) (fun _ _=>rfl) (fun x y X E=>by
   rw [hput]
   exact c146 ps hps x.val y.val x.isLt y.isLt _ []) (List.finRange ps.length).toArray (by simp)
 rw [hput,hput] at h
 have e1:Dm fK (List.finRange ps.length).toArray=(fillI ps.length ps.length).map J:=by
  unfold Dm fillI
  apply List.ext_getElem
  ·simp
  ·intro i h1 h2
   have:i<ps.length:=by simpa using h2
   simp [this]
 have e2:Dm fK (Go.Sort.insertionSort (ltF ps) (List.finRange ps.length).toArray 0 ps.length)=(ordF ps).map J:=by
  unfold Dm ordF
  rw [dif_neg (by omega),List.map_map];rfl
 rw [e1,e2] at h
 have hmk:=makeJ ps.length (by omega) [[sl 1 true (ps.map I)]] []
 have hz:List.replicate ps.length 0=fillI ps.length 0:=by
  apply List.ext_getElem
  ·simp [fillI]
  ·intro i h1 h2;simp [fillI]
 rw [hz] at hmk
 have hfl:=fin_rslJ ⟨[[sl 1 true (ps.map I)],(ordF ps).map J],[]⟩ 1 ps.length (ordF ps) (by rw [(ordF_perm ps).length_eq,List.length_range]) rfl
 rw [run_pure (fn:=ir91) rfl rfl]
 simp only [ir91,go_sem,lm_,hmk]
 generalize hg:lim (headed pure (run L) true _ lp91_0 _ _) _ _=o
 obtain ⟨x,en,s,rfl,h2⟩: ∃x en s,o=some (x,en,s)∧_:=by rw [←hg];exact loop91 (sl 1 true (ps.map I)) (fun n=>okRef_sl _ _ _ _) (fun n T acc=>ren1_sl _ _ _ _ _ _) ps.length hn.2 0 (Nat.zero_le _) _ _ (by simp only [go_sem,okRefsJ,renCellsJ,Int.natCast_zero]<;>rfl)
 clear hg
 obtain ⟨rfl,f1,f3,rfl⟩:=h2
 simp only [go_sem,f1,f3,h,hfl]
theorem c36 (size:Int)(hs:1≤size∧size≤24)(ps:List Int)(n:Nat)(hl:ps.length=n)(hn:1≤n∧n≤8)(hps: ∀x∈ps,1≤x∧x≤size)(st:St):run L 36 [I size,sl 1 true (ps.map I)] st=some (.tup [sl 1 false ((ordF ps).map J),I 0],st):=by
 rw [run_pure (fn:=ir36) rfl rfl]
 have h56:=fun st=>c56 size hs true ps (by omega) hps st
 have h91:=fun st=>c91 ps (fun x hx=>by have:=hps x hx;omega) n hl hn st
 simp only [ir36,go_sem,h56,h91]
end Go.Proofs.YtdnjagnechibhaaGreatDoor.Vm
