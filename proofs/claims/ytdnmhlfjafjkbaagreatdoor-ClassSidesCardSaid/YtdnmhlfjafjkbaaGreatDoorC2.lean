/- What is proved: what each function of this program computes, as equations on the evaluator. No condition. -/
import Derived.Test.YtdnmhlfjafjkbaaGreatDoorC1
import Derived.Test.YtdnmhlfjafjkbaaGreatDoorT0
set_option linter.all false
namespace Go.Proofs.YtdnmhlfjafjkbaaGreatDoor.Vm
open Go Go.Ev
set_option maxRecDepth 100000
set_option maxHeartbeats 4000000
attribute [local go_sem] m_ x_ l_ k_ o_ t_ a_ s_ q_ b_ c_ u_ g_ z56 z10 z6h z2g z51 z0v z6d z1m z31 z0f z41 z2f z50 z0u z6c z2j z54 z0y z6f z1n z32 z0g z42 z1k z2z z0e z3y z2i z53 z0x z3s z7g z1j z9b z2k z55 z0z z6g z2l z1v z11 z6i z2e z4z z0t z6b z2h z52 z0w z6e z40 z2n z3z z9u z9s z9t z6v z4b z4e z4d z4c z4r z4s z5p z6z zag z13 z58 z3u z1s z47 z4u z4w z7d z7e z7c z4x z2y z1o z66 z3t z2x z1u z0l z33 z1x z46 z9j z6r z2b z1h z2d pubs pub z8b params z2q z0a z1b z30 z4f z4t z9v untips untip z64 wantedAV setElems withO z9y z4l z4i z4h z71 z4k z4g z70 z4j List.replicate_succ List.replicate_zero opAV valAV aval avals ofVal Env.get setD canon gcAV renAll renEnv renStore renCells z7t cutSt okEnv okStore okRefs okRef z5d zam z7j zal zaj zak zan cellsEq cellEq isShift intOp boolOp z9n z9o zao bne resAV tupAV z6y zdx z83 fins zij za6 za7 za5 zdy storeAV readCells putCells z7f z3r z1i fieldAddrAV zbg goI List.getElem?_cons_zero List.getElem?_cons_succ List.getElem?_nil Option.bind_some Option.map_some List.length_cons List.length_nil List.all_cons List.all_nil Bool.and_true Bool.true_and Bool.and_false Bool.false_and and_true true_and and_false false_and Bool.false_eq_true List.set_cons_zero List.set_cons_succ List.append_nil List.nil_append List.cons_append List.take_zero List.take_succ_cons List.take_nil List.drop_zero List.drop_succ_cons List.map_cons List.map_nil decide_true decide_false beq_self_eq_true Bool.not_true Bool.not_false or_true true_or or_false false_or Nat.zero_add Nat.add_zero Nat.le_refl Nat.lt_irrefl decide_eq_true_eq eq_self_iff_true not_true_eq_false not_false_eq_true List.getD_cons_zero z4v Nat.zero_le Nat.not_lt_zero Bool.true_beq Bool.false_beq beq_true beq_false ge_iff_le gt_iff_lt keepR keepT ownTop zit pus Option.map_none z35 z34 z75 z4n z74 Int.cast_ofNat_Int Nat.mul_one Nat.zero_mul Int.toNat_natCast Int.toNat_zero setParts withO2 hasKey z7b z6t z4p z48 z1r z1q z0h z4m setm z9q zaa z8s zel zev zhj zc4 z8z z85 z62 zcd z9k z8w z7o zah z84 zc6 z97 z7x z60 zcf z9l zcz z80 z81 za3 z5w zc1 z8v z8u zc2 Option.bind_none Bool.not_eq_true' decide_eq_false_iff_not Bool.and_eq_true Bool.or_eq_true Option.some.injEq Int.not_lt Int.not_le
attribute [local go_sem_proc] reduceIte Nat.reduceEqDiff Nat.reduceAdd Nat.reduceSub Nat.reduceLeDiff Nat.reduceLT reduceCtorEq Int.reduceLT Int.reduceLE Int.reduceEq Int.reduceBEq Int.reduceSub Int.reduceAdd Int.reduceMul Int.reduceNeg Int.reduceToNat Nat.reduceMul Nat.reduceBEq
attribute [local go_sem] m_ x_ l_ k_ o_ t_ a_ s_ q_ b_ c_ u_ g_ zg zk zj za zi
def tl129:IC:=(.seq (.seq (.ops [⟨(some 81),none,.move (.tmp 1)⟩,⟨(some 82),none,.bin .gtr none (.tmp 81) (.const (.int .i64 0))⟩,⟨(some 83),none,.move (.tmp 82)⟩,⟨(some 84),(some (83,true)),.move (.tmp 4)⟩,⟨(some 85),(some (83,true)),.move (.tmp 0)⟩,⟨(some 86),(some (83,true)),.move (.tmp 1)⟩,⟨(some 87),(some (83,true)),.bin .sub none (.tmp 86) (.const (.int .i64 1))⟩,⟨(some 88),(some (83,true)),.indexS 1 (.tmp 85) (.tmp 87)⟩,⟨(some 89),(some (83,true)),.load 1 true (.tmp 88)⟩,⟨(some 90),(some (83,true)),.move (.tmp 0)⟩,⟨(some 91),(some (83,true)),.move (.tmp 13)⟩,⟨(some 92),(some (83,true)),.indexS 1 (.tmp 90) (.tmp 91)⟩,⟨(some 93),(some (83,true)),.load 1 true (.tmp 92)⟩,⟨(some 94),(some (83,true)),.callv true (.tmp 84) [(.tmp 89),(.tmp 93)]⟩,⟨(some 95),(some (83,true)),.bin .lss none (.tmp 94) (.const (.int .i64 0))⟩,⟨(some 96),(some (83,true)),.not (.tmp 95)⟩,⟨(some 97),none,.pick (.tmp 83) (.tmp 96) (.const (.bool false))⟩])
 (.cond (.tmp 97) (.seq (.ops [⟨(some 98),none,.move (.tmp 0)⟩,⟨(some 99),none,.move (.tmp 1)⟩,⟨(some 100),none,.move (.tmp 2)⟩,⟨(some 101),none,.move (.tmp 13)⟩,⟨(some 102),none,.move (.tmp 4)⟩,⟨(some 103),none,.call false 167 [(.tmp 98),(.tmp 99),(.tmp 100),(.tmp 101),(.tmp 102)]⟩,⟨(some 15),none,.move (.tmp 103)⟩])
  (.seq (.ops [⟨(some 104),none,.move (.tmp 15)⟩,⟨(some 1),none,.move (.tmp 104)⟩])
  (.exit 1)))
 .skip))
 (.seq (.ops [⟨(some 106),none,.move (.tmp 0)⟩,⟨(some 107),none,.move (.tmp 1)⟩,⟨(some 108),none,.move (.tmp 2)⟩,⟨(some 109),none,.move (.tmp 13)⟩,⟨(some 110),none,.move (.tmp 4)⟩,⟨(some 111),none,.call false 168 [(.tmp 106),(.tmp 107),(.tmp 108),(.tmp 109),(.tmp 110)]⟩,⟨(some 105),none,.move (.tmp 111)⟩,⟨(some 112),none,.extract 0 (.tmp 105)⟩,⟨(some 113),none,.extract 1 (.tmp 105)⟩,⟨(some 16),none,.move (.tmp 112)⟩,⟨(some 17),none,.move (.tmp 113)⟩])
 (.seq (.ops [⟨(some 114),none,.move (.tmp 17)⟩,⟨(some 11),none,.move (.tmp 114)⟩])
 (.seq (.ops [⟨(some 115),none,.move (.tmp 16)⟩,⟨(some 116),none,.move (.tmp 1)⟩,⟨(some 117),none,.bin .sub none (.tmp 115) (.tmp 116)⟩,⟨(some 118),none,.move (.tmp 2)⟩,⟨(some 119),none,.move (.tmp 16)⟩,⟨(some 120),none,.bin .sub none (.tmp 118) (.tmp 119)⟩,⟨(some 18),none,.move (.tmp 117)⟩,⟨(some 19),none,.move (.tmp 120)⟩])
 (.seq (.ops [⟨(some 121),none,.move (.tmp 12)⟩,⟨(some 122),none,.bin .quo none (.tmp 121) (.const (.int .i64 8))⟩,⟨(some 20),none,.move (.tmp 122)⟩])
 (.seq (.ops [⟨(some 123),none,.move (.tmp 18)⟩,⟨(some 124),none,.move (.tmp 19)⟩,⟨(some 125),none,.bin .lss none (.tmp 123) (.tmp 124)⟩])
 (.cond (.tmp 125) (.seq (.ops [⟨(some 126),none,.move (.tmp 18)⟩,⟨(some 127),none,.move (.tmp 20)⟩,⟨(some 128),none,.bin .geq none (.tmp 126) (.tmp 127)⟩,⟨(some 10),none,.move (.tmp 128)⟩])
  (.seq (.ops [⟨(some 129),none,.move (.tmp 0)⟩,⟨(some 130),none,.move (.tmp 1)⟩,⟨(some 131),none,.move (.tmp 16)⟩,⟨(some 132),none,.move (.tmp 3)⟩,⟨(some 133),none,.move (.tmp 4)⟩,⟨(some 134),none,.call false 129 [(.tmp 129),(.tmp 130),(.tmp 131),(.tmp 132),(.tmp 133)]⟩])
  (.ops [⟨(some 135),none,.move (.tmp 16)⟩,⟨(some 136),none,.bin .add none (.tmp 135) (.const (.int .i64 1))⟩,⟨(some 1),none,.move (.tmp 136)⟩])))
 (.seq (.ops [⟨(some 137),none,.move (.tmp 19)⟩,⟨(some 138),none,.move (.tmp 20)⟩,⟨(some 139),none,.bin .geq none (.tmp 137) (.tmp 138)⟩,⟨(some 10),none,.move (.tmp 139)⟩])
  (.seq (.ops [⟨(some 140),none,.move (.tmp 0)⟩,⟨(some 141),none,.move (.tmp 16)⟩,⟨(some 142),none,.bin .add none (.tmp 141) (.const (.int .i64 1))⟩,⟨(some 143),none,.move (.tmp 2)⟩,⟨(some 144),none,.move (.tmp 3)⟩,⟨(some 145),none,.move (.tmp 4)⟩,⟨(some 146),none,.call false 129 [(.tmp 140),(.tmp 142),(.tmp 143),(.tmp 144),(.tmp 145)]⟩])
  (.ops [⟨(some 147),none,.move (.tmp 16)⟩,⟨(some 2),none,.move (.tmp 147)⟩]))))))))))
theorem zji:lp129_0=(.block 1 (.seq (.ops [⟨(some 21),none,.move (.tmp 2)⟩,⟨(some 22),none,.move (.tmp 1)⟩,⟨(some 23),none,.bin .sub none (.tmp 21) (.tmp 22)⟩,⟨(some 12),none,.move (.tmp 23)⟩])
 (.seq (.seq (.ops [⟨(some 24),none,.move (.tmp 12)⟩,⟨(some 25),none,.bin .leq none (.tmp 24) (.const (.int .i64 12))⟩])
 (.cond (.tmp 25) (.seq (.ops [⟨(some 26),none,.move (.tmp 0)⟩,⟨(some 27),none,.move (.tmp 1)⟩,⟨(some 28),none,.move (.tmp 2)⟩,⟨(some 29),none,.move (.tmp 4)⟩,⟨(some 30),none,.call false 161 [(.tmp 26),(.tmp 27),(.tmp 28),(.tmp 29)]⟩])
  .ret)
 .skip))
 (.seq (.seq (.ops [⟨(some 31),none,.move (.tmp 3)⟩,⟨(some 32),none,.bin .eql none (.tmp 31) (.const (.int .i64 0))⟩])
 (.cond (.tmp 32) (.seq (.ops [⟨(some 33),none,.move (.tmp 0)⟩,⟨(some 34),none,.move (.tmp 1)⟩,⟨(some 35),none,.move (.tmp 2)⟩,⟨(some 36),none,.move (.tmp 4)⟩,⟨(some 37),none,.call false 162 [(.tmp 33),(.tmp 34),(.tmp 35),(.tmp 36)]⟩])
  .ret)
 .skip))
 (.seq (.seq (.ops [⟨(some 38),none,.move (.tmp 10)⟩,⟨(some 39),none,.not (.tmp 38)⟩])
 (.cond (.tmp 39) (.seq (.ops [⟨(some 40),none,.move (.tmp 0)⟩,⟨(some 41),none,.move (.tmp 1)⟩,⟨(some 42),none,.move (.tmp 2)⟩,⟨(some 43),none,.move (.tmp 4)⟩,⟨(some 44),none,.call false 163 [(.tmp 40),(.tmp 41),(.tmp 42),(.tmp 43)]⟩])
  (.ops [⟨(some 45),none,.move (.tmp 3)⟩,⟨(some 46),none,.bin .sub none (.tmp 45) (.const (.int .i64 1))⟩,⟨(some 3),none,.move (.tmp 46)⟩]))
 .skip))
 (.seq (.ops [⟨(some 48),none,.move (.tmp 0)⟩,⟨(some 49),none,.move (.tmp 1)⟩,⟨(some 50),none,.move (.tmp 2)⟩,⟨(some 51),none,.move (.tmp 4)⟩,⟨(some 52),none,.call false 164 [(.tmp 48),(.tmp 49),(.tmp 50),(.tmp 51)]⟩,⟨(some 47),none,.move (.tmp 52)⟩,⟨(some 53),none,.extract 0 (.tmp 47)⟩,⟨(some 54),none,.extract 1 (.tmp 47)⟩,⟨(some 13),none,.move (.tmp 53)⟩,⟨(some 14),none,.move (.tmp 54)⟩])
 (.seq (.seq (.ops [⟨(some 55),none,.move (.tmp 14)⟩,⟨(some 56),none,.bin .eql none (.tmp 55) (.const (.int .i64 2))⟩])
 (.cond (.tmp 56) (.seq (.ops [⟨(some 57),none,.move (.tmp 0)⟩,⟨(some 58),none,.move (.tmp 1)⟩,⟨(some 59),none,.move (.tmp 2)⟩,⟨(some 60),none,.move (.tmp 4)⟩,⟨(some 61),none,.call false 165 [(.tmp 57),(.tmp 58),(.tmp 59),(.tmp 60)]⟩])
  (.seq (.ops [⟨(some 62),none,.move (.tmp 2)⟩,⟨(some 63),none,.bin .sub none (.tmp 62) (.const (.int .i64 1))⟩,⟨(some 64),none,.move (.tmp 13)⟩,⟨(some 65),none,.move (.tmp 1)⟩,⟨(some 66),none,.bin .sub none (.tmp 64) (.tmp 65)⟩,⟨(some 67),none,.bin .sub none (.tmp 63) (.tmp 66)⟩,⟨(some 13),none,.move (.tmp 67)⟩])
  (.ops [⟨(some 14),none,.move (.const (.int .i64 1))⟩])))
 .skip))
 (.seq (.seq (.ops [⟨(some 68),none,.move (.tmp 10)⟩,⟨(some 69),none,.move (.tmp 68)⟩,⟨(some 70),(some (69,true)),.move (.tmp 11)⟩,⟨(some 71),none,.pick (.tmp 69) (.tmp 70) (.const (.bool false))⟩,⟨(some 72),none,.move (.tmp 71)⟩,⟨(some 73),(some (72,true)),.move (.tmp 14)⟩,⟨(some 74),(some (72,true)),.bin .eql none (.tmp 73) (.const (.int .i64 1))⟩,⟨(some 75),none,.pick (.tmp 72) (.tmp 74) (.const (.bool false))⟩])
 (.cond (.tmp 75) (.seq (.ops [⟨(some 76),none,.move (.tmp 0)⟩,⟨(some 77),none,.move (.tmp 1)⟩,⟨(some 78),none,.move (.tmp 2)⟩,⟨(some 79),none,.move (.tmp 4)⟩,⟨(some 80),none,.call false 166 [(.tmp 76),(.tmp 77),(.tmp 78),(.tmp 79)]⟩])
  (.cond (.tmp 80) .ret
  .skip))
 .skip))
 tl129)))))))):=rfl
def endss (k:Nat) (caps:List AV) (l n:Nat) (ag:Bool) (en:Env) (a b li:Nat) (wb wp:Bool):Prop:=
 en.get 0=.rsl l 0 n n 1 ag∧en.get 1=J a∧en.get 2=J b∧en.get 3=J li∧en.get 4=.fn (.func k) [] caps∧en.get 10=B wb∧en.get 11=B wp
section
variable (S0:List (List AV)) (T:List Nat) (l:Nat) (hl:l<S0.length) (n:Nat) (hn:n≤1000) (ag:Bool) (k:Nat) (hk:pure k=true) (caps:List AV) (c:Fin 256→Fin 256→Int) (lt:Fin 256→Fin 256→Bool) (hlt: ∀x y,lt x y=decide (c x y<0)) (hc: ∀x y X E,run L k (fS x::fS y::caps) ⟨put S0 l X E,T⟩=some (I (c x y),⟨put S0 l X E,T⟩))
include S0 T l hl n hn ag k hk caps c lt hlt hc
theorem zc3 (N:Nat)(ih:(∀(a b li:Nat) (d:Array (Fin 256)) (X0:List (List AV)),a≤b→b≤n→d.size=n→li<1000→b-a<N→(Go.Sort.pdq lt d a b li true true).size=n∧∃X1,(PL X0→PL X1)∧run L 129 [.rsl l 0 n n 1 ag,J a,J b,J li,.fn (.func k) [] caps] ⟨put S0 l (Dm gS d) X0,T⟩=some (.tup [],⟨put S0 l (Dm gS (Go.Sort.pdq lt d a b li true true)) X1,T⟩)))
  (X0:List (List AV)) (en:Env) (a b li p:Nat) (wb wp:Bool) (d:Array (Fin 256)) (hsz:d.size=n) (hab:a+13≤b) (hb:b≤n) (hN:b-a≤N) (hp1:a≤p) (hp2:p<b) (hli:li<1000)
  (e0:en.get 0=.rsl l 0 n n 1 ag) (e1:en.get 1=J a) (e2:en.get 2=J b) (e3:en.get 3=J li) (e4:en.get 4=.fn (.func k) [] caps) (e10:en.get 10=B wb) (e11:en.get 11=B wp) (e12:en.get 12=J (b-a)) (e13:en.get 13=J p)
  (NN:Env→St→Prop) (QQ:X→Env→St→Prop)
  (hnext: ∀en' a' b' wb' wp' (d':Array (Fin 256)) X1,endss k caps l n ag en' a' b' li wb' wp'→(PL X0→PL X1)→a'≤b'→b'≤n→b'-a'<b-a→d'.size=n→pdqT lt d a b p li wb wp=Go.Sort.pdq lt d' a' b' li wb' wp'→NN en' ⟨put S0 l (Dm gS d') X1,T⟩):
  Then (blockK 1 (codeAV pure (run L) lim tl129 en ⟨put S0 l (Dm gS d) X0,T⟩)) NN QQ:=by
 have hpo:=z8c lt d (a:=a) (b:=b) (p:=p) (by omega)
 have hpe:=z2p lt d (a:=a) (b:=b) (p:=p) (by omega)
 have hrp:=pars S0 T l hl n hn ag k hk caps c lt hlt hc X0 d hsz a b p (by omega) hb (by omega)
 have hre:=peqs S0 T l hl n hn ag k hk caps c lt hlt hc X0 d hsz a b p (by omega) hb (by omega)
 have hT:pdqT lt d a b p li wb wp=if (decide (a>0)&& !lt d[a-1]! d[p]!)=true then Go.Sort.pdq lt (Go.Sort.partitionEqual lt d a b p).2 (Go.Sort.partitionEqual lt d a b p).1 b li wb wp
  else if (Go.Sort.partition lt d a b p).1-a<b-(Go.Sort.partition lt d a b p).1 then
   Go.Sort.pdq lt (Go.Sort.pdq lt (Go.Sort.partition lt d a b p).2.2 a (Go.Sort.partition lt d a b p).1 li true true) ((Go.Sort.partition lt d a b p).1+1) b li (decide ((b-a) / 8≤(Go.Sort.partition lt d a b p).1-a)) (Go.Sort.partition lt d a b p).2.1
  else
   Go.Sort.pdq lt (Go.Sort.pdq lt (Go.Sort.partition lt d a b p).2.2 ((Go.Sort.partition lt d a b p).1+1) b li true true) a (Go.Sort.partition lt d a b p).1 li (decide ((b-a) / 8≤b-(Go.Sort.partition lt d a b p).1)) (Go.Sort.partition lt d a b p).2.1:=rfl
 rw [hT] at hnext
 generalize Go.Sort.partition lt d a b p=q at*
 generalize Go.Sort.partitionEqual lt d a b p=qe at*
 obtain ⟨mid,ap,d4⟩:=q
 obtain ⟨mid2,d5⟩:=qe
 dsimp only at*
 have hget:=fun C E=>zp hl C E
 have hpset:=fun C C' E=>zo hl C C' E
 have hlenD:(Dm gS d).length=n:=by rw [zz,hsz]
 have r10:(((p:Nat):Int)<(n:Int))=True:=eT (by omega)
 have r11:((p:Nat)<n)=True:=eT (by omega)
 have r12:((p:Nat)+1≤n)=True:=eT (by omega)
 have r13:((Dm gS d).drop (p)).take 1=[gS d[p]!]:=z9 gS d (by omega)
 have hq8:IntKind.i64.wrap (Int.tdiv ((b-a:Nat):Int) 8)=(((b-a) / 8:Nat):Int):=quoJ (b-a) 8 (by omega) (by omega)
 have hml:=zey mid a (by omega) (by omega)
 have hmr:=zey b mid (by omega) (by omega)
 have hm1:=zh mid (by omega)
 have b1:((((b-a) / 8:Nat):Int)≤((mid-a:Nat):Int))=((b-a) / 8≤mid-a):=propext (by omega)
 have b2:((((b-a) / 8:Nat):Int)≤((b-mid:Nat):Int))=((b-a) / 8≤b-mid):=propext (by omega)
 have dd: ∀(P:Prop) [Decidable P] (v:Bool),v=decide P→decide P=v:=fun _ _ _ h=>h.symm
 have i1:=ih a mid li d4 X0 (by omega) (by omega) (by omega) hli (by omega)
 have i2:=ih (mid+1) b li d4 X0 (by omega) (by omega) (by omega) hli (by omega)
 obtain ⟨z1,Y1,y1,i1⟩:=i1
 obtain ⟨z2,Y2,y2,i2⟩:=i2
 generalize Go.Sort.pdq lt d4 a mid li true true=d6 at*
 generalize Go.Sort.pdq lt d4 (mid+1) b li true true=d7 at*
 generalize (b-a) / 8=bal at*
 by_cases h0:a=0
 ·have q0:((0:Int)<(a:Int))=False:=eF (by omega)
  rw [show decide (a>0)=false from decide_eq_false (by omega),Bool.false_and,if_neg (by simp)] at hnext
  by_cases hc2:mid-a<b-mid
  ·have q1:(((mid-a:Nat):Int)<((b-mid:Nat):Int))=True:=eT (by omega)
   rw [if_pos hc2] at hnext
   simp only [go_sem,tl129,e0,e1,e2,e3,e4,e10,e11,e12,e13,q0,hrp,hml,hmr,hq8,q1,b1,i1,hm1]
   exact hnext _ _ _ _ _ _ _ ⟨by simp only [go_sem,e0],by simp only [go_sem],by simp only [go_sem,e2],by simp only [go_sem,e3],by simp only [go_sem,e4],by simp only [go_sem],by simp only [go_sem]⟩ y1 (by omega) hb (by omega) z1 rfl
  ·have q1:(((mid-a:Nat):Int)<((b-mid:Nat):Int))=False:=eF (by omega)
   rw [if_neg hc2] at hnext
   simp only [go_sem,tl129,e0,e1,e2,e3,e4,e10,e11,e12,e13,q0,hrp,hml,hmr,hq8,q1,b2,i2,hm1]
   exact hnext _ _ _ _ _ _ _ ⟨by simp only [go_sem,e0],by simp only [go_sem,e1],by simp only [go_sem],by simp only [go_sem,e3],by simp only [go_sem,e4],by simp only [go_sem],by simp only [go_sem]⟩ y2 (by omega) (by omega) (by omega) z2 rfl
 ·have q0:((0:Int)<(a:Int))=True:=eT (by omega)
  have hw:=z0i a (by omega) (by omega)
  have r20:(((a-1:Nat):Int)<(n:Int))=True:=eT (by omega)
  have r21:((a-1:Nat)<n)=True:=eT (by omega)
  have r22:((a-1:Nat)+1≤n)=True:=eT (by omega)
  have r23:((Dm gS d).drop (a-1)).take 1=[gS d[a-1]!]:=z9 gS d (by omega)
  rw [show decide (a>0)=true from decide_eq_true (by omega),Bool.true_and] at hnext
  cases hcc:lt d[a-1]! d[p]! with
  |true=>
   have hk0:(c d[a-1]! d[p]! <0)=True:=by rw [hlt] at hcc;simpa using hcc
   rw [hcc,if_neg (by simp)] at hnext
   generalize d[a-1]! =x at*
   generalize d[p]! =y at*
   by_cases hc2:mid-a<b-mid
   ·have q1:(((mid-a:Nat):Int)<((b-mid:Nat):Int))=True:=eT (by omega)
    rw [if_pos hc2] at hnext
    simp only [go_sem,tl129,e0,e1,e2,e3,e4,e10,e11,e12,e13,q0,hw,r10,r11,r12,r13,r20,r21,r22,r23,hc,hk,hk0,hrp,hml,hmr,hq8,q1,b1,i1,hm1,hget,hpset,hlenD,nn_,lm_,List.length_set]
    exact hnext _ _ _ _ _ _ _ ⟨by simp only [go_sem,e0],by simp only [go_sem],by simp only [go_sem,e2],by simp only [go_sem,e3],by simp only [go_sem,e4],by simp only [go_sem],by simp only [go_sem]⟩ y1 (by omega) hb (by omega) z1 rfl
   ·have q1:(((mid-a:Nat):Int)<((b-mid:Nat):Int))=False:=eF (by omega)
    rw [if_neg hc2] at hnext
    simp only [go_sem,tl129,e0,e1,e2,e3,e4,e10,e11,e12,e13,q0,hw,r10,r11,r12,r13,r20,r21,r22,r23,hc,hk,hk0,hrp,hml,hmr,hq8,q1,b2,i2,hm1,hget,hpset,hlenD,nn_,lm_,List.length_set]
    exact hnext _ _ _ _ _ _ _ ⟨by simp only [go_sem,e0],by simp only [go_sem,e1],by simp only [go_sem],by simp only [go_sem,e3],by simp only [go_sem,e4],by simp only [go_sem],by simp only [go_sem]⟩ y2 (by omega) (by omega) (by omega) z2 rfl
  |false=>
   have hk0:(c d[a-1]! d[p]! <0)=False:=by rw [hlt] at hcc;simpa using hcc
   rw [hcc,if_pos (show (!false)=true from rfl)] at hnext
   generalize d[a-1]! =x at*
   generalize d[p]! =y at*
   simp only [go_sem,tl129,e0,e1,e2,e3,e4,e10,e11,e12,e13,q0,hw,r10,r11,r12,r13,r20,r21,r22,r23,hc,hk,hk0,hre,hget,hpset,hlenD,nn_,lm_,List.length_set]
   exact hnext _ _ _ _ _ _ _ ⟨by simp only [go_sem,e0],by simp only [go_sem],by simp only [go_sem,e2],by simp only [go_sem,e3],by simp only [go_sem,e4],by simp only [go_sem,e10],by simp only [go_sem,e11]⟩ id (by omega) hb (by omega) (by rw [hpe.1,hsz]) rfl
theorem pdq0s (hn2:n<256)(N:Nat)(ih:(∀(a b li:Nat) (d:Array (Fin 256)) (X0:List (List AV)),a≤b→b≤n→d.size=n→li<1000→b-a<N→(Go.Sort.pdq lt d a b li true true).size=n∧∃X1,(PL X0→PL X1)∧run L 129 [.rsl l 0 n n 1 ag,J a,J b,J li,.fn (.func k) [] caps] ⟨put S0 l (Dm gS d) X0,T⟩=some (.tup [],⟨put S0 l (Dm gS (Go.Sort.pdq lt d a b li true true)) X1,T⟩)))(lo hi2:Nat)(a:Nat)(b:Nat)(li:Nat)(wb:Bool)(wp:Bool)(d:Array (Fin 256))(X0:List (List AV))(hok:a≤b∧b≤n∧d.size=n∧li<1000∧b-a≤N)(env:Env)(st:St)
  (hg:gcAV false lo hi2 (canon env [0,1,2,3,4,10,11]) st=([(0,.rsl l 0 n n 1 ag),(1,J a),(2,J b),(3,J li),(4,.fn (.func k) [] caps),(10,B wb),(11,B wp)],⟨put S0 l (Dm gS d) X0,T⟩)):
  ∃x_1 en s,lim (headed pure (run L) false [0,1,2,3,4,10,11] lp129_0 lo hi2) env st=some (x_1,en,s)∧(x_1=.ret∧(Go.Sort.pdq lt d a b li wb wp).size=n∧∃X1,(PL X0→PL X1)∧s=⟨put S0 l (Dm gS (Go.Sort.pdq lt d a b li wb wp)) X1,T⟩):=by
 refine zb (α:=Nat×Nat×Nat×Bool×Bool×Array (Fin 256)×List (List AV)) (fun ⟨a,b,li,wb,wp,d,X0⟩=>b-a) (fun ⟨a,b,li,wb,wp,d,X0⟩=>a≤b∧b≤n∧d.size=n∧li<1000∧b-a≤N) (fun ⟨a,b,li,wb,wp,d,X0⟩=>([(0,.rsl l 0 n n 1 ag),(1,J a),(2,J b),(3,J li),(4,.fn (.func k) [] caps),(10,B wb),(11,B wp)],⟨put S0 l (Dm gS d) X0,T⟩)) (fun ⟨a,b,li,wb,wp,d,X0⟩ x_1 en s=>x_1=.ret∧(Go.Sort.pdq lt d a b li wb wp).size=n∧∃X1,(PL X0→PL X1)∧s=⟨put S0 l (Dm gS (Go.Sort.pdq lt d a b li wb wp)) X1,T⟩) (fun ⟨a,b,li,wb,wp,d,X0⟩ hok=> ?_) ⟨a,b,li,wb,wp,d,X0⟩ hok env st hg
 simp only at hok
 obtain ⟨h1,h2,hsz,hli,hN⟩:=hok
 dsimp only at h1 h2 hsz hli hN⊢
 have hw:=zey b a h1 (by omega)
 rw [zji]
 by_cases h12:b-a≤12
 ·have q12:(((b-a:Nat):Int)≤12)=True:=eT (by omega)
  have e:Go.Sort.pdq lt d a b li wb wp=Go.Sort.insertionSort lt d a b:=by rw [Go.Sort.pdq,if_pos h12]
  rw [e]
  have hi:=inss S0 T l hl n hn ag k hk caps c lt hlt hc X0 a b (by omega) h2 d hsz
  simp only [go_sem,lp129_0,hw,q12,hi]
  exact ⟨by rw [z72,hsz],_,id,rfl⟩
 ·have q12:(((b-a:Nat):Int)≤12)=False:=eF (by omega)
  by_cases hl0:li=0
  ·have ql:((li:Int)=0)=True:=eT (by omega)
   have e:Go.Sort.pdq lt d a b li wb wp=Go.Sort.heapSort lt d a b:=by rw [Go.Sort.pdq,if_neg h12,if_pos hl0]
   rw [e]
   have hh:=heaps S0 T l hl n hn ag k hk caps c lt hlt hc X0 d hsz a b (by omega) h2
   simp only [go_sem,lp129_0,hw,q12,ql,hh]
   exact ⟨by rw [zco,hsz],_,id,rfl⟩
  ·have ql:((li:Int)=0)=False:=eF (by omega)
   have hb1:=z0i b (by omega) (by omega)
   cases wb with
   |false=>
    obtain ⟨BB,hbr⟩:=brks S0 T l hl n hn ag k caps X0 d hsz a b (by omega) h2 (by omega)
    have hz1:(Go.Sort.breakPatterns d a b).size=n:=by rw [z7i,hsz]
    have hpl:=z0i li (by omega) (by omega)
    generalize hd1:Go.Sort.breakPatterns d a b=d1 at*
    obtain ⟨B2,hpv⟩:=pivs S0 T l hl n hn ag k hk caps c lt hlt hc (X0++ [[U BB]]) d1 hz1 a b (by omega) h2
    have hpr:=Go.Sort.choosePivot_holds lt d1 a b (by omega)
    generalize hcc:Go.Sort.choosePivot lt d1 a b=cc at*
    obtain ⟨pv,hint⟩:=cc
    dsimp only at hpr hpv
    cases hint with
    |unknown=>
     have hpv:run L 164 [.rsl l 0 n n 1 ag,J a,J b,.fn (.func k) [] caps] ⟨put S0 l (Dm gS d1) (X0++ [[U BB]]),T⟩=some (.tup [J pv,I 0],⟨put S0 l (Dm gS d1) ((X0++ [[U BB]])++ [[J B2]]),T⟩):=hpv
     have e:Go.Sort.pdq lt d a b li false wp=pdqT lt d1 a b pv (li-1) false wp:=by rw [z06 lt d false wp (by omega) hl0];simp [hd1,hcc]
     rw [e]
     simp only [go_sem,lp129_0,hw,q12,ql,hbr,hpl,hpv]
     refine zc3 S0 T l hl n hn ag k hk caps c lt hlt hc N ih _ _ a b (li-1) pv false wp d1 hz1 (by omega) h2 hN (by omega) (by omega) (by omega) (by simp only [go_sem]) (by simp only [go_sem]) (by simp only [go_sem]) (by simp only [go_sem]) (by simp only [go_sem]) (by simp only [go_sem]) (by simp only [go_sem]) (by simp only [go_sem]) (by simp only [go_sem]) _ _ (fun en2 a2 b2 wb2 wp2 d9 X9 he gx g1 g2 g3 g4 g5=> ?_)
     obtain ⟨f0,f1,f2,f3,f4,f10,f11⟩:=he
     refine ⟨(a2,b2,(li-1),wb2,wp2,d9,X9),by simp only [go_sem,f0,f1,f2,f3,f4,f10,f11],?_,?_,fun x en s hq=> ?_⟩
     ·dsimp only;exact ⟨g1,g2,g4,by omega,by omega⟩
     ·dsimp only;exact g3
     ·dsimp only at hq
      rw [g5]
      obtain ⟨hq1,hq2,X8,hx8,hq3⟩:=hq
      exact ⟨hq1,hq2,X8,fun h0=>hx8 (gx ((h0.snoc _ _).snoc _ _)),hq3⟩
    |increasing=>
     have hpv:run L 164 [.rsl l 0 n n 1 ag,J a,J b,.fn (.func k) [] caps] ⟨put S0 l (Dm gS d1) (X0++ [[U BB]]),T⟩=some (.tup [J pv,I 1],⟨put S0 l (Dm gS d1) ((X0++ [[U BB]])++ [[J B2]]),T⟩):=hpv
     have e:Go.Sort.pdq lt d a b li false wp=pdqT lt d1 a b pv (li-1) false wp:=by rw [z06 lt d false wp (by omega) hl0];simp [hd1,hcc]
     rw [e]
     simp only [go_sem,lp129_0,hw,q12,ql,hbr,hpl,hpv]
     refine zc3 S0 T l hl n hn ag k hk caps c lt hlt hc N ih _ _ a b (li-1) pv false wp d1 hz1 (by omega) h2 hN (by omega) (by omega) (by omega) (by simp only [go_sem]) (by simp only [go_sem]) (by simp only [go_sem]) (by simp only [go_sem]) (by simp only [go_sem]) (by simp only [go_sem]) (by simp only [go_sem]) (by simp only [go_sem]) (by simp only [go_sem]) _ _ (fun en2 a2 b2 wb2 wp2 d9 X9 he gx g1 g2 g3 g4 g5=> ?_)
     obtain ⟨f0,f1,f2,f3,f4,f10,f11⟩:=he
     refine ⟨(a2,b2,(li-1),wb2,wp2,d9,X9),by simp only [go_sem,f0,f1,f2,f3,f4,f10,f11],?_,?_,fun x en s hq=> ?_⟩
     ·dsimp only;exact ⟨g1,g2,g4,by omega,by omega⟩
     ·dsimp only;exact g3
     ·dsimp only at hq
      rw [g5]
      obtain ⟨hq1,hq2,X8,hx8,hq3⟩:=hq
      exact ⟨hq1,hq2,X8,fun h0=>hx8 (gx ((h0.snoc _ _).snoc _ _)),hq3⟩
    |decreasing=>
     have hpv:run L 164 [.rsl l 0 n n 1 ag,J a,J b,.fn (.func k) [] caps] ⟨put S0 l (Dm gS d1) (X0++ [[U BB]]),T⟩=some (.tup [J pv,I 2],⟨put S0 l (Dm gS d1) ((X0++ [[U BB]])++ [[J B2]]),T⟩):=hpv
     have hrv:=revs S0 T l hl n hn ag k caps ((X0++ [[U BB]])++ [[J B2]]) d1 hz1 a b (by omega) h2
     have hz2:(Go.Sort.reverseRange d1 a b).size=n:=by rw [z2m,hz1]
     have hpa:=zey pv a (by omega) (by omega)
     have hpb:=zey (b-1) (pv-a) (by omega) (by omega)
     generalize hd2:Go.Sort.reverseRange d1 a b=d2 at*
     have e:Go.Sort.pdq lt d a b li false wp=pdqT lt d2 a b (b-1-(pv-a)) (li-1) false wp:=by rw [z06 lt d false wp (by omega) hl0];simp [hd1,hcc,hd2]
     rw [e]
     simp only [go_sem,lp129_0,hw,q12,ql,hbr,hpl,hpv,hrv,hb1,hpa,hpb]
     refine zc3 S0 T l hl n hn ag k hk caps c lt hlt hc N ih _ _ a b (li-1) (b-1-(pv-a)) false wp d2 hz2 (by omega) h2 hN (by omega) (by omega) (by omega) (by simp only [go_sem]) (by simp only [go_sem]) (by simp only [go_sem]) (by simp only [go_sem]) (by simp only [go_sem]) (by simp only [go_sem]) (by simp only [go_sem]) (by simp only [go_sem]) (by simp only [go_sem]) _ _ (fun en2 a2 b2 wb2 wp2 d9 X9 he gx g1 g2 g3 g4 g5=> ?_)
     obtain ⟨f0,f1,f2,f3,f4,f10,f11⟩:=he
     refine ⟨(a2,b2,(li-1),wb2,wp2,d9,X9),by simp only [go_sem,f0,f1,f2,f3,f4,f10,f11],?_,?_,fun x en s hq=> ?_⟩
     ·dsimp only;exact ⟨g1,g2,g4,by omega,by omega⟩
     ·dsimp only;exact g3
     ·dsimp only at hq
      rw [g5]
      obtain ⟨hq1,hq2,X8,hx8,hq3⟩:=hq
      exact ⟨hq1,hq2,X8,fun h0=>hx8 (gx ((h0.snoc _ _).snoc _ _)),hq3⟩
   |true=>
    obtain ⟨B2,hpv⟩:=pivs S0 T l hl n hn ag k hk caps c lt hlt hc X0 d hsz a b (by omega) h2
    have hpr:=Go.Sort.choosePivot_holds lt d a b (by omega)
    generalize hcc:Go.Sort.choosePivot lt d a b=cc at*
    obtain ⟨pv,hint⟩:=cc
    dsimp only at hpr hpv
    cases hint with
    |unknown=>
     have hpv:run L 164 [.rsl l 0 n n 1 ag,J a,J b,.fn (.func k) [] caps] ⟨put S0 l (Dm gS d) X0,T⟩=some (.tup [J pv,I 0],⟨put S0 l (Dm gS d) (X0++ [[J B2]]),T⟩):=hpv
     have e:Go.Sort.pdq lt d a b li true wp=pdqT lt d a b pv li true wp:=by rw [z06 lt d true wp (by omega) hl0];simp [hcc]
     rw [e]
     cases wp with
     |false=>
      simp only [go_sem,lp129_0,hw,q12,ql,hpv]
      refine zc3 S0 T l hl n hn ag k hk caps c lt hlt hc N ih _ _ a b li pv true false d hsz (by omega) h2 hN (by omega) (by omega) (by omega) (by simp only [go_sem]) (by simp only [go_sem]) (by simp only [go_sem]) (by simp only [go_sem]) (by simp only [go_sem]) (by simp only [go_sem]) (by simp only [go_sem]) (by simp only [go_sem]) (by simp only [go_sem]) _ _ (fun en2 a2 b2 wb2 wp2 d9 X9 he gx g1 g2 g3 g4 g5=> ?_)
      obtain ⟨f0,f1,f2,f3,f4,f10,f11⟩:=he
      refine ⟨(a2,b2,li,wb2,wp2,d9,X9),by simp only [go_sem,f0,f1,f2,f3,f4,f10,f11],?_,?_,fun x en s hq=> ?_⟩
      ·dsimp only;exact ⟨g1,g2,g4,by omega,by omega⟩
      ·dsimp only;exact g3
      ·dsimp only at hq
       rw [g5]
       obtain ⟨hq1,hq2,X8,hx8,hq3⟩:=hq
       exact ⟨hq1,hq2,X8,fun h0=>hx8 (gx (h0.snoc _ _)),hq3⟩
     |true=>
      simp only [go_sem,lp129_0,hw,q12,ql,hpv]
      refine zc3 S0 T l hl n hn ag k hk caps c lt hlt hc N ih _ _ a b li pv true true d hsz (by omega) h2 hN (by omega) (by omega) (by omega) (by simp only [go_sem]) (by simp only [go_sem]) (by simp only [go_sem]) (by simp only [go_sem]) (by simp only [go_sem]) (by simp only [go_sem]) (by simp only [go_sem]) (by simp only [go_sem]) (by simp only [go_sem]) _ _ (fun en2 a2 b2 wb2 wp2 d9 X9 he gx g1 g2 g3 g4 g5=> ?_)
      obtain ⟨f0,f1,f2,f3,f4,f10,f11⟩:=he
      refine ⟨(a2,b2,li,wb2,wp2,d9,X9),by simp only [go_sem,f0,f1,f2,f3,f4,f10,f11],?_,?_,fun x en s hq=> ?_⟩
      ·dsimp only;exact ⟨g1,g2,g4,by omega,by omega⟩
      ·dsimp only;exact g3
      ·dsimp only at hq
       rw [g5]
       obtain ⟨hq1,hq2,X8,hx8,hq3⟩:=hq
       exact ⟨hq1,hq2,X8,fun h0=>hx8 (gx (h0.snoc _ _)),hq3⟩
    |increasing=>
     have hpv:run L 164 [.rsl l 0 n n 1 ag,J a,J b,.fn (.func k) [] caps] ⟨put S0 l (Dm gS d) X0,T⟩=some (.tup [J pv,I 1],⟨put S0 l (Dm gS d) (X0++ [[J B2]]),T⟩):=hpv
     cases wp with
     |false=>
      have e:Go.Sort.pdq lt d a b li true false=pdqT lt d a b pv li true false:=by rw [z06 lt d true false (by omega) hl0];simp [hcc]
      rw [e]
      simp only [go_sem,lp129_0,hw,q12,ql,hpv]
      refine zc3 S0 T l hl n hn ag k hk caps c lt hlt hc N ih _ _ a b li pv true false d hsz (by omega) h2 hN (by omega) (by omega) (by omega) (by simp only [go_sem]) (by simp only [go_sem]) (by simp only [go_sem]) (by simp only [go_sem]) (by simp only [go_sem]) (by simp only [go_sem]) (by simp only [go_sem]) (by simp only [go_sem]) (by simp only [go_sem]) _ _ (fun en2 a2 b2 wb2 wp2 d9 X9 he gx g1 g2 g3 g4 g5=> ?_)
      obtain ⟨f0,f1,f2,f3,f4,f10,f11⟩:=he
      refine ⟨(a2,b2,li,wb2,wp2,d9,X9),by simp only [go_sem,f0,f1,f2,f3,f4,f10,f11],?_,?_,fun x en s hq=> ?_⟩
      ·dsimp only;exact ⟨g1,g2,g4,by omega,by omega⟩
      ·dsimp only;exact g3
      ·dsimp only at hq
       rw [g5]
       obtain ⟨hq1,hq2,X8,hx8,hq3⟩:=hq
       exact ⟨hq1,hq2,X8,fun h0=>hx8 (gx (h0.snoc _ _)),hq3⟩
     |true=>
      have hpi:=piss S0 T l hl n hn ag k hk caps c lt hlt hc (X0++ [[J B2]]) d hsz a b (by omega) h2
      have hz3:(Go.Sort.partialInsertionSort lt d a b).1.size=n:=by unfold Go.Sort.partialInsertionSort;rw [z1p,hsz]
      generalize hpe:Go.Sort.partialInsertionSort lt d a b=pi at*
      obtain ⟨d3,ok⟩:=pi
      dsimp only at hpi hz3
      cases ok with
      |true=>
       have e:Go.Sort.pdq lt d a b li true true=d3:=by rw [z06 lt d true true (by omega) hl0];simp [hcc,hpe]
       rw [e]
       simp only [go_sem,lp129_0,hw,q12,ql,hpv,hpi]
       exact ⟨hz3,_,fun h0=>(h0.snoc _ _),rfl⟩
      |false=>
       have e:Go.Sort.pdq lt d a b li true true=pdqT lt d3 a b pv li true true:=by rw [z06 lt d true true (by omega) hl0];simp [hcc,hpe]
       rw [e]
       simp only [go_sem,lp129_0,hw,q12,ql,hpv,hpi]
       refine zc3 S0 T l hl n hn ag k hk caps c lt hlt hc N ih _ _ a b li pv true true d3 hz3 (by omega) h2 hN (by omega) (by omega) (by omega) (by simp only [go_sem]) (by simp only [go_sem]) (by simp only [go_sem]) (by simp only [go_sem]) (by simp only [go_sem]) (by simp only [go_sem]) (by simp only [go_sem]) (by simp only [go_sem]) (by simp only [go_sem]) _ _ (fun en2 a2 b2 wb2 wp2 d9 X9 he gx g1 g2 g3 g4 g5=> ?_)
       obtain ⟨f0,f1,f2,f3,f4,f10,f11⟩:=he
       refine ⟨(a2,b2,li,wb2,wp2,d9,X9),by simp only [go_sem,f0,f1,f2,f3,f4,f10,f11],?_,?_,fun x en s hq=> ?_⟩
       ·dsimp only;exact ⟨g1,g2,g4,by omega,by omega⟩
       ·dsimp only;exact g3
       ·dsimp only at hq
        rw [g5]
        obtain ⟨hq1,hq2,X8,hx8,hq3⟩:=hq
        exact ⟨hq1,hq2,X8,fun h0=>hx8 (gx (h0.snoc _ _)),hq3⟩
    |decreasing=>
     have hpv:run L 164 [.rsl l 0 n n 1 ag,J a,J b,.fn (.func k) [] caps] ⟨put S0 l (Dm gS d) X0,T⟩=some (.tup [J pv,I 2],⟨put S0 l (Dm gS d) (X0++ [[J B2]]),T⟩):=hpv
     have hrv:=revs S0 T l hl n hn ag k caps (X0++ [[J B2]]) d hsz a b (by omega) h2
     have hz2:(Go.Sort.reverseRange d a b).size=n:=by rw [z2m,hsz]
     have hpa:=zey pv a (by omega) (by omega)
     have hpb:=zey (b-1) (pv-a) (by omega) (by omega)
     generalize hd2:Go.Sort.reverseRange d a b=d2 at*
     cases wp with
     |false=>
      have e:Go.Sort.pdq lt d a b li true false=pdqT lt d2 a b (b-1-(pv-a)) li true false:=by rw [z06 lt d true false (by omega) hl0];simp [hcc,hd2]
      rw [e]
      simp only [go_sem,lp129_0,hw,q12,ql,hpv,hrv,hb1,hpa,hpb]
      refine zc3 S0 T l hl n hn ag k hk caps c lt hlt hc N ih _ _ a b li (b-1-(pv-a)) true false d2 hz2 (by omega) h2 hN (by omega) (by omega) (by omega) (by simp only [go_sem]) (by simp only [go_sem]) (by simp only [go_sem]) (by simp only [go_sem]) (by simp only [go_sem]) (by simp only [go_sem]) (by simp only [go_sem]) (by simp only [go_sem]) (by simp only [go_sem]) _ _ (fun en2 a2 b2 wb2 wp2 d9 X9 he gx g1 g2 g3 g4 g5=> ?_)
      obtain ⟨f0,f1,f2,f3,f4,f10,f11⟩:=he
      refine ⟨(a2,b2,li,wb2,wp2,d9,X9),by simp only [go_sem,f0,f1,f2,f3,f4,f10,f11],?_,?_,fun x en s hq=> ?_⟩
      ·dsimp only;exact ⟨g1,g2,g4,by omega,by omega⟩
      ·dsimp only;exact g3
      ·dsimp only at hq
       rw [g5]
       obtain ⟨hq1,hq2,X8,hx8,hq3⟩:=hq
       exact ⟨hq1,hq2,X8,fun h0=>hx8 (gx (h0.snoc _ _)),hq3⟩
     |true=>
      have hpi:=piss S0 T l hl n hn ag k hk caps c lt hlt hc (X0++ [[J B2]]) d2 hz2 a b (by omega) h2
      have hz3:(Go.Sort.partialInsertionSort lt d2 a b).1.size=n:=by unfold Go.Sort.partialInsertionSort;rw [z1p,hz2]
      generalize hpe:Go.Sort.partialInsertionSort lt d2 a b=pi at*
      obtain ⟨d3,ok⟩:=pi
      dsimp only at hpi hz3
      cases ok with
      |true=>
       have e:Go.Sort.pdq lt d a b li true true=d3:=by rw [z06 lt d true true (by omega) hl0];simp [hcc,hd2,hpe]
       rw [e]
       simp only [go_sem,lp129_0,hw,q12,ql,hpv,hrv,hb1,hpa,hpb,hpi]
       exact ⟨hz3,_,fun h0=>(h0.snoc _ _),rfl⟩
      |false=>
       have e:Go.Sort.pdq lt d a b li true true=pdqT lt d3 a b (b-1-(pv-a)) li true true:=by rw [z06 lt d true true (by omega) hl0];simp [hcc,hd2,hpe]
       rw [e]
       simp only [go_sem,lp129_0,hw,q12,ql,hpv,hrv,hb1,hpa,hpb,hpi]
       refine zc3 S0 T l hl n hn ag k hk caps c lt hlt hc N ih _ _ a b li (b-1-(pv-a)) true true d3 hz3 (by omega) h2 hN (by omega) (by omega) (by omega) (by simp only [go_sem]) (by simp only [go_sem]) (by simp only [go_sem]) (by simp only [go_sem]) (by simp only [go_sem]) (by simp only [go_sem]) (by simp only [go_sem]) (by simp only [go_sem]) (by simp only [go_sem]) _ _ (fun en2 a2 b2 wb2 wp2 d9 X9 he gx g1 g2 g3 g4 g5=> ?_)
       obtain ⟨f0,f1,f2,f3,f4,f10,f11⟩:=he
       refine ⟨(a2,b2,li,wb2,wp2,d9,X9),by simp only [go_sem,f0,f1,f2,f3,f4,f10,f11],?_,?_,fun x en s hq=> ?_⟩
       ·dsimp only;exact ⟨g1,g2,g4,by omega,by omega⟩
       ·dsimp only;exact g3
       ·dsimp only at hq
        rw [g5]
        obtain ⟨hq1,hq2,X8,hx8,hq3⟩:=hq
        exact ⟨hq1,hq2,X8,fun h0=>hx8 (gx (h0.snoc _ _)),hq3⟩
end
theorem pdqs (S0:List (List AV))(T:List Nat)(l:Nat)(hl:l<S0.length)(n:Nat)(hn:n≤1000)(ag:Bool)(k:Nat)(hk:pure k=true)(caps:List AV)(c:Fin 256→Fin 256→Int)(lt:Fin 256→Fin 256→Bool)(hlt: ∀x y,lt x y=decide (c x y<0))(hc: ∀x y X E,run L k (fS x::fS y::caps) ⟨put S0 l X E,T⟩=some (I (c x y),⟨put S0 l X E,T⟩))(hn2:n<256): ∀(N a b li:Nat) (d:Array (Fin 256)) (X0:List (List AV)),a≤b→b≤n→d.size=n→li<1000→b-a<N→(Go.Sort.pdq lt d a b li true true).size=n∧∃X1,(PL X0→PL X1)∧run L 129 [.rsl l 0 n n 1 ag,J a,J b,J li,.fn (.func k) [] caps] ⟨put S0 l (Dm gS d) X0,T⟩=some (.tup [],⟨put S0 l (Dm gS (Go.Sort.pdq lt d a b li true true)) X1,T⟩)
 |0,_,_,_,_,_,_,_,_,_,h=>by omega
 |N+1,a,b,li,d,X0,h1,h2,hsz,hli,hN=>by
  have ih:=pdqs S0 T l hl n hn ag k hk caps c lt hlt hc hn2 N
  rw [zc (fn:=ir129) rfl rfl]
  simp only [ir129,go_sem]
  generalize hg:lim (headed pure (run L) false _ lp129_0 _ _) _ _=o
  obtain ⟨x,en,s,rfl,h2⟩: ∃x en s,o=some (x,en,s)∧_:=by rw [←hg];exact pdq0s S0 T l hl n hn ag k hk caps c lt hlt hc hn2 N ih _ _ a b li true true d X0 ⟨h1,h2,hsz,hli,by omega⟩ _ _ (by simp only [go_sem]<;>rfl)
  clear hg
  obtain ⟨rfl,hz,X1,hX1,rfl⟩:=h2
  refine ⟨hz,X1,hX1,?_⟩
  simp only [go_sem]
section
variable (S0:List (List AV)) (T:List Nat) (l:Nat) (hl:l<S0.length) (n:Nat) (hn:n≤1000) (ag:Bool) (k:Nat) (hk:pure k=true) (caps:List AV) (c:Fin 256→Fin 256→Int) (lt:Fin 256→Fin 256→Bool) (hlt: ∀x y,lt x y=decide (c x y<0)) (hc: ∀x y X E,run L k (fS x::fS y::caps) ⟨put S0 l X E,T⟩=some (I (c x y),⟨put S0 l X E,T⟩))
include S0 T l hl n hn ag k hk caps c lt hlt hc
theorem sorts (hn2:n<256)(d:Array (Fin 256))(hsz:d.size=n)(X0:List (List AV)):
  ∃X1,(PL X0→PL X1)∧run L 80 [.rsl l 0 n n 1 ag,.fn (.func k) [] caps] ⟨put S0 l (Dm gS d) X0,T⟩=some (.tup [],⟨put S0 l (Dm gS (Go.Sort.sort lt d)) X1,T⟩):=by
 rw [zc (fn:=ir80) rfl rfl]
 have hcv:=zeb n (by omega)
 have h115:=fun st=>c115 n hn2 st
 have hbl:Go.Sort.bitsLen n<1000:=by
  have:=(Go.Sort.bitsLen_le_iff n 8).2 (by omega)
  omega
 obtain ⟨hz,X1,hX1,h⟩:=pdqs S0 T l hl n hn ag k hk caps c lt hlt hc hn2 (n+1) 0 n (Go.Sort.bitsLen n) d X0 (by omega) (by omega) hsz hbl (by omega)
 refine ⟨X1,hX1,?_⟩
 have e:Go.Sort.sort lt d=Go.Sort.pdq lt d 0 n (Go.Sort.bitsLen n) true true:=by unfold Go.Sort.sort;rw [hsz]
 rw [e]
 have h:run L 129 [.rsl l 0 n n 1 ag,I 0,J n,J (Go.Sort.bitsLen n),.fn (.func k) [] caps] ⟨put S0 l (Dm gS d) X0,T⟩=_:=h
 simp only [ir80,go_sem,hcv,h115,h]
end
attribute [local go_sem] m_ x_ l_ k_ o_ t_ a_ s_ q_ b_ c_ u_ g_ zg zk zj za zi
theorem zfe {a b:Nat} (ha:a<512)(hb:b<512)(h:memb a=memb b):a=b:=by
 apply Nat.eq_of_testBit_eq;intro i
 have h1:=z21 ha (i:Int)
 have h2:=z21 hb (i:Int)
 rw [h] at h1
 have h3:(∃j:Nat,(i:Int)=j∧a.testBit j=true)↔(∃j:Nat,(i:Int)=j∧b.testBit j=true):=h1.symm.trans h2
 cases ha':a.testBit i
 ·cases hb':b.testBit i
  ·rfl
  ·obtain ⟨j,hj,hj2⟩:=h3.2 ⟨i,rfl,hb'⟩
   have:i=j:=by omega
   subst this
   rw [ha'] at hj2;cases hj2
 ·obtain ⟨j,hj,hj2⟩:=h3.1 ⟨i,rfl,ha'⟩
  have:i=j:=by omega
  subst this
  exact hj2.symm
theorem zh2 {α:Type} (f:α→List Int):Go.Sort.SWO (fun x y=>lexLt (f x) (f y)) where
 irrefl x:=z7w _
 trans x y z:=z6x _ _ _
 ntrans x y z h1 h2:=zk8 h2 h1
def sortA {α:Type} [Inhabited α] (lt:α→α→Bool) (l:List α):List α:=(Go.Sort.sort lt l.toArray).toList
theorem zfx {α:Type} [Inhabited α] {lt:α→α→Bool} (h:Go.Sort.SWO lt)(l:List α):(sortA lt l).Perm l:=by
 have h1:=(Go.Sort.sort_sorts lt h l.toArray).1
 have h2:=h1.2.2
 have hs:(Go.Sort.sort lt l.toArray).size=l.toArray.size:=h1.1
 rw [Go.Sort.extract_toList _ _ _ (by rw [hs];exact Nat.le_refl _),Go.Sort.extract_toList _ _ _ (Nat.le_refl _)] at h2
 have key: ∀(d:Array α),(List.range' 0 (d.size-0)).map (fun i=>d[i]!)=d.toList:=by
  intro d
  apply List.ext_getElem
  ·simp
  ·intro i h1 h2
   simp at h1 h2⊢
   exact getElem!_pos d i h2
 have e1:=key (Go.Sort.sort lt l.toArray)
 rw [hs] at e1
 rw [e1,key] at h2
 exact h2
theorem zd7 {α:Type} [Inhabited α] {lt:α→α→Bool} (h:Go.Sort.SWO lt)(l:List α):(sortA lt l).Pairwise (fun x y=>lt y x=false):=by
 have h1:=Go.Sort.sort_sorts lt h l.toArray
 have hs:(Go.Sort.sort lt l.toArray).size=l.toArray.size:=h1.1.1
 rw [List.pairwise_iff_getElem]
 intro i j hi hj hij
 unfold sortA at hi hj⊢
 simp only [Array.length_toList] at hi hj
 have:=h1.2 i j (Nat.zero_le _) hij (by rw [←hs];exact hj)
 rw [getElem!_pos _ i hi,getElem!_pos _ j hj] at this
 simpa using this
theorem z9h {α:Type} {R:α→α→Prop} (hR: ∀x y,R x y→R y x→x=y): ∀(l m:List α),l.Perm m→l.Pairwise R→m.Pairwise R→l=m
 | [],m,h,_,_=>(List.Perm.nil_eq h)
 |x::l,m,h,h1,h2=>by
  cases m with
  |nil=>exact absurd h.length_eq (by simp)
  |cons y m=>
   have hx:x∈y::m:=h.mem_iff.1 (by simp)
   have hy:y∈x::l:=h.mem_iff.2 (by simp)
   rw [List.pairwise_cons] at h1 h2
   have e:x=y:=by
    rw [List.mem_cons] at hx hy
    rcases hx with e|hx
    ·exact e
    ·rcases hy with e|hy
     ·exact e.symm
     ·exact hR _ _ (h1.1 y hy) (h2.1 x hx)
   subst e
   rw [z9h hR l m (List.Perm.cons_inv h) h1.2 h2.2]
def lt8 (x y:Fin 256):Bool:=lexLt (memb x.val) (memb y.val)
def fin8 (ss:List Nat):List (Fin 256):=ss.map fun x=>⟨x % 256,Nat.mod_lt _ (by decide)⟩
theorem zfm {ss:List Nat} (h: ∀s∈ss,s<256):(fin8 ss).map (fun x=>x.val)=ss:=by
 unfold fin8
 rw [List.map_map]
 conv=>rhs;rw [←List.map_id ss]
 apply List.map_congr_left
 intro x hx
 exact Nat.mod_eq_of_lt (h x hx)
def srt (ss:List Nat):List Nat:=(sortA lt8 (fin8 ss)).map (fun x=>x.val)
theorem zk7 (ss:List Nat): ∀s∈srt ss,s<256:=by
 intro s hs
 unfold srt at hs
 rw [List.mem_map] at hs
 obtain ⟨x,_,rfl⟩:=hs
 exact x.isLt
theorem z8l {ss:List Nat} (h: ∀s∈ss,s<256):(srt ss).Perm ss:=by
 have:=(zfx (zh2 (fun x:Fin 256=>memb x.val)) (fin8 ss)).map (fun x=>x.val)
 rw [zfm h] at this
 exact this
def LexLe (a b:Nat):Prop:=lexLt (memb b) (memb a)=false
theorem LexLe.anti {a b:Nat} (ha:a<512)(hb:b<512)(h1:LexLe a b)(h2:LexLe b a):a=b:=zfe ha hb (z9r _ _ h2 h1)
theorem zfw (ss:List Nat):(srt ss).Pairwise LexLe:=by
 unfold srt
 rw [List.pairwise_map]
 exact zd7 (zh2 (fun x:Fin 256=>memb x.val)) (fin8 ss)
theorem zh3 {ss:List Nat} (h: ∀s∈ss,s<256):(srt ss).length=ss.length:=(z8l h).length_eq
theorem ziy {ss ts:List Nat} (h: ∀s∈ss,s<256)(hp:ts.Perm ss)(hs:ts.Pairwise LexLe):ts=srt ss:=by
 have h2: ∀s∈ts,s<256:=fun s hs=>h s (hp.mem_iff.1 hs)
 have key: ∀(l m:List Nat),(∀s∈l,s<256)→(∀s∈m,s<256)→l.Perm m→l.Pairwise LexLe→m.Pairwise LexLe→l=m:=by
  intro l m hl hm hpm h1 h2
  refine z9h (R:=fun a b=>a<256∧b<256∧LexLe a b) (fun x y hx hy=>hx.2.2.anti (by omega) (by omega) hy.2.2) l m hpm ?_ ?_
  ·exact h1.imp_of_mem (fun ha hb hab=>⟨hl _ ha,hl _ hb,hab⟩)
  ·exact h2.imp_of_mem (fun ha hb hab=>⟨hm _ ha,hm _ hb,hab⟩)
 exact key _ _ h2 (zk7 ss) (hp.trans (z8l h).symm) hs (zfw ss)
theorem c81 (a b:Nat)(ha:a<256)(hb:b<256)(st:St):run L 81 [E8 a,E8 b] st=some (I (cmpN (memb a) (memb b)),st):=by
 rw [run_pure (fn:=ir81) rfl rfl]
 have h1:=fun st=>c94 a ha st
 have h2:=fun st=>c94 b hb st
 have hm:=z0s a
 have h3: ∀st,run L 42 [tAV (memb a),tAV (memb b)] st=some (I (cmpN (memb a) (memb b)),st):=fun st=>c42 true true (memb a) (memb b) (by omega) st
 simp only [ir81,go_sem,h1,h2,h3]
attribute [local go_sem] m_ x_ l_ k_ o_ t_ a_ s_ q_ b_ c_ u_ g_ zr zd zl zu z28 z25 zg zk zj za zi z2o
theorem PL_ok {X:List (List AV)} (h:PL X)(n:Nat):okStore n X=true:=by
 induction X with
 |nil=>rfl
 |cons B r ih=>
  obtain ⟨k,i,rfl⟩:=h B (by simp)
  simp only [okStore,ih (fun C hC=>h C (by simp [hC])),okRefs,okRef,Bool.and_self]
theorem zkd {X:List (List AV)} (h:PL X)(n:Nat)(T:List Nat)(acc:List (Nat×Nat)):renStore n T acc X=(X,acc):=by
 induction X generalizing acc with
 |nil=>rfl
 |cons B r ih=>
  obtain ⟨k,i,rfl⟩:=h B (by simp)
  simp only [renStore,renCells,ren1,ih (fun C hC=>h C (by simp [hC]))]
theorem ziq {α:Type} (X:List α)(c:α):(X++ [c])[X.length]? =some c:=by simp
theorem zf3 {α:Type} (X:List α)(c d:α):(X++ [c]).set X.length d=X++ [d]:=by simp
theorem zh1 {α:Type} (X:List α)(c:α):(X++ [c]).take X.length=X:=by simp
abbrev cmpS:AV:=.fn (.func 81) [] []
theorem zln {ss:List Nat} (h: ∀s∈ss,s<256):Dm gS (fin8 ss).toArray=ss.map u8:=by
 unfold Dm
 show (fin8 ss).map (fun x=>u8 x.val)=ss.map u8
 rw [show (fun x:Fin 256=>u8 x.val)=u8∘(fun x:Fin 256=>x.val) from rfl,←List.map_map,zfm h]
theorem Dm_srt (ss:List Nat):Dm gS (Go.Sort.sort lt8 (fin8 ss).toArray)=(srt ss).map u8:=by
 unfold Dm srt sortA
 rw [List.map_map];rfl
theorem c80 (S0:List (List AV))(T:List Nat)(l:Nat)(hl:l<S0.length)(ag:Bool)(ss:List Nat)(h: ∀s∈ss,s<256)(hn:ss.length<256):
  ∃X1,PL X1∧run L 80 [.rsl l 0 ss.length ss.length 1 ag,cmpS] ⟨S0.set l (ss.map u8),T⟩=some (.tup [],⟨S0.set l ((srt ss).map u8)++X1,T⟩):=by
 obtain ⟨X1,h1,h2⟩:=sorts S0 T l hl ss.length (by omega) ag 81 rfl [] (fun x y=>cmpN (memb x.val) (memb y.val)) lt8 (fun x y=>(zil _ _).symm)
  (fun x y X E=>c81 x.val y.val x.isLt y.isLt _) hn (fin8 ss).toArray (by simp [fin8]) []
 rw [zln h,Dm_srt] at h2
 unfold put at h2
 rw [List.append_nil] at h2
 exact ⟨X1,h1 PL.nil,h2⟩
theorem ins1n (st0:St)(lo hi:Nat)(i:Nat)(hok:True)(env:Env)(st:St)
  (hg:gcAV false lo hi (canon env [0,1,2,3,8]) st=([(0,.v (.slice none 0 0)),(1,I 0),(2,I 0),(3,cmpS),(8,J i)],st0)):
  ∃x_1 en s,lim (headed pure (run L) false [0,1,2,3,8] lp161_1 lo hi) env st=some (x_1,en,s)∧(x_1=.exit 0∧s=st0):=by
 refine zb (α:=Nat) (fun i=>0) (fun i=>True) (fun i=>([(0,.v (.slice none 0 0)),(1,I 0),(2,I 0),(3,cmpS),(8,J i)],st0)) (fun i x_1 en s=>x_1=.exit 0∧s=st0) (fun i hok=> ?_) i hok env st hg
 have hlt:((i:Int)<0)=False:=eF (by omega)
 simp only [go_sem,lp161_1,hlt]
theorem c161n (st:St):run L 161 [.v (.slice none 0 0),I 0,I 0,cmpS] st=some (.tup [],st):=by
 rw [zc (fn:=ir161) rfl rfl]
 have h1:IntKind.i64.wrap 1=1:=by decide
 simp only [ir161,go_sem,h1]
 generalize hg:lim (headed pure (run L) false _ lp161_1 _ _) _ _=o
 obtain ⟨x,en,s,rfl,h2⟩: ∃x en s,o=some (x,en,s)∧_:=by rw [←hg];exact ins1n st _ _ 1 trivial _ _ (by simp only [go_sem,show I 1=J 1 from rfl]<;>rfl)
 clear hg
 obtain ⟨rfl,rfl⟩:=h2
 simp only [go_sem]
theorem pdqn (st0:St)(lo hi:Nat)(i:Nat)(hok:True)(env:Env)(st:St)
  (hg:gcAV false lo hi (canon env [0,1,2,3,4,10,11]) st=([(0,.v (.slice none 0 0)),(1,I 0),(2,I 0),(3,J i),(4,cmpS),(10,B true),(11,B true)],st0)):
  ∃x_1 en s,lim (headed pure (run L) false [0,1,2,3,4,10,11] lp129_0 lo hi) env st=some (x_1,en,s)∧(x_1=.ret∧s=st0):=by
 refine zb (α:=Nat) (fun i=>0) (fun i=>True) (fun i=>([(0,.v (.slice none 0 0)),(1,I 0),(2,I 0),(3,J i),(4,cmpS),(10,B true),(11,B true)],st0)) (fun i x_1 en s=>x_1=.ret∧s=st0) (fun i hok=> ?_) i hok env st hg
 have h1:IntKind.i64.wrap 0=0:=by decide
 have h2:((0:Int)≤12)=True:=eT (by omega)
 simp only [go_sem,lp129_0,h1,h2,c161n]
theorem c80n (st:St):run L 80 [.v (.slice none 0 0),cmpS] st=some (.tup [],st):=by
 have h129: ∀i:Nat,run L 129 [.v (.slice none 0 0),I 0,I 0,J i,cmpS] st=some (.tup [],st):=by
  intro i
  rw [zc (fn:=ir129) rfl rfl]
  simp only [ir129,go_sem]
  generalize hg:lim (headed pure (run L) false _ lp129_0 _ _) _ _=o
  obtain ⟨x,en,s,rfl,h2⟩: ∃x en s,o=some (x,en,s)∧_:=by rw [←hg];exact pdqn st _ _ i trivial _ _ (by simp only [go_sem]<;>rfl)
  clear hg
  obtain ⟨rfl,rfl⟩:=h2
  simp only [go_sem]
 rw [zc (fn:=ir80) rfl rfl]
 have h115: ∀st,run L 115 [.v (.int .u64 0)] st=some (J (Go.Sort.bitsLen 0),st):=fun st=>c115 0 (by omega) st
 have hcv:IntKind.u64.wrap 0=0:=by decide
 simp only [ir80,go_sem,hcv,h115,h129]
theorem zki:srt []=[]:=List.Perm.eq_nil (z8l (by simp))
attribute [local go_sem] m_ x_ l_ k_ o_ t_ a_ s_ q_ b_ c_ u_ g_ zr zd zl zu z28 z25 zg zk zj za zi z2o
theorem u8s_E (ss:List Nat):u8s (ss.map E8)=some (ss.map fun (s:Nat)=>(s:Int)):=by
 induction ss with
 |nil=>rfl
 |cons s r ih=>simp only [List.map_cons,u8s,ih,Option.map_some]
theorem zio (nl:Bool)(ss:List Nat)(hk:ss.length≤1000)(st:St):bytesOf st (sl 1 nl (ss.map E8))=some (ss.map fun (s:Nat)=>(s:Int)):=by
 unfold bytesOf
 rw [z5p]
 simp only [Option.bind_some,u8s_E,lm_,if_pos hk]
theorem c130 (x:AV)(ss:List Nat)(hx: ∀st,bytesOf st x=some (ss.map fun (s:Nat)=>(s:Int)))(h: ∀s∈ss,s<256)(hk:ss.length<256):
  (ss=[]→run L 130 [.fn (.func 170) [] [.ptr 0 0],cmpS] ⟨[[x]],[]⟩=some (.v (.slice none 0 0),⟨[[x]],[]⟩))∧
  (ss≠[]→∃X1,PL X1∧run L 130 [.fn (.func 170) [] [.ptr 0 0],cmpS] ⟨[[x]],[]⟩=some (.rsl 1 0 ss.length ss.length 1 true,⟨[[x],(srt ss).map u8]++X1,[]⟩)):=by
 rw [zc (fn:=ir130) rfl rfl]
 have hb:=hx ⟨[[x]],[]⟩
 have h169: ∀r st',primSeq 192 170 192 [.v (.slice none 0 0),.fn (.func 170) [] [.ptr 0 0]] ⟨[[x]],[]⟩=some (r,st')→1≤st'.store.length→
   run L 192 [.v (.slice none 0 0),.fn (.func 170) [] [.ptr 0 0]] ⟨[[x]],[]⟩=some (r,st'):=by
  intro r st' hp h1
  exact zj1 rfl rfl hp h1 (Nat.zero_le _)
 refine ⟨fun he=> ?_,fun he=> ?_⟩
 ·rw [he,List.map_nil] at hb
  have h192:=h169 (.v (.slice none 0 0)) ⟨[[x]],[]⟩ (by
   simp only [primSeq,if_true,List.getElem?_cons_zero,hb]) (by simp)
  have h169:run L 169 [.fn (.func 170) [] [.ptr 0 0]] ⟨[[x]],[]⟩=some (.v (.slice none 0 0),⟨[[x]],[]⟩):=by
   rw [zc (fn:=ir169) rfl rfl]
   simp only [ir169,go_sem,h192,show pure 192=false from rfl]
  simp only [ir130,go_sem,h169,c80n]
 ·obtain ⟨z,zs,rfl⟩: ∃z zs,ss=z::zs:=by cases ss with|nil=>exact absurd rfl he|cons z zs=>exact ⟨z,zs,rfl⟩
  generalize hss:z::zs=ss at*
  have h192:=h169 (.rsl 1 0 ss.length ss.length 1 true) ⟨[[x],ss.map u8],[]⟩ (by
   have e:(ss.map fun (s:Nat)=>(s:Int))=(z:Int)::zs.map fun (s:Nat)=>(s:Int):=by rw [←hss];rfl
   rw [e] at hb
   simp only [primSeq,if_true,List.getElem?_cons_zero,hb]
   have e1:((z:Int)::zs.map fun (s:Nat)=>(s:Int)).length=ss.length:=by rw [←hss];simp
   have e2:(((z:Int)::zs.map fun (s:Nat)=>(s:Int)).map fun z=>AV.v (.int .u8 z))=ss.map u8:=by rw [←hss];simp
   rw [e1,e2];rfl) (by simp)
  have h169:run L 169 [.fn (.func 170) [] [.ptr 0 0]] ⟨[[x]],[]⟩=some (.rsl 1 0 ss.length ss.length 1 true,⟨[[x],ss.map u8],[]⟩):=by
   rw [zc (fn:=ir169) rfl rfl]
   simp only [ir169,go_sem,h192,show pure 192=false from rfl]
  obtain ⟨X1,hX1,h80⟩:=c80 [[x],ss.map u8] [] 1 (by simp) true ss h hk
  have h80:run L 80 [.rsl 1 0 ss.length ss.length 1 true,cmpS] ⟨[[x],ss.map u8],[]⟩=some (.tup [],⟨[[x],(srt ss).map u8]++X1,[]⟩):=h80
  refine ⟨X1,hX1,?_⟩
  simp only [ir130,go_sem,h169,h80]
theorem loop84 (C:List AV)(hC1: ∀n,okRefs n C=true)(hC2: ∀n T acc,renCells n T acc C=(C,acc))(X1:List (List AV))(hX:PL X1)(ss:List Nat)(h256: ∀s∈ss,s<256)(hk:ss.length<256)(i:Nat)(o:List Nat)(hok:i≤ss.length∧o.length≤i)(env:Env)(st:St)
  (hg:gcAV true (X1.length+1+1) 0 (canon env [3,8,9,10]) st=([(3,oA (o.map tM)),(8,.rsl 1 0 ss.length ss.length 1 true),(9,J ss.length),(10,J i)],⟨C::ss.map u8::X1,oT (o.map tM)⟩)):
  ∃x_1 en s,lim (headed pure (run L) true [3,8,9,10] lp84_0 (X1.length+1+1) 0) env st=some (x_1,en,s)∧(x_1=.exit 0∧en.get 3=oA ((o++ss.drop i).map tM)):=by
 refine zb (α:=Nat×List Nat) (fun ⟨i,o⟩=>ss.length-i) (fun ⟨i,o⟩=>i≤ss.length∧o.length≤i) (fun ⟨i,o⟩=>([(3,oA (o.map tM)),(8,.rsl 1 0 ss.length ss.length 1 true),(9,J ss.length),(10,J i)],⟨C::ss.map u8::X1,oT (o.map tM)⟩)) (fun ⟨i,o⟩ x_1 en s=>x_1=.exit 0∧en.get 3=oA ((o++ss.drop i).map tM)) (fun ⟨i,o⟩ hok=> ?_) ⟨i,o⟩ hok env st hg
 simp only at hok
 obtain ⟨h1,h2⟩:=hok
 dsimp only at h1 h2⊢
 by_cases h:i<ss.length
 ·have hs:=zh i (by omega)
  have hlt:((i:Int)<(ss.length:Int))=True:=eT (by omega)
  have hd:ss.drop i=ss.getD i 0::ss.drop (i+1):=by
   rw [List.drop_eq_getElem_cons h];simp [List.getD_eq_getElem?_getD,h]
  have hb:ss.getD i 0<256:=by
   rw [List.getD_eq_getElem?_getD,List.getElem?_eq_getElem h];exact h256 _ (List.getElem_mem h)
  have hg:=slice8 ss i h
  have hil:(i+1≤ss.length)=True:=eT (by omega)
  have hin:((i:Int).toNat<ss.length)=True:=eT (by omega)
  rw [hd]
  generalize ss.getD i 0=v at*
  have h94:=fun st=>c94 v hb st
  have happ:=fun S=>zd2 (o.map tM) (tM v) S (by rw [lm_];omega)
  have g1:=ziq X1 [u8 v]
  have g2:=zf3 X1 [u8 v] [u8 v]
  have g0:=ziq X1 [u8 0]
  have g3:=zf3 X1 [u8 0] [u8 v]
  have g4:=zh1 X1 [u8 v]
  have hl1:(1<X1.length+1+1)=True:=eT (by omega)
  simp only [go_sem,lp84_0,hlt,hs,hil,hin,hg,h94,happ,g0,g1,g2,g3,nn_,lm_,show AV.v (.int .u8 0)=u8 0 from rfl]
  refine ⟨(i+1,o++ [v]),by simp only [go_sem,z3,z5,z8,zf5,z8o,List.map_append,hC1,hC2,z15,zy,PL_ok hX,zkd hX,g4,hl1]<;>rfl,?_,?_,fun x en s hq=> ?_⟩
  ·dsimp only;exact ⟨by omega,by rw [List.length_append,List.length_singleton];omega⟩
  ·dsimp only;omega
  ·simp only [List.append_assoc,List.singleton_append] at hq;exact hq
 ·have hd:ss.drop i=[]:=List.drop_eq_nil_of_le (by omega)
  have hlt:((i:Int)<(ss.length:Int))=False:=eF (by omega)
  rw [hd,List.append_nil]
  simp only [go_sem,lp84_0,hlt]
theorem zl2 (C:List AV)(hC1: ∀n,okRefs n C=true)(hC2: ∀n T acc,renCells n T acc C=(C,acc))(i:Nat)(hok:i=0)(env:Env)(st:St)
  (hg:gcAV true 1 0 (canon env [3,8,9,10]) st=([(3,.v (.slice none 0 0)),(8,.v (.slice none 0 0)),(9,I 0),(10,J i)],⟨[C],[]⟩)):
  ∃x_1 en s,lim (headed pure (run L) true [3,8,9,10] lp84_0 1 0) env st=some (x_1,en,s)∧(x_1=.exit 0∧en.get 3=.v (.slice none 0 0)):=by
 refine zb (α:=Nat) (fun i=>i) (fun i=>i=0) (fun i=>([(3,.v (.slice none 0 0)),(8,.v (.slice none 0 0)),(9,I 0),(10,J i)],⟨[C],[]⟩)) (fun i x_1 en s=>x_1=.exit 0∧en.get 3=.v (.slice none 0 0)) (fun i hok=> ?_) i hok env st hg
 subst hok
 have hlt:(((0:Nat):Int)<0)=False:=eF (by omega)
 simp only [go_sem,lp84_0,hlt]
theorem c84 (nl:Bool)(ss:List Nat)(h: ∀s∈ss,s<256)(hk:ss.length<256)(st:St):run L 84 [sl 1 nl (ss.map E8)] st=some (sl 1 true ((srt ss).map tM),st):=by
 rw [run_pure (fn:=ir84) rfl rfl]
 have h131:run L 131 [sl 1 nl (ss.map E8)] ⟨[],[]⟩=some (.fn (.func 170) [] [.ptr 0 0],⟨[[sl 1 nl (ss.map E8)]],[]⟩):=by
  rw [zc (fn:=ir131) rfl rfl]
  simp only [ir131,go_sem]
 have h130:=c130 (sl 1 nl (ss.map E8)) ss (fun st=>zio nl ss (by omega) st) h hk
 have hp:pub (sl 1 nl (ss.map E8))=sl 1 nl (ss.map E8):=z8b _ _ _
 have ho: ∀n,okRef n (sl 1 nl (ss.map E8))=true:=fun n=>z5d _ _ _ _
 have hr: ∀n T acc,ren1 n T acc (sl 1 nl (ss.map E8))=(sl 1 nl (ss.map E8),acc):=fun n T acc=>z7t _ _ _ _ _ _
 generalize sl 1 nl (ss.map E8)=x at*
 have hC1: ∀n,okRefs n [x]=true:=fun n=>by simp only [okRefs,ho,Bool.and_self]
 have hC2: ∀n T acc,renCells n T acc [x]=([x],acc):=fun n T acc=>by simp only [renCells,hr]
 by_cases he:ss=[]
 ·have h130:=h130.1 he
  have hz:srt ss=[]:=by rw [he,zki]
  rw [hz]
  simp only [ir84,go_sem,hp,h131,h130]
  generalize hg:lim (headed pure (run L) true _ lp84_0 _ _) _ _=o
  obtain ⟨x,en,s,rfl,h2⟩: ∃x en s,o=some (x,en,s)∧_:=by rw [←hg];exact zl2 [x] hC1 hC2 0 rfl _ _ (by simp only [go_sem,ho,hr,Int.natCast_zero]<;>rfl)
  clear hg
  obtain ⟨rfl,e3⟩:=h2
  simp only [go_sem,e3]
  rfl
 ·obtain ⟨X1,hX1,h130⟩:=h130.2 he
  have hsl:=zh3 h
  have hl1:(1<X1.length+1+1)=True:=eT (by omega)
  simp only [ir84,go_sem,hp,h131,h130]
  rw [←hsl]
  generalize hg:lim (headed pure (run L) true _ lp84_0 _ _) _ _=o
  obtain ⟨x,en,s,rfl,h2⟩: ∃x en s,o=some (x,en,s)∧_:=by rw [←hg];exact loop84 [x] hC1 hC2 X1 hX1 (srt ss) (zk7 ss) (by omega) 0 [] ⟨by omega,by simp⟩ _ _ (by simp only [go_sem,ho,hr,z15,zy,PL_ok hX1,zkd hX1,hl1,Int.natCast_zero,List.map_nil,←zek,zhp,List.take_length]<;>rfl)
  clear hg
  rw [List.drop_zero] at h2
  obtain ⟨rfl,e3⟩:=h2
  simp only [go_sem,e3]
attribute [local go_sem] m_ x_ l_ k_ o_ t_ a_ s_ q_ b_ c_ u_ g_ zr zd zl zu z28 z25 zg zk zj za zi z2o
structure Calm (A:List (List AV)):Prop where
 ok: ∀n,okStore n A=true
 ren: ∀n T acc,renStore n T acc A=(A,acc)
theorem Calm.cons {A:List (List AV)} (h:Calm A) {C:List AV} (hC1: ∀n,okRefs n C=true)(hC2: ∀n T acc,renCells n T acc C=(C,acc)):Calm (C::A):=
 ⟨fun n=>by simp only [okStore,hC1,h.ok,Bool.and_self],fun n T acc=>by simp only [renStore,hC2,h.ren]⟩
def isP (l:Nat):AV→Bool
 | .ptr l' _=>l'==l
 |_=>false
def notP (l:Nat):AV→Bool
 | .ptr l' _=>l' !=l
 |_=>true
theorem onB1 (env:Env)(t:Tmp)(l o:Nat):onB env [t] (.ptr l o)=isP l (env.get t):=by
 show ([t].any fun t=>match env.get t with| .ptr l' _=>l'==l|_=>false)=_
 rw [List.any_cons,List.any_nil,Bool.or_false];rfl
theorem zga (env:Env)(ts:List Tmp)(e:AV)(o:Nat):onB env ts (.eptr e o)=true:=rfl
theorem zgd (env:Env)(t:Tmp)(l o:Nat):offB env [t] (.ptr l o)=notP l (env.get t):=by
 show ([t].all fun t=>match env.get t with| .ptr l' _=>l' !=l|_=>true)=_
 rw [List.all_cons,List.all_nil,Bool.and_true];rfl
theorem z7y (l l' o:Nat):isP l (.ptr l' o)=(l'==l):=rfl
theorem z5e (l l' o:Nat):notP l (.ptr l' o)=(l' !=l):=rfl
attribute [local go_sem] m_ x_ l_ k_ o_ t_ a_ s_ q_ b_ c_ u_ g_ zr zd zl zu z28 z25 zg zk zj za zi z2o
theorem z5f (l:Nat):notP l .any=true:=rfl
theorem c47 (n:Nat)(h2:2≤n)(hn:n≤8)(nl:Bool)(X:List Nat)(hX: ∀v∈X,v<2^n∧v≠0∧v≠2^n-1)(hnd:(X.map (smlN n)).Nodup)(hl:X.length≤13)(st:St):run L 47 [J n,sl 1 nl (X.map tM)] st=some (I 0,st):=by
 rw [run_pure (fn:=ir47) rfl rfl]
 have h70:=c70 n h2 hn nl X hX hnd (by omega)
 generalize X.map (smlN n)=ss at*
 by_cases he:ss=[]
 ·subst he
  rw [show kA []=.v (.slice none 0 0) from rfl,show kS []=[] from rfl] at h70
  simp only [ir47,go_sem,h70,show pure 70=false from rfl,shStore,shV,shVs]
 ·rw [zeo he,zen he] at h70
  have hsv:=zb0 0 ss
  simp only [ir47,go_sem,h70,show pure 70=false from rfl,shStore,shV,shVs,hsv]
theorem zka {a b cs:List AV} (hne:cs≠[])(T:List Nat)(env:Env):
  frzL 2 env ⟨[a,b,cs],T⟩=(frzEnv 2 cs env,⟨[frzVs 2 cs a,frzVs 2 cs b,[]],T⟩):=by
 cases cs with
 |nil=>exact absurd rfl hne
 |cons x r=>rfl
theorem zib (l:Nat)(X:List Nat)(h:X≠[]):frzV l (X.map u8) (.rsl l 0 X.length X.length 1 true)=sl 1 true (X.map E8):=by
 simp only [frzV,lm_,List.drop_zero]
 rw [if_pos ⟨trivial,by omega,.inl trivial,Nat.le_refl _⟩,pubs8,zi4,zas (by simpa using h)]
theorem frzEnv_get (l:Nat)(cs:List AV)(env:Env)(t:Tmp):(frzEnv l cs env).get t=frzV l cs (env.get t):=by
 induction env with
 |nil=>simp [frzEnv,Env.get,frzV]
 |cons x r ih=>
  obtain ⟨u,a⟩:=x
  simp only [frzEnv,Env.get]
  split
  ·rfl
  ·exact ih
theorem c89 (n:Nat)(h2:2≤n)(hn:n≤8)(nl:Bool)(X:List Nat)(hX: ∀v∈X,v<2^n∧v≠0∧v≠2^n-1)(hnd:(X.map (smlN n)).Nodup)(hl:X.length≤13)(i j:Nat)(hi:i<X.length)(hj:j<X.length)(st:St):
  run L 89 [J n,sl 1 nl (X.map tM),J i,J j] st=some (.tup [E8 ((X.map (smlN n)).getD i 0),E8 ((X.map (smlN n)).getD j 0),I 0],st):=by
 rw [run_pure (fn:=ir89) rfl rfl]
 have h70:=c70 n h2 hn nl X hX hnd (by omega)
 have hsl:(X.map (smlN n)).length=X.length:=List.length_map ..
 rw [←hsl] at hi hj hl
 clear hsl hX hnd
 generalize X.map (smlN n)=ss at*
 have he:ss≠[]:=by intro e;subst e;simp at hi
 rw [zeo he,zen he] at h70
 have hsv:=zb0 2 ss
 have hfz:=fun T env=>zka (a:=[u8 0]) (b:=[u8 0]) (cs:=ss.map u8) (by simpa using he) T env
 have hfv:=zib 2 ss he
 have q1:(min (i:Int) (j:Int)<0)=False:=eF (by omega)
 have q2:((ss.length:Int)≤max (i:Int) (j:Int))=False:=eF (by omega)
 have hxi:=z23 E8 true ss i hi
 have hxj:=z23 E8 true ss j hj
 have hgi:ss.getD i 0=ss[i]:=by rw [List.getD_eq_getElem?_getD,List.getElem?_eq_getElem hi];rfl
 have hgj:ss.getD j 0=ss[j]:=by rw [List.getD_eq_getElem?_getD,List.getElem?_eq_getElem hj];rfl
 have hll:=z08 E8 true ss
 rw [hgi,hgj]
 generalize ss[i]=a at*
 generalize ss[j]=b at*
 simp only [ir89,go_sem,h70,show pure 70=false from rfl,shStore,shV,shVs,hsv,z3g,frzAV,frzT,frzLs,rslsOf,hfz,frzEnv,frzEnv_get,zfj,zcr,zep,zcs,zcq,frzVs,hfv,q1,q2,hll,hxi,hxj,onB1,zga,zgd,z7y,z5e,z5f,show AV.v (.int .u8 0)=u8 0 from rfl]
theorem loop23 (n1 n2:Bool)(xs ys:List (List Int))(hl:xs.length=ys.length)(hlen:xs.length<1000000)(hlx: ∀x∈xs,x.length<1000000)(i:Nat)(hok:i≤xs.length)(env:Env)(st:St)
  (hg:gcAV true 0 0 (canon env [0,1,5]) st=([(0,sl 1 n1 (xs.map tAV)),(1,sl 1 n2 (ys.map tAV)),(5,I i)],⟨[],[]⟩)):
  ∃x_1 en s,lim (headed pure (run L) true [0,1,5] lp23_0 0 0) env st=some (x_1,en,s)∧(if xs.drop i=ys.drop i then x_1=.exit 0 else x_1=.ret∧en.get 4=B false):=by
 refine zb (α:=Nat) (fun i=>xs.length-i) (fun i=>i≤xs.length) (fun i=>([(0,sl 1 n1 (xs.map tAV)),(1,sl 1 n2 (ys.map tAV)),(5,I i)],⟨[],[]⟩)) (fun i x_1 en s=>if xs.drop i=ys.drop i then x_1=.exit 0 else x_1=.ret∧en.get 4=B false) (fun i hok=> ?_) i hok env st hg
 by_cases h:i<xs.length
 ·have hx:=z23 tAV n1 xs i h
  have hy:=z23 tAV n2 ys i (by omega)
  have hs:=zh i (by omega)
  have hd:xs.drop i=xs[i]::xs.drop (i+1):=List.drop_eq_getElem_cons h
  have hd2:ys.drop i=ys[i]::ys.drop (i+1):=List.drop_eq_getElem_cons (by omega)
  have hlt:((i:Int)<(xs.length:Int))=True:=eT (by omega)
  have ha:=hlx xs[i] (List.getElem_mem h)
  rw [hd,hd2]
  generalize xs[i]=a at*
  generalize ys[i]'(by omega)=b at*
  have h22: ∀st,run L 22 [tAV a,tAV b] st=some (B (decide (a=b)),st):=fun st=>c22 true true a b ha st
  by_cases p:a=b
  ·rw [decide_eq_true p] at h22
   simp only [go_sem,lp23_0,hx,hy,hlt,h22,hs,lm_]
   refine ⟨i+1,by simp only [go_sem,z3,z5,z8]<;>rfl,?_,?_,fun x en s hq=> ?_⟩
   ·omega
   ·omega
   ·simp only [List.cons.injEq,p,true_and];exact hq
  ·rw [decide_eq_false p] at h22
   simp only [go_sem,lp23_0,hx,hy,hlt,h22,lm_]
   rw [if_neg (by simp [p])];trivial
 ·have hd:xs.drop i=[]:=List.drop_eq_nil_of_le (by omega)
  have hd2:ys.drop i=[]:=List.drop_eq_nil_of_le (by omega)
  have hlt:((i:Int)<(xs.length:Int))=False:=eF (by omega)
  simp only [go_sem,lp23_0,hlt,lm_]
  rw [hd,hd2];simp
theorem c23 (n1 n2:Bool)(xs ys:List (List Int))(hlen:xs.length<1000000)(hlx: ∀x∈xs,x.length<1000000)(st:St):run L 23 [sl 1 n1 (xs.map tAV),sl 1 n2 (ys.map tAV)] st=some (B (decide (xs=ys)),st):=by
 rw [run_pure (fn:=ir23) rfl rfl]
 by_cases hl:xs.length=ys.length
 ·simp only [ir23,go_sem,lm_,hl]
  generalize hg:lim (headed pure (run L) true _ lp23_0 _ _) _ _=o
  obtain ⟨x,en,s,rfl,h2⟩: ∃x en s,o=some (x,en,s)∧_:=by rw [←hg];exact loop23 n1 n2 xs ys hl hlen hlx 0 (by omega) _ _ (by simp only [go_sem]<;>rfl)
  clear hg
  simp only [List.drop_zero] at h2
  by_cases h:xs=ys
  ·rw [if_pos h] at h2
   subst h2
   simp only [go_sem,h]
  ·rw [if_neg h] at h2
   obtain ⟨rfl,h3⟩:=h2
   simp only [go_sem,h3,h]
 ·have hl2:((xs.length:Int)=(ys.length:Int))=False:=eF (by omega)
  have hne: ¬xs=ys:=fun h=>hl (by rw [h])
  simp only [ir23,go_sem,lm_,hl2,hne]
theorem c23M (n1 n2:Bool)(xs ys:List Nat)(hlen:xs.length<1000000)(st:St):run L 23 [sl 1 n1 (xs.map tM),sl 1 n2 (ys.map tM)] st=some (B (decide (xs.map memb=ys.map memb)),st):=by
 have:=c23 n1 n2 (xs.map memb) (ys.map memb) (by simpa using hlen) (fun x hx=>by
  rw [List.mem_map] at hx
  obtain ⟨m,_,rfl⟩:=hx
  have:=z0s m
  omega) st
 rw [List.map_map,List.map_map] at this
 exact this
attribute [local go_sem] m_ x_ l_ k_ o_ t_ a_ s_ q_ b_ c_ u_ g_ zr zd zl zu z28 z25 zg zk zj za zi z2o
theorem Lam.srt {n:Nat} {ss:List Nat} (h:Lam n ss)(hn:n≤8):Lam n (srt ss):=by
 have h8: ∀s∈ss,s<256:=fun s hs=>h.lt8 hn hs
 have hp:=z8l h8
 exact ⟨fun s hs=>h.lt s (hp.mem_iff.1 hs),fun s hs=>h.ne s (hp.mem_iff.1 hs),fun s hs=>h.even s (hp.mem_iff.1 hs),hp.nodup_iff.2 h.nd,fun s hs t ht=>h.ag s (hp.mem_iff.1 hs) t (hp.mem_iff.1 ht)⟩
attribute [local go_sem] m_ x_ l_ k_ o_ t_ a_ s_ q_ b_ c_ u_ g_ zr zd zl zu z28 z25 zg zk zj za zi z2o
def Num (A:List (List AV)):Prop:=∀C∈A,∃xs:List Value,C=xs.map AV.v
theorem Num.nil:Num []:=fun _ h=>by cases h
theorem Num.one8 (ss:List Nat):Num [ss.map u8]:=fun C hC=>⟨ss.map fun (n:Nat)=>Value.int .u8 (n:Int),by rw [List.mem_singleton.1 hC,List.map_map];rfl⟩
theorem Num.kS (ss:List Nat):Num (kS ss):=by
 unfold Vm.kS;split
 ·exact Num.nil
 ·exact Num.one8 ss
attribute [local go_sem] m_ x_ l_ k_ o_ t_ a_ s_ q_ b_ c_ u_ g_ zr zd zl zu z28 z25 zg zk zj za zi z2o
theorem zlc {S:List (List AV)} {l:Nat} {cs:List AV} (h:S[l]? =some cs)(hne:cs≠[])(T:List Nat): ∃S',∀env,frzL l env ⟨S,T⟩=(frzEnv l cs env,⟨S',T⟩):=by
 cases cs with
 |nil=>exact absurd rfl hne
 |cons x r=>exact ⟨(frzStore l (x::r) S).set l [],fun env=>by simp only [frzL,h]⟩
def two (s w x y z:Nat):Bool:=s.testBit w==s.testBit x&&s.testBit y==s.testBit z&&s.testBit w !=s.testBit y
inductive GK
 |nil
 |lst
 |odd (a:Addr) (cap:Nat)
abbrev GS:=GK×List Int
def gK:GK→AV
 | .nil=> .v (.slice none 0 0)
 | .lst=> .lst .any 1 []
 | .odd a c=> .v (.slice (some a) 0 c)
def gM (p:GS):AV:=if p.2.length=0 then gK p.1 else .lst .any 1 (p.2.map I)
theorem gM_sl (nl : Bool) (l : List Int) : ∃ k, gM (k, l) = sl 1 nl (l.map I) := by
  cases l with
  | nil => cases nl
           · exact ⟨.lst, rfl⟩
           · exact ⟨.nil, rfl⟩
  | cons a r => exact ⟨.nil, by rw [zas (by simp)]; rfl⟩
def prevB (p:Option Int) (a:Int):Bool:=match p with|none=>false|some b=>decide (a≤b)
def rowE (n:Nat):Option Int→List Int→Int
 |_,[]=>0
 |p,a::r=>if a<0∨(n:Int)≤a then 2 else if prevB p a=true then 7 else rowE n (some a) r
def sideE (n:Nat) (l:List Int):Int:=if l=[] then 4 else rowE n none l
def maskL:List Int→Nat
 | []=>0
 |a::r=>2^a.toNat|||maskL r
theorem zb1 {n:Nat}: ∀(l:List Int) (p:Option Int),rowE n p l=0→(∀a∈l,0≤a∧a<(n:Int))∧l.Pairwise (· < ·)∧(∀b,p=some b→∀a∈l,b<a)
 | [],p,_=>⟨by simp,List.Pairwise.nil,by simp⟩
 |a::r,p,h=>by
  unfold rowE at h
  split at h
  ·cases h
  ·rename_i h1
   split at h
   ·cases h
   ·rename_i h2
    obtain ⟨i1,i2,i3⟩:=zb1 r (some a) h
    have i3:=i3 a rfl
    refine ⟨?_,List.pairwise_cons.2 ⟨i3,i2⟩,?_⟩
    ·intro b hb
     rw [List.mem_cons] at hb
     rcases hb with rfl|hb
     ·omega
     ·exact i1 b hb
    ·intro b hb c hc
     subst hb
     have:b<a:=by simpa [prevB] using h2
     rw [List.mem_cons] at hc
     rcases hc with rfl|hc
     ·exact this
     ·have:=i3 c hc;omega
theorem z5k: ∀(l:List Int),(∀a∈l,0≤a)→∀i:Nat,(maskL l).testBit i=decide ((i:Int)∈l)
 | [],_,i=>by simp [maskL]
 |a::r,h,i=>by
  have ih:=z5k r (fun b hb=>h b (by simp [hb])) i
  have ha:=h a (by simp)
  unfold maskL
  rw [Nat.testBit_or,ih,Nat.testBit_two_pow]
  rw [Bool.eq_iff_iff]
  simp only [Bool.or_eq_true,decide_eq_true_eq,List.mem_cons]
  constructor
  ·rintro (h1|h1)
   ·left;omega
   ·right;exact h1
  ·rintro (h1|h1)
   ·left;omega
   ·right;exact h1
theorem zeu: ∀(l k:List Int),l.Pairwise (· < ·)→k.Pairwise (· < ·)→(∀a,a∈l↔a∈k)→l=k
 | [],[],_,_,_=>rfl
 | [],b::k,_,_,h=>by have:=(h b).2 (by simp);cases this
 |a::l,[],_,_,h=>by have:=(h a).1 (by simp);cases this
 |a::l,b::k,h1,h2,h=>by
  rw [List.pairwise_cons] at h1 h2
  have e:a=b:=by
   have ha:=(h a).1 (by simp)
   have hb:=(h b).2 (by simp)
   rw [List.mem_cons] at ha hb
   rcases ha with ha|ha
   ·exact ha
   ·rcases hb with hb|hb
    ·exact hb.symm
    ·have:=h2.1 a ha;have:=h1.1 b hb;omega
  subst e
  rw [zeu l k h1.2 h2.2 (fun c=>by
   constructor
   ·intro hc
    have:=(h c).1 (by simp [hc])
    rw [List.mem_cons] at this
    rcases this with rfl|this
    ·have:=h1.1 c hc;omega
    ·exact this
   ·intro hc
    have:=(h c).2 (by simp [hc])
    rw [List.mem_cons] at this
    rcases this with rfl|this
    ·have:=h2.1 c hc;omega
    ·exact this)]
theorem zch {n:Nat} {l:List Int} (h: ∀a∈l,0≤a∧a<(n:Int)):maskL l<2^n:=by
 apply Nat.lt_pow_two_of_testBit
 intro i hi
 rw [z5k l (fun a ha=>(h a ha).1)]
 apply decide_eq_false
 intro hm
 have:=(h _ hm).2
 omega
theorem z9p {n:Nat} (hn:n≤8) {l:List Int} (h:rowE n none l=0):memb (maskL l)=l:=by
 obtain ⟨h1,h2,_⟩:=zb1 l none h
 have hl:=zch h1
 have h2n:2^n≤256:=Nat.pow_le_pow_right (n:=2) (by decide) hn
 apply zeu _ _ (zcg _) h2
 intro a
 rw [z21 (by omega)]
 constructor
 ·rintro ⟨i,rfl,hi⟩
  rw [z5k l (fun a ha=>(h1 a ha).1)] at hi
  simpa using hi
 ·intro ha
  obtain ⟨k,rfl⟩:=Int.eq_ofNat_of_zero_le (h1 a ha).1
  refine ⟨k,rfl,?_⟩
  rw [z5k l (fun a ha=>(h1 a ha).1)]
  simpa using ha
theorem zhr {l:List Int} (h: ∀a∈l,0≤a)(hne:l≠[]):maskL l≠0:=by
 obtain ⟨a,r,rfl⟩: ∃a r,l=a::r:=by cases l with|nil=>exact absurd rfl hne|cons a r=>exact ⟨a,r,rfl⟩
 intro h0
 have:=z5k _ h a.toNat
 rw [h0,Nat.zero_testBit,Int.toNat_of_nonneg (h a (by simp))] at this
 simp at this
def openS (n:Nat):List GS→List Nat→Int×List Nat
 | [],ss=>(0,ss)
 |p::r,ss=>if sideE n p.2≠0 then (sideE n p.2,ss) else
  if smlN n (maskL p.2)=0 then (5,ss) else if smlN n (maskL p.2)∈ss then (6,ss) else openS n r (ss++ [smlN n (maskL p.2)])
def openG (n:Int) (G:List GS):Int×List Nat:=if n<2∨8<n then (1,[]) else if 13<G.length then (3,[]) else openS n.toNat G []
theorem zh5 {n v:Nat} (hn:1≤n)(h:smlN n v≠0):v≠2^n-1:=by
 rintro rfl
 apply h
 unfold smlN
 rw [if_pos (by rw [z78];simp;omega),Nat.xor_self]
theorem zi9 (b:GK) {l:List Int} (h:l≠[]):gM (b,l)=tAV l:=by
 have h2:l.map I≠[]:=by simpa using h
 unfold gM tAV
 rw [zas h2,if_neg (fun h3=>h (List.eq_nil_of_length_eq_zero h3))]
theorem zfb {n:Nat} (h1:1≤n)(hn:n≤8): ∀(G:List GS) (ss T:List Nat),openS n G ss=(0,T)→
  ∃X:List Nat,G.map gM=X.map tM∧G.map (·.2)=X.map memb∧(∀v∈X,v<2^n∧v≠0∧v≠2^n-1)∧T=ss++X.map (smlN n)∧(ss.Nodup→T.Nodup)
 | [],ss,T,h=>by
  unfold openS at h
  simp only [Prod.mk.injEq,true_and] at h
  subst h
  exact ⟨[],rfl,rfl,by simp,by simp,fun h=>h⟩
 |(b,l)::r,ss,T,h=>by
  unfold openS at h
  split at h
  ·rename_i h0
   rw [Prod.mk.injEq] at h;exact absurd h.1 h0
  ·rename_i h0
   split at h
   ·rw [Prod.mk.injEq] at h;exact absurd h.1 (by decide)
   ·rename_i h3
    split at h
    ·rw [Prod.mk.injEq] at h;exact absurd h.1 (by decide)
    ·rename_i h4
     have h0:sideE n l=0:=by simpa using h0
     obtain ⟨X,e1,e2,e3,e4,e5⟩:=zfb h1 hn r _ T h
     have hne:l≠[]:=by rintro rfl;simp [sideE] at h0
     have hrow:rowE n none l=0:=by unfold sideE at h0;rwa [if_neg hne] at h0
     have hm:=z9p hn hrow
     have hr:=(zb1 l none hrow).1
     refine ⟨maskL l::X,?_,?_,?_,?_,?_⟩
     ·rw [List.map_cons,List.map_cons,e1,zi9 b hne,tM,hm]
     ·rw [List.map_cons,List.map_cons,e2,hm]
     ·intro v hv
      rw [List.mem_cons] at hv
      rcases hv with rfl|hv
      ·exact ⟨zch hr,zhr (fun a ha=>(hr a ha).1) hne,zh5 h1 h3⟩
      ·exact e3 v hv
     ·rw [e4];simp
     ·intro hnd
      apply e5
      rw [List.nodup_append]
      refine ⟨hnd,by simp,?_⟩
      intro x hx y hy
      rw [List.mem_singleton] at hy
      subst hy
      rintro rfl
      exact h4 hx
theorem zfc {n:Int} {G:List GS} (h:(openG n G).1=0): ∃(m:Nat) (X:List Nat),n=m∧2≤m∧m≤8∧G.length≤13∧X.length=G.length∧G.map gM=X.map tM∧G.map (·.2)=X.map memb∧(∀v∈X,v<2^m∧v≠0∧v≠2^m-1)∧(openG n G).2=X.map (smlN m)∧(X.map (smlN m)).Nodup:=by
 unfold openG at h⊢
 split at h
 ·cases h
 ·rename_i h1
  rw [if_neg h1]
  split at h
  ·cases h
  ·rename_i h2
   rw [if_neg h2]
   obtain ⟨X,e1,e2,e3,e4,e5⟩:=zfb (n:=n.toNat) (by omega) (by omega) G [] _ (Prod.ext h rfl)
   rw [List.nil_append] at e4
   refine ⟨n.toNat,X,by omega,by omega,by omega,by omega,?_,e1,e2,e3,e4,?_⟩
   ·have:=congrArg List.length e1;simpa using this.symm
   ·have:=e5 List.nodup_nil
    rw [e4] at this;exact this
attribute [local go_sem] m_ x_ l_ k_ o_ t_ a_ s_ q_ b_ c_ u_ g_ zr zd zl zu z28 z25 zg zk zj za zi z2o
theorem z5n (p:GS)(R:AV→Prop)(h1:R (.v (.slice none 0 0)))(h2: ∀xs,R (.lst .any 1 xs))(h3: ∀a c,R (.v (.slice (some a) 0 c))):R (gM p):=by
 unfold gM
 split
 ·unfold gK;split
  ·exact h1
  ·exact h2 _
  ·exact h3 _ _
 ·exact h2 _
theorem z1l (p:GS):(gM p).shaped=true:=z5n p (fun a=>a.shaped=true) rfl (fun _=>rfl) (fun _ _=>rfl)
theorem z3h (p:GS):(gM p).cells=[gM p]:=z5n p (fun a=>a.cells=[a]) rfl (fun _=>rfl) (fun _ _=>rfl)
theorem z3a (p:GS):Ev.isAgg (gM p)=false:=z5n p (fun a=>Ev.isAgg a=false) rfl (fun _=>rfl) (fun _ _=>rfl)
theorem z07 (p:GS):storable (gM p)=true:=z5n p (fun a=>storable a=true) rfl (fun _=>rfl) (fun _ _=>rfl)
theorem z38 (n:Nat)(p:GS):okRef n (gM p)=true:=z5n p (fun a=>okRef n a=true) rfl (fun _=>rfl) (fun _ _=>rfl)
theorem z9g (p:GS):pub (gM p)=gM p:=z5n p (fun a=>pub a=a) rfl (fun xs=>z8b 1 false xs) (fun _ _=>rfl)
attribute [local go_sem] m_ x_ l_ k_ o_ t_ a_ s_ q_ b_ c_ u_ g_ z1l z3h z3a z07 z38 z9g
def rowAt (n:Nat) (l:List Int) (i:Nat):Int:=rowE n (if i=0 then none else l[i-1]?) (l.drop i)
theorem z7r (n:Nat)(l:List Int)(i:Nat)(h:i<l.length):rowAt n l i=if l[i]<0∨(n:Int)≤l[i] then 2 else if prevB (if i=0 then none else l[i-1]?) l[i]=true then 7 else rowAt n l (i+1):=by
 unfold rowAt
 rw [List.drop_eq_getElem_cons h]
 show (if _ then _ else if _ then _ else rowE n (some l[i]) (l.drop (i+1)))=_
 rw [if_neg (show ¬i+1=0 by omega),Nat.add_sub_cancel,List.getElem?_eq_getElem h]
theorem z95 (n:Nat)(l:List Int)(i:Nat)(h: ¬i<l.length):rowAt n l i=0:=by
 unfold rowAt
 rw [List.drop_eq_nil_of_le (by omega)]
 cases (if i=0 then none else l[i-1]?)<;>rfl
theorem zgh (n:Nat)(l:List Int)(hlen:l.length<1000)(nl:Bool)(G:List GS)(f:Int)(k:Nat)(i:Nat)(hok:i≤l.length)(env:Env)(st:St)
  (hg:gcAV true 0 0 (canon env [0,6,7,9,27,28,29,36,37,38]) st=([(0,J n),(6,.v (.int .u8 f)),(7,.v (.slice none 0 0)),(9,tAV l),(27,sl 1 nl (G.map gM)),(28,J G.length),(29,J k),(36,tAV l),(37,J l.length),(38,J i)],⟨[],[]⟩)):
  ∃x_1 en s,lim (headed pure (run L) true [0,6,7,9,27,28,29,36,37,38] lp70_0 0 0) env st=some (x_1,en,s)∧(s=⟨[],[]⟩∧((rowAt n l i=0∧x_1=.exit 3∧en.get 0=J n∧en.get 6=.v (.int .u8 f)∧en.get 7=.v (.slice none 0 0)∧en.get 9=tAV l∧en.get 27=sl 1 nl (G.map gM)∧en.get 28=J G.length∧en.get 29=J k∧en.get 3000000=.any)∨(rowAt n l i≠0∧x_1=.ret∧en.get 4=.v (.slice none 0 0)∧en.get 5=I (rowAt n l i)))):=by
 refine zb (α:=Nat) (fun i=>l.length-i) (fun i=>i≤l.length) (fun i=>([(0,J n),(6,.v (.int .u8 f)),(7,.v (.slice none 0 0)),(9,tAV l),(27,sl 1 nl (G.map gM)),(28,J G.length),(29,J k),(36,tAV l),(37,J l.length),(38,J i)],⟨[],[]⟩)) (fun i x_1 en s=>s=⟨[],[]⟩∧((rowAt n l i=0∧x_1=.exit 3∧en.get 0=J n∧en.get 6=.v (.int .u8 f)∧en.get 7=.v (.slice none 0 0)∧en.get 9=tAV l∧en.get 27=sl 1 nl (G.map gM)∧en.get 28=J G.length∧en.get 29=J k∧en.get 3000000=.any)∨(rowAt n l i≠0∧x_1=.ret∧en.get 4=.v (.slice none 0 0)∧en.get 5=I (rowAt n l i)))) (fun i hok=> ?_) i hok env st hg
 by_cases h:i<l.length
 ·have hs:=zh i (by omega)
  have hx:indexSAV 1 (tAV l) (.v (.int .i64 (i:Int)))=some (.eptr (I l[i]) 0):=ze true l i h
  have hlt:((i:Int)<(l.length:Int))=True:=eT (by omega)
  have hst:=z7r n l i h
  rw [hst]
  by_cases q1:l[i]<0
  ·rw [if_pos (.inl q1)]
   simp only [go_sem,lp70_0,hlt,hs,hx,q1]
   decide
  ·by_cases q2:(n:Int)≤l[i]
   ·rw [if_pos (.inr q2)]
    simp only [go_sem,lp70_0,hlt,hs,hx,q1,q2]
    decide
   ·rw [if_neg (not_or.2 ⟨q1,q2⟩)]
    by_cases h0:0<i
    ·have q3:((0:Int)<(i:Int))=True:=eT (by omega)
     have hm:IntKind.i64.wrap ((i:Int)-1)=((i-1:Nat):Int):=by
      rw [←w64 (i-1) (by omega)];congr 1;omega
     have hx2:indexSAV 1 (tAV l) (.v (.int .i64 ((i-1:Nat):Int)))=some (.eptr (I (l[i-1]'(by omega))) 0):=ze true l (i-1) (by omega)
     rw [if_neg (show ¬i=0 by omega),List.getElem?_eq_getElem (show i-1<l.length by omega)]
     generalize l[i-1]'(by omega)=b at*
     generalize l[i]=a at*
     have hpb:prevB (some b) a=decide (a≤b):=rfl
     rw [hpb]
     by_cases q4:a≤b
     ·rw [if_pos (by simpa using q4)]
      simp only [go_sem,lp70_0,hlt,hs,hx,q1,q2,q3,hm,hx2,q4]
      decide
     ·rw [if_neg (by simpa using q4)]
      simp only [go_sem,lp70_0,hlt,hs,hx,q1,q2,q3,hm,hx2,q4]
      refine ⟨i+1,by simp only [go_sem,z3,z5,z8,z16]<;>rfl,?_,?_,fun x en s hq=> ?_⟩
      ·omega
      ·omega
      ·exact hq
    ·have q3:((0:Int)<(i:Int))=False:=eF (by omega)
     rw [if_pos (show i=0 by omega)]
     generalize l[i]=a at*
     have hpb:prevB none a=false:=rfl
     rw [hpb,if_neg (by simp)]
     simp only [go_sem,lp70_0,hlt,hs,hx,q1,q2,q3]
     refine ⟨i+1,by simp only [go_sem,z3,z5,z8,z16]<;>rfl,?_,?_,fun x en s hq=> ?_⟩
     ·omega
     ·omega
     ·exact hq
 ·have hlt:((i:Int)<(l.length:Int))=False:=eF (by omega)
  rw [z95 n l i h]
  simp only [go_sem,lp70_0,hlt]
theorem zgi (n:Nat)(l:List Int)(hlen:l.length<1000)(nl:Bool)(G:List GS)(f:Int)(ss:List Nat)(k:Nat)(i:Nat)(hok:i≤l.length)(env:Env)(st:St)
  (hg:gcAV true 1 0 (canon env [0,6,7,9,27,28,29,36,37,38]) st=([(0,J n),(6,.v (.int .u8 f)),(7,.rsl 0 0 ss.length ss.length 1 true),(9,tAV l),(27,sl 1 nl (G.map gM)),(28,J G.length),(29,J k),(36,tAV l),(37,J l.length),(38,J i)],⟨[ss.map u8],[]⟩)):
  ∃x_1 en s,lim (headed pure (run L) true [0,6,7,9,27,28,29,36,37,38] lp70_0 1 0) env st=some (x_1,en,s)∧(s=⟨[ss.map u8],[]⟩∧((rowAt n l i=0∧x_1=.exit 3∧en.get 0=J n∧en.get 6=.v (.int .u8 f)∧en.get 7=.rsl 0 0 ss.length ss.length 1 true∧en.get 9=tAV l∧en.get 27=sl 1 nl (G.map gM)∧en.get 28=J G.length∧en.get 29=J k∧en.get 3000000=.any)∨(rowAt n l i≠0∧x_1=.ret∧en.get 4=.v (.slice none 0 0)∧en.get 5=I (rowAt n l i)))):=by
 refine zb (α:=Nat) (fun i=>l.length-i) (fun i=>i≤l.length) (fun i=>([(0,J n),(6,.v (.int .u8 f)),(7,.rsl 0 0 ss.length ss.length 1 true),(9,tAV l),(27,sl 1 nl (G.map gM)),(28,J G.length),(29,J k),(36,tAV l),(37,J l.length),(38,J i)],⟨[ss.map u8],[]⟩)) (fun i x_1 en s=>s=⟨[ss.map u8],[]⟩∧((rowAt n l i=0∧x_1=.exit 3∧en.get 0=J n∧en.get 6=.v (.int .u8 f)∧en.get 7=.rsl 0 0 ss.length ss.length 1 true∧en.get 9=tAV l∧en.get 27=sl 1 nl (G.map gM)∧en.get 28=J G.length∧en.get 29=J k∧en.get 3000000=.any)∨(rowAt n l i≠0∧x_1=.ret∧en.get 4=.v (.slice none 0 0)∧en.get 5=I (rowAt n l i)))) (fun i hok=> ?_) i hok env st hg
 by_cases h:i<l.length
 ·have hs:=zh i (by omega)
  have hx:indexSAV 1 (tAV l) (.v (.int .i64 (i:Int)))=some (.eptr (I l[i]) 0):=ze true l i h
  have hlt:((i:Int)<(l.length:Int))=True:=eT (by omega)
  have hst:=z7r n l i h
  rw [hst]
  by_cases q1:l[i]<0
  ·rw [if_pos (.inl q1)]
   simp only [go_sem,lp70_0,hlt,hs,hx,q1]
   decide
  ·by_cases q2:(n:Int)≤l[i]
   ·rw [if_pos (.inr q2)]
    simp only [go_sem,lp70_0,hlt,hs,hx,q1,q2]
    decide
   ·rw [if_neg (not_or.2 ⟨q1,q2⟩)]
    by_cases h0:0<i
    ·have q3:((0:Int)<(i:Int))=True:=eT (by omega)
     have hm:IntKind.i64.wrap ((i:Int)-1)=((i-1:Nat):Int):=by
      rw [←w64 (i-1) (by omega)];congr 1;omega
     have hx2:indexSAV 1 (tAV l) (.v (.int .i64 ((i-1:Nat):Int)))=some (.eptr (I (l[i-1]'(by omega))) 0):=ze true l (i-1) (by omega)
     rw [if_neg (show ¬i=0 by omega),List.getElem?_eq_getElem (show i-1<l.length by omega)]
     generalize l[i-1]'(by omega)=b at*
     generalize l[i]=a at*
     have hpb:prevB (some b) a=decide (a≤b):=rfl
     rw [hpb]
     by_cases q4:a≤b
     ·rw [if_pos (by simpa using q4)]
      simp only [go_sem,lp70_0,hlt,hs,hx,q1,q2,q3,hm,hx2,q4]
      decide
     ·rw [if_neg (by simpa using q4)]
      simp only [go_sem,lp70_0,hlt,hs,hx,q1,q2,q3,hm,hx2,q4]
      refine ⟨i+1,by simp only [go_sem,z3,z5,z8,z15,zy,z16]<;>rfl,?_,?_,fun x en s hq=> ?_⟩
      ·omega
      ·omega
      ·exact hq
    ·have q3:((0:Int)<(i:Int))=False:=eF (by omega)
     rw [if_pos (show i=0 by omega)]
     generalize l[i]=a at*
     have hpb:prevB none a=false:=rfl
     rw [hpb,if_neg (by simp)]
     simp only [go_sem,lp70_0,hlt,hs,hx,q1,q2,q3]
     refine ⟨i+1,by simp only [go_sem,z3,z5,z8,z15,zy,z16]<;>rfl,?_,?_,fun x en s hq=> ?_⟩
     ·omega
     ·omega
     ·exact hq
 ·have hlt:((i:Int)<(l.length:Int))=False:=eF (by omega)
  rw [z95 n l i h]
  simp only [go_sem,lp70_0,hlt]
theorem zhq {n v:Nat} (hv:v<2^n)(hn:n≤8):maskL (memb v)=v:=by
 have h2n:2^n≤256:=Nat.pow_le_pow_right (n:=2) (by decide) hn
 apply Nat.eq_of_testBit_eq
 intro i
 rw [z5k _ (fun a ha=>(zbb hn hv a ha).1),Bool.eq_iff_iff,decide_eq_true_eq,z21 (by omega)]
 constructor
 ·rintro ⟨k,e,h⟩
  have:i=k:=by omega
  subst this;exact h
 ·intro h;exact ⟨i,rfl,h⟩
theorem zhu (n:Nat)(h1n:1≤n)(hn:n≤8)(nl:Bool)(G:List GS)(hG: ∀p∈G,p.2.length<1000)(hl:G.length≤13)(i:Nat)(ss:List Nat)(hok:i≤G.length∧ss.length≤i∧∀x∈ss,x<2^n)(env:Env)(st:St)
  (hg:gcAV true 0 0 (canon env [0,6,7,27,28,29,3000000]) st=([(0,J n),(6,u8 (2^n-1)),(7,kA ss),(27,sl 1 nl (G.map gM)),(28,J G.length),(29,J i),(3000000,.any)],⟨kS ss,[]⟩)):
  ∃x_1 en s,lim (headed pure (run L) true [0,6,7,27,28,29,3000000] lp70_1 0 0) env st=some (x_1,en,s)∧(((openS n (G.drop i) ss).1=0∧x_1=.exit 1∧en.get 7=kA (openS n (G.drop i) ss).2∧s=⟨kS (openS n (G.drop i) ss).2,[]⟩)∨((openS n (G.drop i) ss).1≠0∧x_1=.ret∧en.get 4=.v (.slice none 0 0)∧en.get 5=I (openS n (G.drop i) ss).1∧∃N:List (List Nat),N.length≤2∧s=⟨N.map (fun l=>l.map u8),[]⟩)):=by
 refine zb (α:=Nat×List Nat) (fun ⟨i,ss⟩=>G.length-i) (fun ⟨i,ss⟩=>i≤G.length∧ss.length≤i∧∀x∈ss,x<2^n) (fun ⟨i,ss⟩=>([(0,J n),(6,u8 (2^n-1)),(7,kA ss),(27,sl 1 nl (G.map gM)),(28,J G.length),(29,J i),(3000000,.any)],⟨kS ss,[]⟩)) (fun ⟨i,ss⟩ x_1 en s=>((openS n (G.drop i) ss).1=0∧x_1=.exit 1∧en.get 7=kA (openS n (G.drop i) ss).2∧s=⟨kS (openS n (G.drop i) ss).2,[]⟩)∨((openS n (G.drop i) ss).1≠0∧x_1=.ret∧en.get 4=.v (.slice none 0 0)∧en.get 5=I (openS n (G.drop i) ss).1∧∃N:List (List Nat),N.length≤2∧s=⟨N.map (fun l=>l.map u8),[]⟩)) (fun ⟨i,ss⟩ hok=> ?_) ⟨i,ss⟩ hok env st hg
 simp only at hok
 obtain ⟨h1,h2,h3⟩:=hok
 dsimp only at h1 h2 h3⊢
 by_cases h:i<G.length
 ·have hs:=zh i (by omega)
  have hx:=z23 gM nl G i h
  have hlt:((i:Int)<(G.length:Int))=True:=eT (by omega)
  have hgl:=hG G[i] (List.getElem_mem h)
  have hd:G.drop i=G[i]::G.drop (i+1):=List.drop_eq_getElem_cons h
  rw [hd]
  generalize G[i]=p at*
  obtain ⟨b,l⟩:=p
  dsimp only at hgl
  have h2n:2^n≤256:=Nat.pow_le_pow_right (n:=2) (by decide) hn
  have hp:0<2^n:=Nat.two_pow_pos n
  have hos:openS n ((b,l)::G.drop (i+1)) ss=if sideE n l≠0 then (sideE n l,ss) else if smlN n (maskL l)=0 then (5,ss) else if smlN n (maskL l)∈ss then (6,ss) else openS n (G.drop (i+1)) (ss++ [smlN n (maskL l)]):=rfl
  rw [hos]
  have hll0:l=[]→lenAV (gM (b,l))=some (I 0):=by rintro rfl;cases b<;>rfl
  have hmask:l≠[]→sideE n l=0→∃v,v<2^n∧l=memb v:=by
   intro hne he
   unfold sideE at he
   rw [if_neg hne] at he
   exact ⟨maskL l,zch (zb1 l none he).1,(z9p hn he).symm⟩
  clear hos hd
  by_cases he:ss=[]
  ·subst he
   have eA:kA []=.v (.slice none 0 0):=rfl
   have eS:kS []=[]:=rfl
   rw [eA,eS]
   by_cases hne:l=[]
   ·have hll:=hll0 hne
    rw [if_pos (by unfold sideE;rw [if_pos hne];decide)]
    have hse:sideE n l=4:=by unfold sideE;rw [if_pos hne]
    rw [hse]
    simp only [go_sem,lp70_1,hlt,hx,hll]
    exact ⟨by decide,[],by simp,rfl⟩
   ·have hl0:((l.length:Int)=0)=False:=eF (by have:=List.length_pos_iff.2 hne;omega)
    have hgm:=zi9 b hne
    rw [hgm] at hx
    have hll:lenAV (tAV l)=some (J l.length):=z08 I true l
    have hse:sideE n l=rowAt n l 0:=by unfold sideE rowAt;rw [if_neg hne,if_pos rfl,List.drop_zero]
    rw [hse]
    simp only [go_sem,lp70_1,hlt,hx,hll,hl0]
    generalize hg:lim (headed pure (run L) true _ lp70_0 _ _) _ _=o
    obtain ⟨x,en,s,rfl,h2⟩: ∃x en s,o=some (x,en,s)∧_:=by rw [←hg];exact zgh n l (by omega) nl G ((2^n-1:Nat):Int) i 0 (by omega) _ _ (by simp only [go_sem,Int.natCast_zero,z16]<;>rfl)
    clear hg
    obtain ⟨rfl,⟨er,rfl,e0,e6,e7,e9,e27,e28,e29,e30⟩ | ⟨er,rfl,e4,e5⟩⟩:=h2
    ·rw [if_neg (by simpa using er)]
     obtain ⟨v,hv,rfl⟩:=hmask hne (hse.trans er)
     have h105:=fun st=>c105 v (by omega) st
     have h106: ∀st,run L 106 [E8 v,I 0] st=some (B (v.testBit 0),st):=fun st=>c106 v (by omega) st
     have hmv:maskL (memb v)=v:=zhq hv (by omega)
     rw [hmv]
     have hxo:=xor8 v (2^n-1) (by omega) (by omega)
     have hsl:=z3q hv
     have hsd:smlN n v=if v.testBit 0=true then v^^^(2^n-1) else v:=rfl
     have h122:=fun st=>c122 true [] (by simp) (smlN n v) st
     rw [show sl 1 true (([]:List Nat).map E8)=AV.v (.slice none 0 0) from rfl] at h122
     have hfr:=fun st=>zia (smlN n v) st
     have happ:=zfi (smlN n v) [[u8 (smlN n v)]] []
     clear hse hx hll hne hmask
     cases hb:v.testBit 0 with
     |true=>
      rw [hb] at h106
      rw [hb,if_pos rfl] at hsd
      rw [←hsd] at hxo
      generalize smlN n v=w at*
      by_cases hz:w=0
      ·rw [if_pos hz]
       have hz:((w:Int)=0)=True:=eT (by omega)
       simp only [go_sem,lp70_1,e0,e6,e7,e9,e27,e28,e29,h105,h106,hxo,hz]
       exact ⟨by decide,[[w]],by simp,rfl⟩
      ·rw [if_neg hz]
       have hz:((w:Int)=0)=False:=eF (by omega)
       have hni:w ∉ ([]:List Nat):=by simp
       rw [if_neg hni]
       rw [decide_eq_false hni] at h122
       simp only [go_sem,lp70_1,e0,e6,e7,e9,e27,e28,e29,h105,h106,hxo,hz,hfr,h122,z0r,happ,hs]
       refine ⟨(i+1,[w]),by simp only [go_sem,z3,z5,z8,e0,e6,e7,e27,e28,e29,e30,zfg,zff,compact,compactW,refsEnv,refsV,refsL,refsStore,refsAt,mapEnv,mapL,mapLs,newName,posOf,mapStore,pickStore,namesOk,z0q,z26,List.contains_nil,List.contains_cons,Option.getD_some,hasKey]<;>rfl,?_,?_,fun x en s hq=> ?_⟩
       ·dsimp only;exact ⟨by omega,by simp,by intro x hx;rw [List.mem_singleton] at hx;omega⟩
       ·dsimp only;omega
       ·exact hq
     |false=>
      rw [hb] at h106
      rw [hb,if_neg (by simp)] at hsd
      generalize smlN n v=w at*
      subst hsd
      by_cases hz:w=0
      ·rw [if_pos hz]
       have hz:((w:Int)=0)=True:=eT (by omega)
       simp only [go_sem,lp70_1,e0,e6,e7,e9,e27,e28,e29,h105,h106,hz]
       exact ⟨by decide,[[w]],by simp,rfl⟩
      ·rw [if_neg hz]
       have hz:((w:Int)=0)=False:=eF (by omega)
       have hni:w ∉ ([]:List Nat):=by simp
       rw [if_neg hni]
       rw [decide_eq_false hni] at h122
       simp only [go_sem,lp70_1,e0,e6,e7,e9,e27,e28,e29,h105,h106,hz,hfr,h122,z0r,happ,hs]
       refine ⟨(i+1,[w]),by simp only [go_sem,z3,z5,z8,e0,e6,e7,e27,e28,e29,e30,zfg,zff,compact,compactW,refsEnv,refsV,refsL,refsStore,refsAt,mapEnv,mapL,mapLs,newName,posOf,mapStore,pickStore,namesOk,z0q,z26,List.contains_nil,List.contains_cons,Option.getD_some,hasKey]<;>rfl,?_,?_,fun x en s hq=> ?_⟩
       ·dsimp only;exact ⟨by omega,by simp,by intro x hx;rw [List.mem_singleton] at hx;omega⟩
       ·dsimp only;omega
       ·exact hq
    ·rw [if_pos (by simpa using er)]
     simp only [go_sem,lp70_1,e4,e5]
     exact ⟨er,[],by simp,rfl⟩
  ·have eA:=zeo he
   have eS:=zen he
   have hpos:1≤ss.length:=List.length_pos_iff.2 he
   rw [eA,eS]
   by_cases hne:l=[]
   ·have hll:=hll0 hne
    rw [if_pos (by unfold sideE;rw [if_pos hne];decide)]
    have hse:sideE n l=4:=by unfold sideE;rw [if_pos hne]
    rw [hse]
    simp only [go_sem,lp70_1,hlt,hx,hll]
    exact ⟨by decide,[ss],by simp,rfl⟩
   ·have hl0:((l.length:Int)=0)=False:=eF (by have:=List.length_pos_iff.2 hne;omega)
    have hgm:=zi9 b hne
    rw [hgm] at hx
    have hll:lenAV (tAV l)=some (J l.length):=z08 I true l
    have hse:sideE n l=rowAt n l 0:=by unfold sideE rowAt;rw [if_neg hne,if_pos rfl,List.drop_zero]
    rw [hse]
    simp only [go_sem,lp70_1,hlt,hx,hll,hl0]
    generalize hg:lim (headed pure (run L) true _ lp70_0 _ _) _ _=o
    obtain ⟨x,en,s,rfl,h2⟩: ∃x en s,o=some (x,en,s)∧_:=by rw [←hg];exact zgi n l (by omega) nl G ((2^n-1:Nat):Int) ss i 0 (by omega) _ _ (by simp only [go_sem,Int.natCast_zero,z15,zy,z16]<;>rfl)
    clear hg
    obtain ⟨rfl,⟨er,rfl,e0,e6,e7,e9,e27,e28,e29,e30⟩ | ⟨er,rfl,e4,e5⟩⟩:=h2
    ·rw [if_neg (by simpa using er)]
     obtain ⟨v,hv,rfl⟩:=hmask hne (hse.trans er)
     have h105:=fun st=>c105 v (by omega) st
     have h106: ∀st,run L 106 [E8 v,I 0] st=some (B (v.testBit 0),st):=fun st=>c106 v (by omega) st
     have hmv:maskL (memb v)=v:=zhq hv (by omega)
     rw [hmv]
     have hxo:=xor8 v (2^n-1) (by omega) (by omega)
     have hsl:=z3q hv
     have hsd:smlN n v=if v.testBit 0=true then v^^^(2^n-1) else v:=rfl
     have h122:=fun st=>c122 true ss (by omega) (smlN n v) st
     obtain ⟨S2,hfr⟩:=zk9 he (smlN n v) [u8 (smlN n v)] []
     have happ:=zi3 [u8 (smlN n v)] ss (smlN n v) [] hpos (by omega)
     clear hse hx hll hne hmask
     cases hb:v.testBit 0 with
     |true=>
      rw [hb] at h106
      rw [hb,if_pos rfl] at hsd
      rw [←hsd] at hxo
      generalize smlN n v=w at*
      by_cases hz:w=0
      ·rw [if_pos hz]
       have hz:((w:Int)=0)=True:=eT (by omega)
       simp only [go_sem,lp70_1,e0,e6,e7,e9,e27,e28,e29,h105,h106,hxo,hz]
       exact ⟨by decide,[ss,[w]],by simp,rfl⟩
      ·rw [if_neg hz]
       have hz:((w:Int)=0)=False:=eF (by omega)
       by_cases hni:w∈ss
       ·rw [if_pos hni]
        rw [decide_eq_true hni] at h122
        simp only [go_sem,lp70_1,e0,e6,e7,e9,e27,e28,e29,h105,h106,hxo,hz,hfr,h122,z0r]
        exact ⟨by decide,[ss,[w]],by simp,rfl⟩
       ·rw [if_neg hni]
        rw [decide_eq_false hni] at h122
        simp only [go_sem,lp70_1,e0,e6,e7,e9,e27,e28,e29,h105,h106,hxo,hz,hfr,h122,z0r,happ,hs]
        refine ⟨(i+1,ss++ [w]),by simp only [go_sem,z3,z5,z8,e0,e6,e7,e27,e28,e29,e30,zcm,zcl,zc9,zcj,z15,zy,compact,compactW,refsEnv,refsV,refsL,refsStore,refsAt,mapEnv,mapL,mapLs,newName,posOf,mapStore,pickStore,namesOk,z0q,z26,List.contains_nil,List.contains_cons,Option.getD_some,hasKey]<;>rfl,?_,?_,fun x en s hq=> ?_⟩
        ·dsimp only;exact ⟨by omega,by rw [List.length_append,List.length_singleton];omega,by intro x hx;rcases List.mem_append.1 hx with hx|hx;exact h3 x hx;rw [List.mem_singleton] at hx;omega⟩
        ·dsimp only;omega
        ·exact hq
     |false=>
      rw [hb] at h106
      rw [hb,if_neg (by simp)] at hsd
      generalize smlN n v=w at*
      subst hsd
      by_cases hz:w=0
      ·rw [if_pos hz]
       have hz:((w:Int)=0)=True:=eT (by omega)
       simp only [go_sem,lp70_1,e0,e6,e7,e9,e27,e28,e29,h105,h106,hz]
       exact ⟨by decide,[ss,[w]],by simp,rfl⟩
      ·rw [if_neg hz]
       have hz:((w:Int)=0)=False:=eF (by omega)
       by_cases hni:w∈ss
       ·rw [if_pos hni]
        rw [decide_eq_true hni] at h122
        simp only [go_sem,lp70_1,e0,e6,e7,e9,e27,e28,e29,h105,h106,hz,hfr,h122,z0r]
        exact ⟨by decide,[ss,[w]],by simp,rfl⟩
       ·rw [if_neg hni]
        rw [decide_eq_false hni] at h122
        simp only [go_sem,lp70_1,e0,e6,e7,e9,e27,e28,e29,h105,h106,hz,hfr,h122,z0r,happ,hs]
        refine ⟨(i+1,ss++ [w]),by simp only [go_sem,z3,z5,z8,e0,e6,e7,e27,e28,e29,e30,zcm,zcl,zc9,zcj,z15,zy,compact,compactW,refsEnv,refsV,refsL,refsStore,refsAt,mapEnv,mapL,mapLs,newName,posOf,mapStore,pickStore,namesOk,z0q,z26,List.contains_nil,List.contains_cons,Option.getD_some,hasKey]<;>rfl,?_,?_,fun x en s hq=> ?_⟩
        ·dsimp only;exact ⟨by omega,by rw [List.length_append,List.length_singleton];omega,by intro x hx;rcases List.mem_append.1 hx with hx|hx;exact h3 x hx;rw [List.mem_singleton] at hx;omega⟩
        ·dsimp only;omega
        ·exact hq
    ·rw [if_pos (by simpa using er)]
     simp only [go_sem,lp70_1,e4,e5]
     exact ⟨er,[ss],by simp,rfl⟩
 ·have e:G.drop i=[]:=List.drop_eq_nil_of_le (by omega)
  have hlt:((i:Int)<(G.length:Int))=False:=eF (by omega)
  rw [e,show openS n [] ss=(0,ss) from rfl]
  simp only [go_sem,lp70_1,hlt]
theorem c70G (n:Int)(nl:Bool)(G:List GS)(hG: ∀p∈G,p.2.length<1000)(hGl:G.length<1000):
  ((openG n G).1=0∧run L 70 [I n,sl 1 nl (G.map gM)] ⟨[],[]⟩=some (.tup [kA (openG n G).2,I 0],⟨kS (openG n G).2,[]⟩))∨
  ((openG n G).1≠0∧∃N:List (List Nat),N.length≤2∧run L 70 [I n,sl 1 nl (G.map gM)] ⟨[],[]⟩=some (.tup [.v (.slice none 0 0),I (openG n G).1],⟨N.map (fun l=>l.map u8),[]⟩)):=by
 rw [zc (fn:=ir70) rfl rfl]
 unfold openG
 by_cases q1:n<2
 ·rw [if_pos (.inl q1)]
  right
  refine ⟨by decide,[],by simp,?_⟩
  simp only [ir70,go_sem,q1]
 ·by_cases q2:8<n
  ·rw [if_pos (.inr q2)]
   right
   refine ⟨by decide,[],by simp,?_⟩
   simp only [ir70,go_sem,q1,q2]
  ·rw [if_neg (not_or.2 ⟨q1,q2⟩)]
   obtain ⟨m,rfl⟩:=Int.eq_ofNat_of_zero_le (show 0≤n by omega)
   by_cases q3:13<G.length
   ·rw [if_pos q3]
    right
    refine ⟨by decide,[],by simp,?_⟩
    have q3:((13:Int)<(G.length:Int))=True:=eT (by omega)
    simp only [ir70,go_sem,lm_,q1,q2,q3]
   ·rw [if_neg q3]
    have q3:((13:Int)<(G.length:Int))=False:=eF (by omega)
    obtain ⟨r,hsh,hsu⟩:=shl8n m (by omega)
    have hto:((m:Int)).toNat=m:=rfl
    rw [hto]
    simp only [ir70,go_sem,lm_,q1,q2,q3,hsh,hsu]
    generalize hg:lim (headed pure (run L) true _ lp70_1 _ _) _ _=o
    obtain ⟨x,en,s,rfl,h2⟩: ∃x en s,o=some (x,en,s)∧_:=by rw [←hg];exact zhu m (by omega) (by omega) nl G hG (by omega) 0 [] ⟨by omega,by simp,by simp⟩ _ _ (by simp only [go_sem,Int.natCast_zero,kA,kS,compact,compactW,refsEnv,refsV,refsL,refsStore,refsAt,mapEnv,mapL,mapLs,newName,posOf,mapStore,pickStore,namesOk,z0q,z26,List.contains_nil,List.contains_cons,Option.getD_some,hasKey]<;>rfl)
    clear hg
    rw [List.drop_zero] at h2
    rcases h2 with ⟨h0,rfl,e7,rfl⟩ | ⟨h0,rfl,e4,e5,N,hN,rfl⟩
    ·left
     refine ⟨h0,?_⟩
     simp only [go_sem,e7]
    ·right
     refine ⟨h0,N,hN,?_⟩
     simp only [go_sem,e4,e5]
attribute [local go_sem] m_ x_ l_ k_ o_ t_ a_ s_ q_ b_ c_ u_ g_ zr zd zl zu z28 z25 zg zk zj za zi z2o
theorem c98 (a lo hi:Int)(st:St):run L 98 [I a,I lo,I hi] st=some (B (decide (lo≤a∧a≤hi)),st):=by
 rw [run_pure (fn:=ir98) rfl rfl]
 by_cases h1:lo≤a
 ·by_cases h2:a≤hi<;>simp only [ir98,go_sem,h1,h2]
 ·simp only [ir98,go_sem,h1]
theorem zl8 (nl:Bool)(l:List Int)(hlen:l.length<1000000)(a:Int)(i:Nat)(hok:i≤l.length)(env:Env)(st:St)
  (hg:gcAV true 0 0 (canon env [0,1,5]) st=([(0,sl 1 nl (l.map I)),(1,I a),(5,J i)],⟨[],[]⟩)):
  ∃x_1 en s,lim (headed pure (run L) true [0,1,5] lp100_0 0 0) env st=some (x_1,en,s)∧(if a∈l.drop i then x_1=.ret∧en.get 4=B true else x_1=.exit 0):=by
 refine zb (α:=Nat) (fun i=>l.length-i) (fun i=>i≤l.length) (fun i=>([(0,sl 1 nl (l.map I)),(1,I a),(5,J i)],⟨[],[]⟩)) (fun i x_1 en s=>if a∈l.drop i then x_1=.ret∧en.get 4=B true else x_1=.exit 0) (fun i hok=> ?_) i hok env st hg
 by_cases h:i<l.length
 ·have hx:=ze nl l i h
  have hs:=zh i (by omega)
  have hd:l.drop i=l[i]::l.drop (i+1):=List.drop_eq_getElem_cons h
  have hlt:((i:Int)<(l.length:Int))=True:=eT (by omega)
  rw [hd]
  generalize l[i]=b at*
  by_cases p:b=a
  ·simp only [go_sem,lp100_0,hx,hlt,p,lm_]
   rw [if_pos (by simp)];trivial
  ·simp only [go_sem,lp100_0,hx,hlt,p,hs,lm_]
   refine ⟨i+1,by simp only [go_sem,z3,z5,z8]<;>rfl,?_,?_,fun x en s hq=> ?_⟩
   ·omega
   ·omega
   ·simp only [List.mem_cons,show ¬a=b from fun e=>p e.symm,false_or];exact hq
 ·have hd:l.drop i=[]:=List.drop_eq_nil_of_le (by omega)
  have hlt:((i:Int)<(l.length:Int))=False:=eF (by omega)
  simp only [go_sem,lp100_0,hlt,lm_]
  rw [hd];simp
theorem c100 (nl:Bool)(l:List Int)(hlen:l.length<1000000)(a:Int)(st:St):run L 100 [sl 1 nl (l.map I),I a] st=some (B (decide (a∈l)),st):=by
 rw [run_pure (fn:=ir100) rfl rfl]
 simp only [ir100,go_sem]
 generalize hg:lim (headed pure (run L) true _ lp100_0 _ _) _ _=o
 obtain ⟨x,en,s,rfl,h2⟩: ∃x en s,o=some (x,en,s)∧_:=by rw [←hg];exact zl8 nl l hlen a 0 (by omega) _ _ (by simp only [go_sem,Int.natCast_zero]<;>rfl)
 clear hg
 rw [List.drop_zero] at h2
 by_cases h:a∈l
 ·rw [if_pos h] at h2
  obtain ⟨rfl,h3⟩:=h2
  simp only [go_sem,h3,h]
 ·rw [if_neg h] at h2
  subst h2
  simp only [go_sem,h]
def othF (n:Nat) (l:List Int) (i:Nat):List Int:=((List.range' i (n-i)).filter fun (a:Nat)=> !decide ((a:Int)∈l)).map fun (a:Nat)=>(a:Int)
theorem zjb (n:Nat)(l:List Int)(i:Nat)(h:i<n):othF n l i=if (i:Int)∈l then othF n l (i+1) else (i:Int)::othF n l (i+1):=by
 unfold othF
 rw [show n-i=(n-(i+1))+1 by omega,List.range'_succ,List.filter_cons]
 by_cases p:(i:Int)∈l
 ·rw [if_pos p,if_neg (by simp [p])]
 ·rw [if_neg p,if_pos (by simp [p])];rfl
theorem zkx (n:Nat)(l:List Int)(i:Nat)(h: ¬i<n):othF n l i=[]:=by
 unfold othF
 rw [show n-i=0 by omega];rfl
theorem zfa (n:Nat)(l:List Int)(i:Nat):(othF n l i).length≤n-i:=by
 unfold othF
 rw [lm_]
 exact Nat.le_trans (List.length_filter_le _ _) (by simp)
theorem zl5 (n:Nat)(hn:n≤8)(nl:Bool)(l:List Int)(hlen:l.length<1000000)(i:Nat)(o:List Int)(hok:i≤n∧o.length≤i)(env:Env)(st:St)
  (hg:gcAV true 0 0 (canon env [0,1,5,6]) st=([(0,J n),(1,sl 1 nl (l.map I)),(5,oA (o.map I)),(6,J i)],⟨[],oT (o.map I)⟩)):
  ∃x_1 en s,lim (headed pure (run L) true [0,1,5,6] lp125_0 0 0) env st=some (x_1,en,s)∧(x_1=.exit 0∧en.get 5=oA ((o++othF n l i).map I)∧s=⟨[],oT ((o++othF n l i).map I)⟩):=by
 refine zb (α:=Nat×List Int) (fun ⟨i,o⟩=>n-i) (fun ⟨i,o⟩=>i≤n∧o.length≤i) (fun ⟨i,o⟩=>([(0,J n),(1,sl 1 nl (l.map I)),(5,oA (o.map I)),(6,J i)],⟨[],oT (o.map I)⟩)) (fun ⟨i,o⟩ x_1 en s=>x_1=.exit 0∧en.get 5=oA ((o++othF n l i).map I)∧s=⟨[],oT ((o++othF n l i).map I)⟩) (fun ⟨i,o⟩ hok=> ?_) ⟨i,o⟩ hok env st hg
 simp only at hok
 obtain ⟨h1,h2⟩:=hok
 dsimp only at h1 h2⊢
 by_cases h:i<n
 ·have hs:=zh i (by omega)
  have hlt:((i:Int)<(n:Int))=True:=eT (by omega)
  have h100:=fun st=>c100 nl l hlen (i:Int) st
  rw [zjb n l i h]
  by_cases p:(i:Int)∈l
  ·rw [decide_eq_true p] at h100
   rw [if_pos p]
   simp only [go_sem,lp125_0,hlt,hs,h100]
   refine ⟨(i+1,o),by simp only [go_sem,z3,z5,z8,zf5,z8o]<;>rfl,?_,?_,fun x en s hq=> ?_⟩
   ·dsimp only;omega
   ·dsimp only;omega
   ·exact hq
  ·rw [decide_eq_false p] at h100
   rw [if_neg p]
   have happ:=fun S=>zd2 (o.map I) (J i) S (by rw [lm_];omega)
   simp only [go_sem,lp125_0,hlt,hs,h100,happ]
   refine ⟨(i+1,o++ [(i:Int)]),by simp only [go_sem,z3,z5,z8,zf5,z8o,List.map_append]<;>rfl,?_,?_,fun x en s hq=> ?_⟩
   ·dsimp only;rw [List.length_append,List.length_singleton];omega
   ·dsimp only;omega
   ·simp only [List.append_assoc,List.singleton_append] at hq;exact hq
 ·have hlt:((i:Int)<(n:Int))=False:=eF (by omega)
  rw [zkx n l i h,List.append_nil]
  simp only [go_sem,lp125_0,hlt]
theorem c125 (n:Nat)(hn:n≤8)(nl:Bool)(l:List Int)(hlen:l.length<1000000)(st:St):run L 125 [J n,sl 1 nl (l.map I)] st=some (tAV (othF n l 0),st):=by
 rw [run_pure (fn:=ir125) rfl rfl]
 simp only [ir125,go_sem]
 generalize hg:lim (headed pure (run L) true _ lp125_0 _ _) _ _=o
 obtain ⟨x,en,s,rfl,h2⟩: ∃x en s,o=some (x,en,s)∧_:=by rw [←hg];exact zl5 n hn nl l hlen 0 [] ⟨by omega,by simp⟩ _ _ (by simp only [go_sem,Int.natCast_zero,List.map_nil,zek,zhp]<;>rfl)
 clear hg
 rw [List.nil_append] at h2
 obtain ⟨rfl,h3,rfl⟩:=h2
 simp only [go_sem,h3]
 rfl
theorem c110 (n:Nat)(hn:n≤8)(nl:Bool)(l:List Int)(hlen:l.length<1000000)(st:St):run L 110 [J n,sl 1 nl (l.map I)] st=some (if (0:Int)∈l then tAV (othF n l 0) else sl 1 nl (l.map I),st):=by
 rw [run_pure (fn:=ir110) rfl rfl]
 have h100:=fun st=>c100 nl l hlen 0 st
 have h125:=fun st=>c125 n hn nl l hlen st
 by_cases p:(0:Int)∈l
 ·rw [decide_eq_true p] at h100
  rw [if_pos p]
  simp only [ir110,go_sem,h100,h125]
  unfold tAV
  simp only [go_sem]
 ·rw [decide_eq_false p] at h100
  rw [if_neg p]
  simp only [ir110,go_sem,h100]
theorem loop87 (n1 n2:Bool)(xs ys:List Int)(hl:xs.length=ys.length)(hlen:xs.length<1000000)(i:Nat)(hok:i≤xs.length)(env:Env)(st:St)
  (hg:gcAV true 0 0 (canon env [0,1,5]) st=([(0,sl 1 n1 (xs.map I)),(1,sl 1 n2 (ys.map I)),(5,I i)],⟨[],[]⟩)):
  ∃x_1 en s,lim (headed pure (run L) true [0,1,5] lp87_0 0 0) env st=some (x_1,en,s)∧(if xs.drop i=ys.drop i then x_1=.exit 0 else x_1=.ret∧en.get 4=B false):=by
 refine zb (α:=Nat) (fun i=>xs.length-i) (fun i=>i≤xs.length) (fun i=>([(0,sl 1 n1 (xs.map I)),(1,sl 1 n2 (ys.map I)),(5,I i)],⟨[],[]⟩)) (fun i x_1 en s=>if xs.drop i=ys.drop i then x_1=.exit 0 else x_1=.ret∧en.get 4=B false) (fun i hok=> ?_) i hok env st hg
 by_cases h:i<xs.length
 ·have hx:=ze n1 xs i h
  have hy:=ze n2 ys i (by omega)
  have hs:=zh i (by omega)
  have hd:xs.drop i=xs[i]::xs.drop (i+1):=List.drop_eq_getElem_cons h
  have hd2:ys.drop i=ys[i]::ys.drop (i+1):=List.drop_eq_getElem_cons (by omega)
  have hlt:((i:Int)<(xs.length:Int))=True:=eT (by omega)
  rw [hd,hd2]
  generalize xs[i]=a at*
  generalize ys[i]'(by omega)=b at*
  by_cases p:a=b
  ·simp only [go_sem,lp87_0,hx,hy,hlt,p,hs,lm_]
   refine ⟨i+1,by simp only [go_sem,z3,z5,z8]<;>rfl,?_,?_,fun x en s hq=> ?_⟩
   ·omega
   ·omega
   ·simp only [List.cons.injEq,p,true_and];exact hq
  ·simp only [go_sem,lp87_0,hx,hy,hlt,p,lm_]
   rw [if_neg (by simp [p])];trivial
 ·have hd:xs.drop i=[]:=List.drop_eq_nil_of_le (by omega)
  have hd2:ys.drop i=[]:=List.drop_eq_nil_of_le (by omega)
  have hlt:((i:Int)<(xs.length:Int))=False:=eF (by omega)
  simp only [go_sem,lp87_0,hlt,lm_]
  rw [hd,hd2];simp
theorem c87 (n1 n2:Bool)(xs ys:List Int)(hlen:xs.length<1000000)(st:St):run L 87 [sl 1 n1 (xs.map I),sl 1 n2 (ys.map I)] st=some (B (decide (xs=ys)),st):=by
 rw [run_pure (fn:=ir87) rfl rfl]
 by_cases hl:xs.length=ys.length
 ·simp only [ir87,go_sem,lm_,hl]
  generalize hg:lim (headed pure (run L) true _ lp87_0 _ _) _ _=o
  obtain ⟨x,en,s,rfl,h2⟩: ∃x en s,o=some (x,en,s)∧_:=by rw [←hg];exact loop87 n1 n2 xs ys hl hlen 0 (by omega) _ _ (by simp only [go_sem]<;>rfl)
  clear hg
  simp only [List.drop_zero] at h2
  by_cases h:xs=ys
  ·rw [if_pos h] at h2
   subst h2
   simp only [go_sem,h]
  ·rw [if_neg h] at h2
   obtain ⟨rfl,h3⟩:=h2
   simp only [go_sem,h3,h]
 ·have hl2:((xs.length:Int)=(ys.length:Int))=False:=eF (by omega)
  have hne: ¬xs=ys:=fun h=>hl (by rw [h])
  simp only [ir87,go_sem,lm_,hl2,hne]
def apartL (l k:List Int):Bool:=l.all fun a=> !decide (a∈k)
theorem zl4 (n1 n2:Bool)(l k:List Int)(hlen:l.length<1000000)(hlk:k.length<1000000)(i:Nat)(hok:i≤l.length)(env:Env)(st:St)
  (hg:gcAV true 0 0 (canon env [0,1,5]) st=([(0,sl 1 n1 (l.map I)),(1,sl 1 n2 (k.map I)),(5,I i)],⟨[],[]⟩)):
  ∃x_1 en s,lim (headed pure (run L) true [0,1,5] lp126_0 0 0) env st=some (x_1,en,s)∧(if apartL (l.drop i) k=true then x_1=.exit 0 else x_1=.ret∧en.get 4=B false):=by
 refine zb (α:=Nat) (fun i=>l.length-i) (fun i=>i≤l.length) (fun i=>([(0,sl 1 n1 (l.map I)),(1,sl 1 n2 (k.map I)),(5,I i)],⟨[],[]⟩)) (fun i x_1 en s=>if apartL (l.drop i) k=true then x_1=.exit 0 else x_1=.ret∧en.get 4=B false) (fun i hok=> ?_) i hok env st hg
 by_cases h:i<l.length
 ·have hx:=ze n1 l i h
  have hs:=zh i (by omega)
  have hd:l.drop i=l[i]::l.drop (i+1):=List.drop_eq_getElem_cons h
  have hlt:((i:Int)<(l.length:Int))=True:=eT (by omega)
  rw [hd]
  generalize l[i]=a at*
  have h100:=fun st=>c100 n2 k hlk a st
  have e:apartL (a::l.drop (i+1)) k=(!decide (a∈k)&&apartL (l.drop (i+1)) k):=rfl
  rw [e]
  by_cases p:a∈k
  ·rw [decide_eq_true p] at h100⊢
   simp only [go_sem,lp126_0,hx,hlt,h100,lm_]
   try (rw [if_neg (by simp)];trivial)
  ·rw [decide_eq_false p] at h100⊢
   simp only [go_sem,lp126_0,hx,hlt,h100,hs,lm_]
   refine ⟨i+1,by simp only [go_sem,z3,z5,z8]<;>rfl,?_,?_,fun x en s hq=> ?_⟩
   ·omega
   ·omega
   ·simpa using hq
 ·have hd:l.drop i=[]:=List.drop_eq_nil_of_le (by omega)
  have hlt:((i:Int)<(l.length:Int))=False:=eF (by omega)
  simp only [go_sem,lp126_0,hlt,lm_]
  rw [hd,show apartL [] k=true from rfl,if_pos rfl];trivial
theorem c126 (n1 n2:Bool)(l k:List Int)(hlen:l.length<1000000)(hlk:k.length<1000000)(st:St):run L 126 [sl 1 n1 (l.map I),sl 1 n2 (k.map I)] st=some (B (apartL l k),st):=by
 rw [run_pure (fn:=ir126) rfl rfl]
 simp only [ir126,go_sem]
 generalize hg:lim (headed pure (run L) true _ lp126_0 _ _) _ _=o
 obtain ⟨x,en,s,rfl,h2⟩: ∃x en s,o=some (x,en,s)∧_:=by rw [←hg];exact zl4 n1 n2 l k hlen hlk 0 (by omega) _ _ (by simp only [go_sem,Int.natCast_zero]<;>rfl)
 clear hg
 rw [List.drop_zero] at h2
 cases h:apartL l k with
 |true=>
  rw [h,if_pos rfl] at h2
  subst h2
  simp only [go_sem]
 |false=>
  rw [h,if_neg (by simp)] at h2
  obtain ⟨rfl,h3⟩:=h2
  simp only [go_sem,h3]
def agreeL (n:Nat) (a b:List Int):Bool:=apartL a b||apartL a (othF n b 0)||apartL (othF n a 0) b||apartL (othF n a 0) (othF n b 0)
theorem c72 (n:Nat)(hn:n≤8)(n1 n2:Bool)(a b:List Int)(hla:a.length<1000000)(hlb:b.length<1000000)(st:St):run L 72 [J n,sl 1 n1 (a.map I),sl 1 n2 (b.map I)] st=some (B (agreeL n a b),st):=by
 rw [run_pure (fn:=ir72) rfl rfl]
 have ha:=fun st=>c125 n hn n1 a hla st
 have hb:=fun st=>c125 n hn n2 b hlb st
 have la:=zfa n a 0
 have lb:=zfa n b 0
 have h1:=fun st=>c126 n1 n2 a b hla hlb st
 have h2:=fun st=>c126 n1 true a (othF n b 0) hla (by omega) st
 have h3:=fun st=>c126 true n2 (othF n a 0) b (by omega) hlb st
 have h4:=fun st=>c126 true true (othF n a 0) (othF n b 0) (by omega) (by omega) st
 unfold agreeL
 generalize othF n a 0=oa at*
 generalize othF n b 0=ob at*
 unfold tAV at ha hb
 cases e1:apartL a b<;>rw [e1] at h1
 ·cases e2:apartL a ob<;>rw [e2] at h2
  ·cases e3:apartL oa b<;>rw [e3] at h3
   ·cases e4:apartL oa ob<;>rw [e4] at h4<;>simp only [ir72,go_sem,ha,hb,h1,h2,h3,h4,Bool.or_false,Bool.or_true]
   ·simp only [ir72,go_sem,ha,hb,h1,h2,h3,Bool.or_false,Bool.or_true,Bool.true_or]
  ·simp only [ir72,go_sem,ha,hb,h1,h2,Bool.or_false,Bool.or_true,Bool.true_or]
 ·simp only [ir72,go_sem,ha,hb,h1,Bool.or_false,Bool.or_true,Bool.true_or]
attribute [local go_sem] m_ x_ l_ k_ o_ t_ a_ s_ q_ b_ c_ u_ g_ zr zd zl zu z28 z25 zg zk zj za zi z2o z1l z3h z3a z07 z38 z9g
theorem zjd (n:Nat)(l:List Int):(othF n l 0).Pairwise (· < ·):=by
 unfold othF
 rw [List.pairwise_map]
 exact ((List.pairwise_lt_range' (s:=0) (n:=n-0)).sublist List.filter_sublist).imp (fun h=>by omega)
theorem zjc (n:Nat)(l:List Int)(a:Int):a∈othF n l 0↔∃i:Nat,a=i∧i<n∧(i:Int) ∉ l:=by
 unfold othF
 rw [List.mem_map]
 constructor
 ·rintro ⟨i,hi,rfl⟩
  rw [List.mem_filter,List.mem_range'_1] at hi
  exact ⟨i,rfl,by omega,by simpa using hi.2⟩
 ·rintro ⟨i,rfl,h1,h2⟩
  exact ⟨i,by rw [List.mem_filter,List.mem_range'_1];exact ⟨by omega,by simpa using h2⟩,rfl⟩
theorem z5j {v:Nat} (hv:v<512)(i:Nat):(i:Int)∈memb v↔v.testBit i=true:=by
 rw [z21 hv]
 constructor
 ·rintro ⟨k,e,h⟩
  have:i=k:=by omega
  subst this;exact h
 ·intro h;exact ⟨i,rfl,h⟩
theorem z2a {n v:Nat} (hv:v<2^n)(i:Nat):(v^^^(2^n-1)).testBit i=(decide (i<n)&& !v.testBit i):=by
 rw [Nat.testBit_xor,z78]
 by_cases h:i<n
 ·rw [decide_eq_true h];cases v.testBit i<;>rfl
 ·rw [decide_eq_false h,zfv hv i (by omega)];rfl
theorem zbz {n v:Nat} (hv:v<2^n):v^^^(2^n-1)<2^n:=by
 have:=Nat.two_pow_pos n
 exact Nat.xor_lt_two_pow hv (by omega)
theorem zcc {n v:Nat} (hn:n≤8)(hv:v<2^n):othF n (memb v) 0=memb (v^^^(2^n-1)):=by
 have h2n:2^n≤256:=Nat.pow_le_pow_right (n:=2) (by decide) hn
 have hx:=zbz hv
 apply zeu _ _ (zjd n _) (zcg _)
 intro a
 rw [zjc,z21 (by omega)]
 constructor
 ·rintro ⟨i,rfl,h1,h2⟩
  refine ⟨i,rfl,?_⟩
  rw [z5j (by omega)] at h2
  rw [z2a hv,decide_eq_true h1];simpa using h2
 ·rintro ⟨i,rfl,h⟩
  rw [z2a hv,Bool.and_eq_true,decide_eq_true_eq] at h
  refine ⟨i,rfl,h.1,?_⟩
  rw [z5j (by omega)];simpa using h.2
theorem zli (n:Nat)(hn:n≤8)(v:Nat)(hv:v<2^n)(st:St):run L 110 [J n,tM v] st=some (tM (smlN n v),st):=by
 have h2n:2^n≤256:=Nat.pow_le_pow_right (n:=2) (by decide) hn
 have hm:=z0s v
 have h:=c110 n hn true (memb v) (by omega) st
 rw [zcc hn hv] at h
 have hb:(0:Int)∈memb v↔v.testBit 0=true:=z5j (v:=v) (by omega) 0
 unfold smlN
 by_cases p:v.testBit 0=true
 ·rw [if_pos (hb.2 p)] at h
  rw [if_pos p];exact h
 ·rw [if_neg (fun q=>p (hb.1 q))] at h
  rw [if_neg p];exact h
theorem c87M (a b:Nat)(ha:a<512)(hb:b<512)(st:St):run L 87 [tM a,tM b] st=some (B (decide (a=b)),st):=by
 have hm:=z0s a
 have h:=c87 true true (memb a) (memb b) (by omega) st
 have e:decide (memb a=memb b)=decide (a=b):=by
  rw [Bool.eq_iff_iff,decide_eq_true_eq,decide_eq_true_eq]
  exact ⟨zfe ha hb,fun h=>by rw [h]⟩
 rw [e] at h
 exact h
theorem z5q {a b:Nat} (ha:a<512)(hb:b<512):apartL (memb a) (memb b)=decide (a&&&b=0):=by
 rw [Bool.eq_iff_iff,decide_eq_true_eq,z8r]
 unfold apartL
 rw [List.all_eq_true]
 constructor
 ·intro h i hi
  have:=h (i:Int) ((z5j ha i).2 hi)
  rw [Bool.not_eq_true',decide_eq_false_iff_not,z5j hb] at this
  simpa using this
 ·intro h x hx
  obtain ⟨i,rfl,hi⟩:=(z21 ha x).1 hx
  have:=h i hi
  rw [Bool.not_eq_true',decide_eq_false_iff_not,z5j hb]
  simpa using this
def ag4 (n a b:Nat):Bool:=decide (a&&&b=0)||decide (a&&&(b^^^(2^n-1))=0)||decide ((a^^^(2^n-1))&&&b=0)||decide ((a^^^(2^n-1))&&&(b^^^(2^n-1))=0)
theorem zd4 {n v:Nat}:(v^^^(2^n-1))^^^(2^n-1)=v:=by rw [Nat.xor_assoc,Nat.xor_self,Nat.xor_zero]
theorem ag4_l (n a b:Nat):ag4 n (a^^^(2^n-1)) b=ag4 n a b:=by
 unfold ag4
 rw [zd4]
 cases decide (a&&&b=0)<;>cases decide (a&&&(b^^^(2^n-1))=0)<;>cases decide ((a^^^(2^n-1))&&&b=0)<;>cases decide ((a^^^(2^n-1))&&&(b^^^(2^n-1))=0)<;>rfl
theorem ag4_r (n a b:Nat):ag4 n a (b^^^(2^n-1))=ag4 n a b:=by
 unfold ag4
 rw [zd4]
 cases decide (a&&&b=0)<;>cases decide (a&&&(b^^^(2^n-1))=0)<;>cases decide ((a^^^(2^n-1))&&&b=0)<;>cases decide ((a^^^(2^n-1))&&&(b^^^(2^n-1))=0)<;>rfl
theorem zlm (n a b:Nat):ag4 n (smlN n a) (smlN n b)=ag4 n a b:=by
 unfold smlN
 split<;>split<;>simp only [ag4_l,ag4_r]
theorem zea {n a b:Nat} (ha:a<2^n)(hb:b<2^n):a&&&(b^^^(2^n-1))=0↔Sub a b:=by
 rw [z8r]
 constructor
 ·intro h i hi
  have:=h i hi
  rw [z2a hb] at this
  have hin:i<n:=by
   apply Nat.lt_of_not_le;intro h9
   rw [zfv ha i h9] at hi;cases hi
  rw [decide_eq_true hin] at this
  simpa using this
 ·intro h i hi
  rw [z2a hb,h i hi];simp
theorem zk6 {n a b:Nat} (h1:1≤n)(hn:n≤8)(ha:a<2^n)(hb:b<2^n)(ha0:a.testBit 0=false)(hb0:b.testBit 0=false):ag4 n a b=agN a b:=by
 have h2n:2^n≤256:=Nat.pow_le_pow_right (n:=2) (by decide) hn
 rw [Bool.eq_iff_iff,ag_iff (by omega) (by omega)]
 unfold ag4
 simp only [Bool.or_eq_true,decide_eq_true_eq]
 rw [zea ha hb,Nat.and_comm (a^^^(2^n-1)) b,zea hb ha,z8r]
 constructor
 ·rintro (((h|h)|h)|h)
  ·exact .inl h
  ·exact .inr (.inl h)
  ·exact .inr (.inr h)
  ·have hc:=congrArg (fun x=>x.testBit 0) h
   simp only [Nat.testBit_and,z2a ha,z2a hb,ha0,hb0,Nat.zero_testBit] at hc
   rw [decide_eq_true (show 0<n by omega)] at hc
   cases hc
 ·rintro (h|h|h)
  ·exact .inl (.inl (.inl h))
  ·exact .inl (.inl (.inr h))
  ·exact .inl (.inr h)
theorem zd8 {n v:Nat} (h1:1≤n):(smlN n v).testBit 0=false:=by
 unfold smlN
 split
 ·rename_i h
  rw [Nat.testBit_xor,z78,h,decide_eq_true (show 0<n by omega)];rfl
 ·rename_i h;simpa using h
theorem zir {n a b:Nat} (h1:1≤n)(hn:n≤8)(ha:a<2^n)(hb:b<2^n):agreeL n (memb a) (memb b)=agN (smlN n a) (smlN n b):=by
 have h2n:2^n≤256:=Nat.pow_le_pow_right (n:=2) (by decide) hn
 have hx:=zbz ha
 have hy:=zbz hb
 have e:agreeL n (memb a) (memb b)=ag4 n a b:=by
  unfold agreeL ag4
  rw [zcc hn ha,zcc hn hb,z5q (by omega) (by omega),z5q (by omega) (by omega),z5q (by omega) (by omega),z5q (by omega) (by omega)]
 rw [e,←zlm,zk6 h1 hn (z3q ha) (z3q hb) (zd8 h1) (zd8 h1)]
theorem c72M (n:Nat)(h1:1≤n)(hn:n≤8)(a b:Nat)(ha:a<2^n)(hb:b<2^n)(st:St):run L 72 [J n,tM a,tM b] st=some (B (agN (smlN n a) (smlN n b)),st):=by
 have hla:=z0s a
 have hlb:=z0s b
 have h:=c72 n hn true true (memb a) (memb b) (by omega) (by omega) st
 rw [zir h1 hn ha hb] at h
 exact h
attribute [local go_sem] m_ x_ l_ k_ o_ t_ a_ s_ q_ b_ c_ u_ g_ zr zd zl zu z28 z25 zg zk zj za zi z2o z1l z3h z3a z07 z38 z9g
theorem zkw: ∀n:Fin 9,pc (2^n.val-1)=n.val:=by decide
theorem zjo {n v:Nat} (hn:n≤8)(hv:v<2^n):(memb v).length=n↔v=2^n-1:=by
 have h2n:2^n≤256:=Nat.pow_le_pow_right (n:=2) (by decide) hn
 have hp:=Nat.two_pow_pos n
 have hf:pc (2^n-1)=n:=zkw ⟨n,by omega⟩
 constructor
 ·intro h
  have hs:Sub v (2^n-1):=fun i hi=>by
   rw [z78,decide_eq_true_eq]
   apply Nat.lt_of_not_le;intro h9
   rw [zfv hv i h9] at hi;cases hi
  apply pc_inj (by omega) (by omega) hs
  rw [hf];exact Nat.le_of_eq h.symm
 ·intro h
  subst h;exact hf
theorem zj0 {n v:Nat} (h1:1≤n)(h0:v≠0):smlN n v=0↔v=2^n-1:=by
 constructor
 ·intro h
  apply Classical.byContradiction;intro hne
  exact zh6 h0 hne h
 ·rintro rfl
  unfold smlN
  rw [if_pos (by rw [z78];simp;omega),Nat.xor_self]
theorem zjm (n:Nat)(h1n:1≤n)(hn:n≤8)(nl:Bool)(G:List GS)(l:List Int)(hlen:l.length<1000)(k:Nat)(i:Nat)(hok:i≤l.length)(env:Env)(st:St)
  (hg:gcAV true 0 0 (canon env [0,1,5,6,7]) st=([(0,J n),(1,sl 1 nl (G.map gM)),(5,J k),(6,tAV l),(7,J i)],⟨[],[]⟩)):
  ∃x_1 en s,lim (headed pure (run L) true [0,1,5,6,7] lp48_0 0 0) env st=some (x_1,en,s)∧((rowAt n l i=0∧x_1=.exit 2∧en.get 0=J n∧en.get 1=sl 1 nl (G.map gM)∧en.get 5=J k∧en.get 6=tAV l∧s=⟨[],[]⟩)∨(rowAt n l i≠0∧x_1=.ret∧en.get 4=I (rowAt n l i))):=by
 refine zb (α:=Nat) (fun i=>l.length-i) (fun i=>i≤l.length) (fun i=>([(0,J n),(1,sl 1 nl (G.map gM)),(5,J k),(6,tAV l),(7,J i)],⟨[],[]⟩)) (fun i x_1 en s=>(rowAt n l i=0∧x_1=.exit 2∧en.get 0=J n∧en.get 1=sl 1 nl (G.map gM)∧en.get 5=J k∧en.get 6=tAV l∧s=⟨[],[]⟩)∨(rowAt n l i≠0∧x_1=.ret∧en.get 4=I (rowAt n l i))) (fun i hok=> ?_) i hok env st hg
 have hll:lenAV (tAV l)=some (J l.length):=z08 I true l
 by_cases h:i<l.length
 ·have hs:=zh i (by omega)
  have hx:indexSAV 1 (tAV l) (.v (.int .i64 (i:Int)))=some (.eptr (I l[i]) 0):=ze true l i h
  have hlt:((i:Int)<(l.length:Int))=True:=eT (by omega)
  have hst:=z7r n l i h
  have hn1:IntKind.i64.wrap ((n:Int)-1)=(n:Int)-1:=by rw [z09]<;>omega
  have h98:=fun a st=>c98 a 0 ((n:Int)-1) st
  rw [hst]
  by_cases q1:l[i]<0∨(n:Int)≤l[i]
  ·rw [if_pos q1]
   have h98:=fun st=>h98 l[i] st
   rw [decide_eq_false (by omega)] at h98
   simp only [go_sem,lp48_0,hll,hlt,hs,hx,hn1,h98]
   decide
  ·rw [if_neg q1]
   have h98:=fun st=>h98 l[i] st
   rw [decide_eq_true (by omega)] at h98
   by_cases h0:0<i
   ·have q3:((0:Int)<(i:Int))=True:=eT (by omega)
    have hm:IntKind.i64.wrap ((i:Int)-1)=((i-1:Nat):Int):=by
     rw [←w64 (i-1) (by omega)];congr 1;omega
    have hx2:indexSAV 1 (tAV l) (.v (.int .i64 ((i-1:Nat):Int)))=some (.eptr (I (l[i-1]'(by omega))) 0):=ze true l (i-1) (by omega)
    rw [if_neg (show ¬i=0 by omega),List.getElem?_eq_getElem (show i-1<l.length by omega)]
    generalize l[i-1]'(by omega)=b at*
    generalize l[i]=a at*
    have hpb:prevB (some b) a=decide (a≤b):=rfl
    rw [hpb]
    by_cases q4:a≤b
    ·rw [if_pos (by simpa using q4)]
     simp only [go_sem,lp48_0,hll,hlt,hs,hx,hn1,h98,q3,hm,hx2,q4]
     decide
    ·rw [if_neg (by simpa using q4)]
     simp only [go_sem,lp48_0,hll,hlt,hs,hx,hn1,h98,q3,hm,hx2,q4]
     refine ⟨i+1,by simp only [go_sem,z3,z5,z8,z16]<;>rfl,?_,?_,fun x en s hq=> ?_⟩
     ·omega
     ·omega
     ·exact hq
   ·have q3:((0:Int)<(i:Int))=False:=eF (by omega)
    rw [if_pos (show i=0 by omega)]
    generalize l[i]=a at*
    have hpb:prevB none a=false:=rfl
    rw [hpb,if_neg (by simp)]
    simp only [go_sem,lp48_0,hll,hlt,hs,hx,hn1,h98,q3]
    refine ⟨i+1,by simp only [go_sem,z3,z5,z8,z16]<;>rfl,?_,?_,fun x en s hq=> ?_⟩
    ·omega
    ·omega
    ·exact hq
 ·have hlt:((i:Int)<(l.length:Int))=False:=eF (by omega)
  rw [z95 n l i h]
  simp only [go_sem,lp48_0,hll,hlt]
theorem zc7 (n:Nat)(tips:List Nat)(v:Nat)(acc:List (Nat×Nat)):ren1 n tips acc (tM v)=(tM v,acc):=z16 _ _ _ _
theorem z8n (n v:Nat):okRef n (tM v)=true:=zi _ _
theorem zix {G:List GS} {X:List Nat} {i:Nat} (h:(G.take i).map gM=X.map tM)(hX:X.length=i) {j:Nat} (hj:j<i)(hg:j<G.length):gM G[j]=tM (X[j]'(by omega)):=by
 have e:=congrArg (fun l:List AV=>l[j]?) h
 simp only [List.getElem?_map,List.getElem?_take,if_pos hj] at e
 rw [List.getElem?_eq_getElem hg,List.getElem?_eq_getElem (show j<X.length by omega)] at e
 simpa using e
theorem zjl (n:Nat)(h1n:1≤n)(hn:n≤8)(nl:Bool)(G:List GS)(hGl:G.length≤13)(v:Nat)(hv:v<2^n)(X:List Nat)(hX: ∀x∈X,x<2^n)(i:Nat)(hi:i<G.length)(hXl:X.length=i)(hGX:(G.take i).map gM=X.map tM)(j:Nat)(hok:j≤i)(env:Env)(st:St)
  (hg:gcAV true 0 0 (canon env [0,1,5,6,8]) st=([(0,J n),(1,sl 1 nl (G.map gM)),(5,J i),(6,tM v),(8,J j)],⟨[],[]⟩)):
  ∃x_1 en s,lim (headed pure (run L) true [0,1,5,6,8] lp48_1 0 0) env st=some (x_1,en,s)∧(if smlN n v∈(X.map (smlN n)).drop j then x_1=.ret∧en.get 4=I 6 else (x_1=.exit 4∧en.get 0=J n∧en.get 1=sl 1 nl (G.map gM)∧en.get 5=J i∧s=⟨[],[]⟩)):=by
 refine zb (α:=Nat) (fun j=>i-j) (fun j=>j≤i) (fun j=>([(0,J n),(1,sl 1 nl (G.map gM)),(5,J i),(6,tM v),(8,J j)],⟨[],[]⟩)) (fun j x_1 en s=>if smlN n v∈(X.map (smlN n)).drop j then x_1=.ret∧en.get 4=I 6 else (x_1=.exit 4∧en.get 0=J n∧en.get 1=sl 1 nl (G.map gM)∧en.get 5=J i∧s=⟨[],[]⟩)) (fun j hok=> ?_) j hok env st hg
 by_cases h:j<i
 ·have hs:=zh j (by omega)
  have hlt:((j:Int)<(i:Int))=True:=eT (by omega)
  have hx:=z23 gM nl G j (by omega)
  have hget:=zix hGX hXl h (by omega)
  rw [hget] at hx
  have h2n:2^n≤256:=Nat.pow_le_pow_right (n:=2) (by decide) hn
  have hxl:=hX (X[j]'(by omega)) (List.getElem_mem _)
  have hd:(X.map (smlN n)).drop j=smlN n (X[j]'(by omega))::(X.map (smlN n)).drop (j+1):=by
   rw [List.drop_eq_getElem_cons (by rw [lm_];omega),List.getElem_map]
  rw [hd]
  generalize X[j]'(by omega)=x at*
  have ha:=fun st=>zli n hn v hv st
  have hb:=fun st=>zli n hn x hxl st
  have l1:=z3q hv
  have l2:=z3q hxl
  have hc:=fun st=>c87M (smlN n v) (smlN n x) (by omega) (by omega) st
  by_cases p:smlN n v=smlN n x
  ·rw [decide_eq_true p] at hc
   have hin:(smlN n v∈smlN n x::(X.map (smlN n)).drop (j+1))=True:=eT (by rw [p];exact List.mem_cons_self)
   simp only [go_sem,lp48_1,hlt,hx,ha,hb,hc,hin]
  ·rw [decide_eq_false p] at hc
   have e:(smlN n v∈smlN n x::(X.map (smlN n)).drop (j+1))=(smlN n v∈(X.map (smlN n)).drop (j+1)):=by
    rw [List.mem_cons];exact propext ⟨fun h=>h.resolve_left p,fun h=> .inr h⟩
   simp only [e]
   simp only [go_sem,lp48_1,hlt,hx,ha,hb,hc,hs]
   refine ⟨j+1,by simp only [go_sem,z3,z5,z8,zc7,z8n]<;>rfl,?_,?_,fun x en s hq=> ?_⟩
   ·omega
   ·omega
   ·exact hq
 ·have e:(X.map (smlN n)).drop j=[]:=List.drop_eq_nil_of_le (by rw [lm_];omega)
  have hlt:((j:Int)<(i:Int))=False:=eF (by omega)
  have hin:(smlN n v∈([]:List Nat))=False:=eF (by simp)
  rw [e]
  simp only [go_sem,lp48_1,hlt,hin]
theorem zjk (n:Nat)(h1n:1≤n)(hn:n≤8)(nl:Bool)(G:List GS)(hG: ∀p∈G,p.2.length<1000)(hGl:G.length≤13)(i:Nat)(X:List Nat)(hok:i≤G.length∧X.length=i∧(∀x∈X,x<2^n)∧(G.take i).map gM=X.map tM)(env:Env)(st:St)
  (hg:gcAV true 0 0 (canon env [0,1,5]) st=([(0,J n),(1,sl 1 nl (G.map gM)),(5,J i)],⟨[],[]⟩)):
  ∃x_1 en s,lim (headed pure (run L) true [0,1,5] lp48_2 0 0) env st=some (x_1,en,s)∧(((openS n (G.drop i) (X.map (smlN n))).1=0∧x_1=.exit 0)∨((openS n (G.drop i) (X.map (smlN n))).1≠0∧x_1=.ret∧en.get 4=I (openS n (G.drop i) (X.map (smlN n))).1)):=by
 refine zb (α:=Nat×List Nat) (fun ⟨i,X⟩=>G.length-i) (fun ⟨i,X⟩=>i≤G.length∧X.length=i∧(∀x∈X,x<2^n)∧(G.take i).map gM=X.map tM) (fun ⟨i,X⟩=>([(0,J n),(1,sl 1 nl (G.map gM)),(5,J i)],⟨[],[]⟩)) (fun ⟨i,X⟩ x_1 en s=>((openS n (G.drop i) (X.map (smlN n))).1=0∧x_1=.exit 0)∨((openS n (G.drop i) (X.map (smlN n))).1≠0∧x_1=.ret∧en.get 4=I (openS n (G.drop i) (X.map (smlN n))).1)) (fun ⟨i,X⟩ hok=> ?_) ⟨i,X⟩ hok env st hg
 simp only at hok
 obtain ⟨h1,hXl,h3,h4⟩:=hok
 dsimp only at h1 hXl h3 h4⊢
 have hGn:lenAV (sl 1 nl (G.map gM))=some (J G.length):=z08 gM nl G
 by_cases h:i<G.length
 ·have hs:=zh i (by omega)
  have hlt:((i:Int)<(G.length:Int))=True:=eT (by omega)
  have hx:=z23 gM nl G i h
  have hgl:=hG G[i] (List.getElem_mem h)
  have hd:G.drop i=G[i]::G.drop (i+1):=List.drop_eq_getElem_cons h
  have hT:(G.take (i+1)).map gM=X.map tM++ [gM G[i]]:=by
   rw [List.take_succ,List.getElem?_eq_getElem h,List.map_append,h4];rfl
  rw [hd]
  generalize G[i]=p at*
  obtain ⟨b,l⟩:=p
  dsimp only at hgl
  have h2n:2^n≤256:=Nat.pow_le_pow_right (n:=2) (by decide) hn
  have hos:openS n ((b,l)::G.drop (i+1)) (X.map (smlN n))=if sideE n l≠0 then (sideE n l,X.map (smlN n)) else if smlN n (maskL l)=0 then (5,X.map (smlN n)) else if smlN n (maskL l)∈X.map (smlN n) then (6,X.map (smlN n)) else openS n (G.drop (i+1)) (X.map (smlN n)++ [smlN n (maskL l)]):=rfl
  rw [hos]
  by_cases hne:l=[]
  ·have hse:sideE n l=4:=by unfold sideE;rw [if_pos hne]
   rw [hse,if_pos (by decide)]
   subst hne
   have hll0:lenAV (gM (b,[]))=some (I 0):=by cases b<;>rfl
   simp only [go_sem,lp48_2,hGn,hlt,hx,hll0]
   decide
  ·have hgm:=zi9 b hne
   rw [hgm] at hx hT
   have hll:lenAV (tAV l)=some (J l.length):=z08 I true l
   have hl0:((l.length:Int)=0)=False:=eF (by have:=List.length_pos_iff.2 hne;omega)
   have hse:sideE n l=rowAt n l 0:=by unfold sideE rowAt;rw [if_neg hne,if_pos rfl,List.drop_zero]
   rw [hse]
   simp only [go_sem,lp48_2,hGn,hlt,hx,hll,hl0]
   generalize hg:lim (headed pure (run L) true _ lp48_0 _ _) _ _=o
   obtain ⟨x,en,s,rfl,h2⟩: ∃x en s,o=some (x,en,s)∧_:=by rw [←hg];exact zjm n h1n hn nl G l (by omega) i 0 (by omega) _ _ (by simp only [go_sem,Int.natCast_zero,z16]<;>rfl)
   clear hg
   rcases h2 with ⟨er,rfl,e0,e1,e5,e6,rfl⟩ | ⟨er,rfl,e4⟩
   ·rw [if_neg (by simpa using er)]
    have hrow:rowE n none l=0:=by
     have e:=hse.trans er
     unfold sideE at e
     rwa [if_neg hne] at e
    have hl2:=z9p hn hrow
    have hvl:=zch (zb1 l none hrow).1
    have hv0:=zhr (fun a ha=>((zb1 l none hrow).1 a ha).1) hne
    have hlf:=zjo hn hvl
    have hz:=zj0 (n:=n) h1n hv0
    rw [hl2] at hlf
    generalize maskL l=v at*
    have htm:tAV l=tM v:=by unfold tM;rw [hl2]
    rw [htm] at e6 hll hT
    by_cases hf:v=2^n-1
    ·rw [if_pos (hz.2 hf)]
     have q:((l.length:Int)=(n:Int))=True:=eT (by rw [hlf.2 hf])
     simp only [go_sem,lp48_2,e0,e1,e5,e6,hll,q]
     decide
    ·rw [if_neg (fun e=>hf (hz.1 e))]
     have q:((l.length:Int)=(n:Int))=False:=eF (fun e=>hf (hlf.1 (by omega)))
     simp only [go_sem,lp48_2,e0,e1,e5,e6,hll,q]
     generalize hg:lim (headed pure (run L) true _ lp48_1 _ _) _ _=o
     obtain ⟨x,en,s,rfl,h2⟩: ∃x en s,o=some (x,en,s)∧_:=by rw [←hg];exact zjl n h1n hn nl G hGl v hvl X h3 i h hXl h4 0 (by omega) _ _ (by simp only [go_sem,Int.natCast_zero,zc7,z8n,e0,e1,e5,e6]<;>rfl)
     clear hg
     rw [List.drop_zero] at h2
     by_cases hin:smlN n v∈X.map (smlN n)
     ·rw [if_pos hin] at h2⊢
      obtain ⟨rfl,e4⟩:=h2
      simp only [go_sem,lp48_2,e4]
      decide
     ·rw [if_neg hin] at h2⊢
      obtain ⟨rfl,e0,e1,e5,rfl⟩:=h2
      simp only [go_sem,lp48_2,e0,e1,e5,hs]
      refine ⟨(i+1,X++ [v]),by simp only [go_sem,z3,z5,z8,e0,e1,e5]<;>rfl,?_,?_,fun x en s hq=> ?_⟩
      ·dsimp only
       refine ⟨by omega,by rw [List.length_append,List.length_singleton];omega,?_,?_⟩
       ·intro x hx
        rcases List.mem_append.1 hx with hx|hx
        ·exact h3 x hx
        ·rw [List.mem_singleton] at hx;subst hx;exact hvl
       ·rw [hT,List.map_append];rfl
      ·dsimp only;omega
      ·rw [List.map_append] at hq;exact hq
   ·rw [if_pos (by simpa using er)]
    simp only [go_sem,lp48_2,e4]
    exact er
 ·have e:G.drop i=[]:=List.drop_eq_nil_of_le (by omega)
  have hlt:((i:Int)<(G.length:Int))=False:=eF (by omega)
  rw [e,show openS n [] (X.map (smlN n))=(0,X.map (smlN n)) from rfl]
  simp only [go_sem,lp48_2,hGn,hlt]
theorem c48 (n:Int)(nl:Bool)(G:List GS)(hG: ∀p∈G,p.2.length<1000)(hGl:G.length<1000)(st:St):run L 48 [I n,sl 1 nl (G.map gM)] st=some (I (openG n G).1,st):=by
 rw [run_pure (fn:=ir48) rfl rfl]
 have h98:=fun st=>c98 n 2 8 st
 have hGn:lenAV (sl 1 nl (G.map gM))=some (J G.length):=z08 gM nl G
 unfold openG
 by_cases q1:n<2∨8<n
 ·rw [if_pos q1]
  rw [decide_eq_false (by omega)] at h98
  simp only [ir48,go_sem,h98]
 ·rw [if_neg q1]
  rw [decide_eq_true (by omega)] at h98
  obtain ⟨m,rfl⟩:=Int.eq_ofNat_of_zero_le (show 0≤n by omega)
  by_cases q3:13<G.length
  ·rw [if_pos q3]
   have q3:((13:Int)<(G.length:Int))=True:=eT (by omega)
   simp only [ir48,go_sem,h98,hGn,q3]
  ·rw [if_neg q3]
   have q3:((13:Int)<(G.length:Int))=False:=eF (by omega)
   have hto:((m:Int)).toNat=m:=rfl
   rw [hto]
   simp only [ir48,go_sem,h98,hGn,q3]
   generalize hg:lim (headed pure (run L) true _ lp48_2 _ _) _ _=o
   obtain ⟨x,en,s,rfl,h2⟩: ∃x en s,o=some (x,en,s)∧_:=by rw [←hg];exact zjk m (by omega) (by omega) nl G hG (by omega) 0 [] ⟨by omega,rfl,by simp,rfl⟩ _ _ (by simp only [go_sem,Int.natCast_zero]<;>rfl)
   clear hg
   rw [List.drop_zero,List.map_nil] at h2
   rcases h2 with ⟨h0,rfl⟩ | ⟨h0,rfl,e4⟩
   ·simp only [go_sem,h0]
   ·simp only [go_sem,e4]
attribute [local go_sem] m_ x_ l_ k_ o_ t_ a_ s_ q_ b_ c_ u_ g_ zr zd zl zu z28 z25 zg zk zj za zi z2o z1l z3h z3a z07 z38 z9g
theorem z65 (k:Nat): ∀N:List (List Nat),shStore k (N.map fun l=>l.map u8)=N.map fun l=>l.map u8
 | []=>rfl
 |l::r=>by simp only [List.map_cons,shStore,zb0,z65 k r]
theorem onB2 (env:Env)(t u:Tmp)(l o:Nat):onB env [t,u] (.ptr l o)=(isP l (env.get t)||isP l (env.get u)):=by
 show ([t,u].any fun t=>match env.get t with| .ptr l' _=>l'==l|_=>false)=_
 rw [List.any_cons,List.any_cons,List.any_nil,Bool.or_false];rfl
theorem zho (env:Env)(t u:Tmp)(l o:Nat):offB env [t,u] (.ptr l o)=(notP l (env.get t)&&notP l (env.get u)):=by
 show ([t,u].all fun t=>match env.get t with| .ptr l' _=>l' !=l|_=>true)=_
 rw [List.all_cons,List.all_cons,List.all_nil,Bool.and_true];rfl
section
variable {n:Int} {nl:Bool} {G:List GS} (hG: ∀p∈G,p.2.length<1000) (hGl:G.length<1000) (he:(openG n G).1≠0)
include hG hGl he
theorem c70e: ∃N:List (List Nat),N.length≤2∧run L 70 [I n,sl 1 nl (G.map gM)] ⟨[],[]⟩=some (.tup [.v (.slice none 0 0),I (openG n G).1],⟨N.map (fun l=>l.map u8),[]⟩):=by
 rcases c70G n nl G hG hGl with ⟨h,_⟩ | ⟨_,h⟩
 ·exact absurd h he
 ·exact h
theorem c47e (st:St):run L 47 [I n,sl 1 nl (G.map gM)] st=some (I (openG n G).1,st):=by
 rw [run_pure (fn:=ir47) rfl rfl]
 obtain ⟨N,hN,h70⟩:=c70e (nl:=nl) hG hGl he
 simp only [ir47,go_sem,h70,show pure 70=false from rfl,z65,shV,shVs]
theorem c43e (st:St):run L 43 [I n,sl 1 nl (G.map gM)] st=some (.tup [.v (.slice none 0 0),I (openG n G).1],st):=by
 rw [run_pure (fn:=ir43) rfl rfl]
 obtain ⟨N,hN,h70⟩:=c70e (nl:=nl) hG hGl he
 simp only [ir43,go_sem,h70,show pure 70=false from rfl,z65,shV,shVs,he]
theorem c89e (i j:Int)(st:St):run L 89 [I n,sl 1 nl (G.map gM),I i,I j] st=some (.tup [E8 0,E8 0,I (openG n G).1],st):=by
 rw [run_pure (fn:=ir89) rfl rfl]
 obtain ⟨N,hN,h70⟩:=c70e (nl:=nl) hG hGl he
 have hs0: ∀R T,sameSt ⟨[u8 0]:: [u8 0]::R,T⟩ (.ptr 0 0) (.agg [u8 0])=true:=fun R T=>rfl
 have hs1: ∀R T,sameSt ⟨[u8 0]:: [u8 0]::R,T⟩ (.ptr 1 0) (.agg [u8 0])=true:=fun R T=>rfl
 simp only [ir89,go_sem,hs0,hs1,h70,show pure 70=false from rfl,z65,shV,shVs,he,onB2,zho,onB1,zga,zgd,z7y,z5e,z5f,Bool.or_false,Bool.or_true,Bool.true_or,Bool.false_or,show AV.v (.int .u8 0)=u8 0 from rfl]
theorem c45e (i j:Int)(st:St):run L 45 [I n,sl 1 nl (G.map gM),I i,I j] st=some (.tup [B false,I (openG n G).1],st):=by
 rw [run_pure (fn:=ir45) rfl rfl]
 have h89:=fun st=>c89e (nl:=nl) hG hGl he i j st
 simp only [ir45,go_sem,h89,he]
end
attribute [local go_sem] m_ x_ l_ k_ o_ t_ a_ s_ q_ b_ c_ u_ g_ zr zd zl zu z28 z25 zg zk zj za zi z2o z1l z3h z3a z07 z38 z9g
theorem zl7 (n1 n2:Bool)(xs ys:List Int)(hlen:xs.length<1000000)(i:Nat)(hok:i≤xs.length∧i≤ys.length)(env:Env)(st:St)
  (hg:gcAV true 0 0 (canon env [0,1,5]) st=([(0,sl 1 n1 (xs.map I)),(1,sl 1 n2 (ys.map I)),(5,I i)],⟨[],[]⟩)):
  ∃x_1 en s,lim (headed pure (run L) true [0,1,5] lp101_0 0 0) env st=some (x_1,en,s)∧((x_1=.exit 0∧en.get 0=sl 1 n1 (xs.map I)∧en.get 1=sl 1 n2 (ys.map I)∧lexLt (xs.drop i) (ys.drop i)=decide (xs.length<ys.length))∨(x_1=.ret∧en.get 4=B (lexLt (xs.drop i) (ys.drop i)))):=by
 refine zb (α:=Nat) (fun i=>xs.length-i) (fun i=>i≤xs.length∧i≤ys.length) (fun i=>([(0,sl 1 n1 (xs.map I)),(1,sl 1 n2 (ys.map I)),(5,I i)],⟨[],[]⟩)) (fun i x_1 en s=>(x_1=.exit 0∧en.get 0=sl 1 n1 (xs.map I)∧en.get 1=sl 1 n2 (ys.map I)∧lexLt (xs.drop i) (ys.drop i)=decide (xs.length<ys.length))∨(x_1=.ret∧en.get 4=B (lexLt (xs.drop i) (ys.drop i)))) (fun i hok=> ?_) i hok env st hg
 obtain ⟨hok1,hok2⟩:=hok
 by_cases h:i<xs.length
 ·have hx:=ze n1 xs i h
  have hs:=zh i (by omega)
  have hd:xs.drop i=xs[i]::xs.drop (i+1):=List.drop_eq_getElem_cons h
  have hlt:((i:Int)<(xs.length:Int))=True:=eT (by omega)
  rw [hd]
  by_cases h2:i<ys.length
  ·have hy:=ze n2 ys i h2
   have hd2:ys.drop i=ys[i]::ys.drop (i+1):=List.drop_eq_getElem_cons h2
   have hlt2:((i:Int)<(ys.length:Int))=True:=eT (by omega)
   rw [hd2]
   generalize xs[i]=a at*
   generalize ys[i]=b at*
   have hcn:lexLt (a::xs.drop (i+1)) (b::ys.drop (i+1))=(decide (a<b)||(decide (a=b)&&lexLt (xs.drop (i+1)) (ys.drop (i+1)))):=rfl
   rw [hcn]
   by_cases p:a=b
   ·subst p
    have q:((a:Int)=a)=True:=eT rfl
    have e:(decide (a<a)||(decide (a=a)&&lexLt (xs.drop (i+1)) (ys.drop (i+1))))=lexLt (xs.drop (i+1)) (ys.drop (i+1)):=by simp
    rw [e]
    simp only [go_sem,lp101_0,hx,hy,hlt,hlt2,hs,lm_]
    refine ⟨i+1,by simp only [go_sem,z3,z5,z8]<;>rfl,?_,?_,fun x en s hq=> ?_⟩
    ·omega
    ·omega
    ·exact hq
   ·rw [decide_eq_false p,Bool.false_and,Bool.or_false]
    by_cases p1:a<b
    ·rw [decide_eq_true p1]
     simp only [go_sem,lp101_0,hx,hy,hlt,hlt2,p,p1,lm_]
    ·rw [decide_eq_false p1]
     simp only [go_sem,lp101_0,hx,hy,hlt,hlt2,p,p1,lm_]
  ·have hd2:ys.drop i=[]:=List.drop_eq_nil_of_le (by omega)
   have hlt2:((i:Int)<(ys.length:Int))=False:=eF (by omega)
   have hc:xs.length<ys.length↔False:=⟨fun h=>by omega,fun h=>h.elim⟩
   rw [hd2]
   generalize xs[i]=a at*
   have hcn:lexLt (a::xs.drop (i+1)) []=false:=rfl
   rw [hcn]
   simp only [hc]
   simp only [go_sem,lp101_0,hx,hlt,hlt2,lm_]
 ·have hd:xs.drop i=[]:=List.drop_eq_nil_of_le (by omega)
  have hlt:((i:Int)<(xs.length:Int))=False:=eF (by omega)
  have hi:i=xs.length:=by omega
  have hcn:lexLt [] (ys.drop i)=decide (xs.length<ys.length):=by
   by_cases h2:i<ys.length
   ·rw [List.drop_eq_getElem_cons h2,decide_eq_true (by omega)];rfl
   ·rw [List.drop_eq_nil_of_le (by omega),decide_eq_false (by omega)];rfl
  rw [hd,hcn]
  simp only [go_sem,lp101_0,hlt,lm_]
theorem c101 (n1 n2:Bool)(xs ys:List Int)(hlen:xs.length<1000000)(st:St):run L 101 [sl 1 n1 (xs.map I),sl 1 n2 (ys.map I)] st=some (B (lexLt xs ys),st):=by
 rw [run_pure (fn:=ir101) rfl rfl]
 simp only [ir101,go_sem]
 generalize hg:lim (headed pure (run L) true _ lp101_0 _ _) _ _=o
 obtain ⟨x,en,s,rfl,h2⟩: ∃x en s,o=some (x,en,s)∧_:=by rw [←hg];exact zl7 n1 n2 xs ys hlen 0 ⟨by omega,by omega⟩ _ _ (by simp only [go_sem,Int.natCast_zero]<;>rfl)
 clear hg
 simp only [List.drop_zero] at h2
 rcases h2 with ⟨rfl,e0,e1,h5⟩ | ⟨rfl,h3⟩
 ·rw [h5]
  by_cases p:xs.length<ys.length
  ·have q:((xs.length:Int)<(ys.length:Int))=True:=eT (by omega)
   simp only [go_sem,e0,e1,q,lm_,p]
  ·have q:((xs.length:Int)<(ys.length:Int))=False:=eF (by omega)
   simp only [go_sem,e0,e1,q,lm_,p]
 ·simp only [go_sem,h3]
def lexM (a b:Nat):Bool:=lexLt (memb a) (memb b)
def atM (x:Nat):List Nat→Nat
 | []=>0
 |a::r=>if lexM a x=true then atM x r+1 else 0
def putM (x:Nat):List Nat→List Nat
 | []=> [x]
 |a::r=>if lexM a x=true then a::putM x r else x::a::r
theorem zkc (x:Nat): ∀l,atM x l≤l.length
 | []=>Nat.le_refl _
 |a::r=>by
  have:=zkc x r
  unfold atM
  split
  ·rw [List.length_cons];omega
  ·exact Nat.zero_le _
theorem zhi (x:Nat): ∀l,putM x l=l.take (atM x l)++x::l.drop (atM x l)
 | []=>rfl
 |a::r=>by
  unfold putM atM
  split
  ·rw [zhi x r];rfl
  ·rfl
theorem zk5 (x:Nat)(l:List Nat)(i:Nat)(h:i<l.length):atM x (l.drop i)=if lexM l[i] x=true then atM x (l.drop (i+1))+1 else 0:=by
 rw [List.drop_eq_getElem_cons h];rfl
theorem loop88 (nl:Bool)(l:List Nat)(hlen:l.length<1000)(y:Nat)(i:Nat)(hok:i≤l.length)(env:Env)(st:St)
  (hg:gcAV true 0 0 (canon env [0,1,5]) st=([(0,sl 1 nl (l.map tM)),(1,tM y),(5,J i)],⟨[],[]⟩)):
  ∃x_1 en s,lim (headed pure (run L) true [0,1,5] lp88_0 0 0) env st=some (x_1,en,s)∧(x_1=.exit 0∧en.get 0=sl 1 nl (l.map tM)∧en.get 1=tM y∧en.get 5=J (i+atM y (l.drop i))∧s=⟨[],[]⟩):=by
 refine zb (α:=Nat) (fun i=>l.length-i) (fun i=>i≤l.length) (fun i=>([(0,sl 1 nl (l.map tM)),(1,tM y),(5,J i)],⟨[],[]⟩)) (fun i x_1 en s=>x_1=.exit 0∧en.get 0=sl 1 nl (l.map tM)∧en.get 1=tM y∧en.get 5=J (i+atM y (l.drop i))∧s=⟨[],[]⟩) (fun i hok=> ?_) i hok env st hg
 have hll:=z08 tM nl l
 by_cases h:i<l.length
 ·have hs:=zh i (by omega)
  have hlt:((i:Int)<(l.length:Int))=True:=eT (by omega)
  have hx:=z23 tM nl l i h
  have hst:=zk5 y l i h
  rw [hst]
  generalize l[i]=a at*
  have hm:=z0s a
  have hc: ∀st,run L 101 [tM a,tM y] st=some (B (lexM a y),st):=fun st=>c101 true true (memb a) (memb y) (by omega) st
  cases hb:lexM a y with
  |true=>
   rw [hb] at hc
   rw [if_pos rfl]
   simp only [go_sem,lp88_0,hll,hlt,hs,hx,hc]
   refine ⟨i+1,by simp only [go_sem,z3,z5,z8,zc7,z8n]<;>rfl,?_,?_,fun x en s hq=> ?_⟩
   ·omega
   ·omega
   ·rw [show i+(atM y (l.drop (i+1))+1)=i+1+atM y (l.drop (i+1)) by omega];exact hq
  |false=>
   rw [hb] at hc
   rw [if_neg (by simp),Nat.add_zero]
   simp only [go_sem,lp88_0,hll,hlt,hs,hx,hc]
 ·have e:l.drop i=[]:=List.drop_eq_nil_of_le (by omega)
  have hlt:((i:Int)<(l.length:Int))=False:=eF (by omega)
  rw [e,show atM y []=0 from rfl,Nat.add_zero]
  simp only [go_sem,lp88_0,hll,hlt]
theorem zfy {α:Type} (f:α→AV)(nl:Bool)(l:List α)(k:Nat)(h:k≤l.length): ∃n2,sliceAV 1 (sl 1 nl (l.map f)) none (some (J k)) none=some (sl 1 n2 ((l.take k).map f)):=by
 have key: ∀xs:List AV,k≤xs.length→sliceAV 1 (.lst .any 1 xs) none (some (J k)) none=some (.lst .any 1 (xs.take k)):=by
  intro xs hx
  have h0:(0:Int)≤((k:Nat):Int):=by omega
  simp only [sliceAV,natOr,natOf,tagSlice,if_pos h0,Int.toNat_natCast]
  simp [hx]
 cases l with
 |nil=>
  have:k=0:=by simpa using h
  subst this
  cases nl
  ·exact ⟨false,key [] (by simp)⟩
  ·exact ⟨true,rfl⟩
 |cons x r=>
  have e:sl 1 nl ((x::r).map f)=.lst .any 1 ((x::r).map f):=zas (by simp)
  rw [e,key _ (by simpa using h),←List.map_take]
  exact ⟨false,rfl⟩
theorem zfz {α:Type} (f:α→AV)(nl:Bool)(l:List α)(k:Nat)(h:k≤l.length): ∃n2,sliceAV 1 (sl 1 nl (l.map f)) (some (J k)) none none=some (sl 1 n2 ((l.drop k).map f)):=by
 have key: ∀xs:List AV,k≤xs.length→sliceAV 1 (.lst .any 1 xs) (some (J k)) none none=some (.lst .any 1 (xs.drop k)):=by
  intro xs hx
  have h0:(0:Int)≤((k:Nat):Int):=by omega
  simp only [sliceAV,natOr,natOf,tagSlice,if_pos h0,Int.toNat_natCast]
  rw [List.take_of_length_le (Nat.le_refl _)]
  simp [hx]
 cases l with
 |nil=>
  have:k=0:=by simpa using h
  subst this
  cases nl
  ·exact ⟨false,key [] (by simp)⟩
  ·exact ⟨true,rfl⟩
 |cons x r=>
  have e:sl 1 nl ((x::r).map f)=.lst .any 1 ((x::r).map f):=zas (by simp)
  rw [e,key _ (by simpa using h),←List.map_drop]
  exact ⟨false,rfl⟩
def pA (o:List AV):AV:=if o.length=0 then .lst .full 1 [] else oA o
theorem pA_ne {o:List AV} (h:o≠[]):pA o=oA o:=by
 unfold pA;rw [if_neg];intro h2;exact h (List.eq_nil_of_length_eq_zero h2)
theorem zd1 (o ys:List AV)(s:List (List AV))(h:o.length+ys.length<1000):appendAV 1 (pA o) ys ⟨s,oT o⟩=some (pA (o++ys),⟨s,oT (o++ys)⟩):=by
 cases ys with
 |nil=>
  rw [List.append_nil]
  unfold pA oA oT loc locT
  split<;>rfl
 |cons y r=>
  cases o with
  |nil=>
   have h2: ¬(y::r).length=0:=by simp
   unfold pA oA oT loc locT
   rw [List.nil_append,if_pos (show ([]:List AV).length=0 from rfl),if_neg h2,if_neg h2,if_pos (show ([]:List AV).length=0 from rfl),if_neg h2]
   simp only [appendAV,List.length_nil,Nat.zero_add,List.nil_append]
   rw [if_pos trivial,if_pos (by unfold maxGrow;simp only [List.length_nil,Nat.zero_add] at h;omega)]
  |cons a o=>
   have h1: ¬(a::o).length=0:=by simp
   have h2: ¬(a::o++y::r).length=0:=by simp
   unfold pA oA oT loc locT
   rw [if_neg h1,if_neg h2,if_neg h1,if_neg h2,if_neg h1,if_neg h2]
   simp only [appendAV]
   rw [if_pos trivial,if_pos (by unfold maxGrow;omega)]
   simp;omega
theorem c88 (nl:Bool)(l:List Nat)(hlen:l.length<900)(y:Nat)(st:St):run L 88 [sl 1 nl (l.map tM),tM y] st=some (sl 1 true ((putM y l).map tM),st):=by
 rw [run_pure (fn:=ir88) rfl rfl]
 simp only [ir88,go_sem]
 generalize hg:lim (headed pure (run L) true _ lp88_0 _ _) _ _=o
 obtain ⟨x,en,s,rfl,h2⟩: ∃x en s,o=some (x,en,s)∧_:=by rw [←hg];exact loop88 nl l (by omega) y 0 (by omega) _ _ (by simp only [go_sem,Int.natCast_zero,zc7,z8n]<;>rfl)
 clear hg
 rw [List.drop_zero,Nat.zero_add] at h2
 obtain ⟨rfl,e0,e1,e5,rfl⟩:=h2
 have hle:=zkc y l
 have hpe:=zhi y l
 generalize atM y l=k at*
 obtain ⟨n3,ht⟩:=zfy tM nl l k hle
 obtain ⟨n4,hd⟩:=zfz tM nl l k hle
 have a1:=fun S=>zd1 [] ((l.take k).map tM) S (by simp;omega)
 have a2:=fun S=>zd1 ((l.take k).map tM) [tM y] S (by simp;omega)
 have a3:=fun S=>zd1 ((l.take k).map tM++ [tM y]) ((l.drop k).map tM) S (by simp;omega)
 rw [List.nil_append] at a1
 have a1: ∀S,appendAV 1 (.lst .full 1 []) ((l.take k).map tM) ⟨S,[]⟩=some (pA ((l.take k).map tM),⟨S,oT ((l.take k).map tM)⟩):=a1
 have hfin:((l.take k).map tM++ [tM y]++(l.drop k).map tM)=(putM y l).map tM:=by rw [hpe];simp
 rw [hfin] at a3
 have hpn:pA ((putM y l).map tM)=oA ((putM y l).map tM):=pA_ne (by rw [hpe];simp)
 simp only [go_sem,e0,e1,e5,ht,hd,a1,a2,a3,hpn]
attribute [local go_sem] m_ x_ l_ k_ o_ t_ a_ s_ q_ b_ c_ u_ g_ zr zd zl zu z28 z25 zg zk zj za zi z2o z1l z3h z3a z07 z38 z9g
theorem z6l (x:Nat): ∀l,(putM x l).Perm (x::l)
 | []=>List.Perm.refl _
 |a::r=>by
  unfold putM
  split
  ·exact ((z6l x r).cons a).trans (List.Perm.swap x a r)
  ·exact List.Perm.refl _
theorem z9d (x:Nat): ∀l:List Nat,l.Pairwise LexLe→(putM x l).Pairwise LexLe
 | [],_=>by simp [putM]
 |a::r,h=>by
  rw [List.pairwise_cons] at h
  unfold putM
  split
  ·rename_i hlt
   rw [List.pairwise_cons]
   refine ⟨fun y hy=> ?_,z9d x r h.2⟩
   rcases List.mem_cons.1 ((z6l x r).mem_iff.1 hy) with rfl|hy
   ·exact zhy hlt
   ·exact h.1 y hy
  ·rename_i hlt
   have hlt:lexLt (memb a) (memb x)=false:=by simpa [lexM] using hlt
   rw [List.pairwise_cons]
   refine ⟨fun y hy=> ?_,List.pairwise_cons.2 h⟩
   rcases List.mem_cons.1 hy with rfl|hy
   ·exact hlt
   ·exact zk8 hlt (h.1 y hy)
def tidyF (n:Nat) (X o:List Nat):List Nat:=X.foldl (fun o v=>putM (smlN n v) o) o
theorem zex (n:Nat): ∀X o,o.Pairwise LexLe→(tidyF n X o).Pairwise LexLe∧(tidyF n X o).Perm (o++X.map (smlN n))
 | [],o,h=>⟨h,by rw [List.map_nil,List.append_nil];exact List.Perm.refl _⟩
 |v::r,o,h=>by
  obtain ⟨h1,h2⟩:=zex n r _ (z9d (smlN n v) o h)
  refine ⟨h1,h2.trans ?_⟩
  rw [List.map_cons]
  exact ((z6l (smlN n v) o).append_right _).trans List.perm_middle.symm
theorem ziw {n:Nat} {X:List Nat} (h: ∀s∈X.map (smlN n),s<256):tidyF n X []=srt (X.map (smlN n)):=by
 obtain ⟨h1,h2⟩:=zex n X [] List.Pairwise.nil
 rw [List.nil_append] at h2
 exact ziy h h2 h1
theorem loop85 (n:Nat)(hn:n≤8)(nl:Bool)(X:List Nat)(hX: ∀v∈X,v<2^n)(hl:X.length≤100)(i:Nat)(o:List Nat)(hok:i≤X.length∧o.length=i)(env:Env)(st:St)
  (hg:gcAV true 0 0 (canon env [0,1,5,6]) st=([(0,J n),(1,sl 1 nl (X.map tM)),(5,sl 1 true (o.map tM)),(6,J i)],⟨[],[]⟩)):
  ∃x_1 en s,lim (headed pure (run L) true [0,1,5,6] lp85_0 0 0) env st=some (x_1,en,s)∧(x_1=.exit 0∧en.get 5=sl 1 true ((tidyF n (X.drop i) o).map tM)):=by
 refine zb (α:=Nat×List Nat) (fun ⟨i,o⟩=>X.length-i) (fun ⟨i,o⟩=>i≤X.length∧o.length=i) (fun ⟨i,o⟩=>([(0,J n),(1,sl 1 nl (X.map tM)),(5,sl 1 true (o.map tM)),(6,J i)],⟨[],[]⟩)) (fun ⟨i,o⟩ x_1 en s=>x_1=.exit 0∧en.get 5=sl 1 true ((tidyF n (X.drop i) o).map tM)) (fun ⟨i,o⟩ hok=> ?_) ⟨i,o⟩ hok env st hg
 simp only at hok
 obtain ⟨h1,h2⟩:=hok
 dsimp only at h1 h2⊢
 have hll:=z08 tM nl X
 by_cases h:i<X.length
 ·have hs:=zh i (by omega)
  have hlt:((i:Int)<(X.length:Int))=True:=eT (by omega)
  have hx:=z23 tM nl X i h
  have hv:=hX X[i] (List.getElem_mem h)
  have hd:X.drop i=X[i]::X.drop (i+1):=List.drop_eq_getElem_cons h
  rw [hd]
  generalize X[i]=v at*
  have h110:=fun st=>zli n hn v hv st
  have h88:=fun st=>c88 true o (by omega) (smlN n v) st
  have e:tidyF n (v::X.drop (i+1)) o=tidyF n (X.drop (i+1)) (putM (smlN n v) o):=rfl
  rw [e]
  have hpl:=(z6l (smlN n v) o).length_eq
  generalize putM (smlN n v) o=o2 at*
  simp only [go_sem,lp85_0,hll,hlt,hs,hx,h110,h88]
  refine ⟨(i+1,o2),by simp only [go_sem,z3,z5,z8]<;>rfl,?_,?_,fun x en s hq=> ?_⟩
  ·dsimp only;exact ⟨by omega,by rw [hpl,List.length_cons];omega⟩
  ·dsimp only;omega
  ·exact hq
 ·have e:X.drop i=[]:=List.drop_eq_nil_of_le (by omega)
  have hlt:((i:Int)<(X.length:Int))=False:=eF (by omega)
  rw [e]
  simp only [go_sem,lp85_0,hll,hlt]
  rfl
theorem zez {n:Nat} (hn:n≤8) {X:List Nat} (hX: ∀v∈X,v<2^n∧v≠0∧v≠2^n-1): ∀s∈X.map (smlN n),s<256:=by
 intro x hx
 rw [List.mem_map] at hx
 obtain ⟨v,hv,rfl⟩:=hx
 exact Nat.lt_of_lt_of_le (z3q (hX v hv).1) (Nat.pow_le_pow_right (n:=2) (by decide) hn)
theorem c85 (n:Nat)(hn:n≤8)(nl:Bool)(X:List Nat)(hX: ∀v∈X,v<2^n∧v≠0∧v≠2^n-1)(hl:X.length≤13)(st:St):run L 85 [J n,sl 1 nl (X.map tM)] st=some (sl 1 true ((srt (X.map (smlN n))).map tM),st):=by
 rw [run_pure (fn:=ir85) rfl rfl,←ziw (zez hn hX)]
 simp only [ir85,go_sem]
 generalize hg:lim (headed pure (run L) true _ lp85_0 _ _) _ _=o
 obtain ⟨x,en,s,rfl,h2⟩: ∃x en s,o=some (x,en,s)∧_:=by rw [←hg];exact loop85 n hn nl X (fun v hv=>(hX v hv).1) (by omega) 0 [] ⟨by omega,rfl⟩ _ _ (by simp only [go_sem,Int.natCast_zero,List.map_nil,show sl 1 true []=AV.v (.slice none 0 0) from rfl]<;>rfl)
 clear hg
 rw [List.drop_zero] at h2
 obtain ⟨rfl,e5⟩:=h2
 simp only [go_sem,e5]
theorem c43M (n:Nat)(h2:2≤n)(hn:n≤8)(nl:Bool)(X:List Nat)(hX: ∀v∈X,v<2^n∧v≠0∧v≠2^n-1)(hnd:(X.map (smlN n)).Nodup)(hl:X.length≤13)(st:St):
  run L 43 [J n,sl 1 nl (X.map tM)] st=some (.tup [sl 1 true ((srt (X.map (smlN n))).map tM),I 0],st):=by
 rw [run_pure (fn:=ir43) rfl rfl]
 have h70:=c70 n h2 hn nl X hX hnd hl
 have hss:=zez hn hX
 have hk:(X.map (smlN n)).length≤13:=by rw [lm_];exact hl
 have h84:=fun st=>c84 true (X.map (smlN n)) hss (by omega) st
 generalize X.map (smlN n)=ss at*
 by_cases he:ss=[]
 ·subst he
  have eA:kA []=.v (.slice none 0 0):=rfl
  have eS:kS []=[]:=rfl
  rw [eA,eS] at h70
  rw [show sl 1 true (([]:List Nat).map E8)=AV.v (.slice none 0 0) from rfl] at h84
  simp only [ir43,go_sem,h70,show pure 70=false from rfl,shStore,shV,shVs,h84,z3g,frzAV,frzT,frzLs,rslsOf]
 ·rw [zeo he,zen he] at h70
  have hsv:=zb0 0 ss
  obtain ⟨S',hfz⟩:=zlc (S:=[ss.map u8]) (l:=0) rfl (by simpa using he) []
  have hfv:=zib 0 ss he
  simp only [ir43,go_sem,h70,show pure 70=false from rfl,shStore,shV,shVs,hsv,h84,z3g,frzAV,frzT,frzLs,rslsOf,hfz,frzEnv,frzEnv_get,zfj,hfv]
theorem c89x (n:Nat)(h2:2≤n)(hn:n≤8)(nl:Bool)(X:List Nat)(hX: ∀v∈X,v<2^n∧v≠0∧v≠2^n-1)(hnd:(X.map (smlN n)).Nodup)(hl:X.length≤13)(i j:Int)(hij:min i j<0∨(X.length:Int)≤max i j)(st:St):
  run L 89 [J n,sl 1 nl (X.map tM),I i,I j] st=some (.tup [E8 0,E8 0,I 2],st):=by
 rw [run_pure (fn:=ir89) rfl rfl]
 have h70:=c70 n h2 hn nl X hX hnd hl
 have hsl:(X.map (smlN n)).length=X.length:=List.length_map ..
 rw [←hsl] at hij
 clear hsl hX hnd
 generalize X.map (smlN n)=ss at*
 have hs0: ∀R T,sameSt ⟨[u8 0]:: [u8 0]::R,T⟩ (.ptr 0 0) (.agg [u8 0])=true:=fun R T=>rfl
 have hs1: ∀R T,sameSt ⟨[u8 0]:: [u8 0]::R,T⟩ (.ptr 1 0) (.agg [u8 0])=true:=fun R T=>rfl
 by_cases he:ss=[]
 ·subst he
  have eA:kA []=.v (.slice none 0 0):=rfl
  have eS:kS []=[]:=rfl
  rw [eA,eS] at h70
  by_cases q1:min i j<0
  ·simp only [ir89,go_sem,hs0,hs1,h70,show pure 70=false from rfl,shStore,shV,shVs,z3g,frzAV,frzT,frzLs,rslsOf,q1,onB2,zho,onB1,zga,zgd,z7y,z5e,z5f,Bool.or_false,Bool.or_true,Bool.true_or,Bool.false_or,show AV.v (.int .u8 0)=u8 0 from rfl]
  ·have q2:(0:Int)≤max i j:=by have:=hij.resolve_left q1;simpa using this
   simp only [ir89,go_sem,hs0,hs1,h70,show pure 70=false from rfl,shStore,shV,shVs,z3g,frzAV,frzT,frzLs,rslsOf,q1,q2,onB2,zho,onB1,zga,zgd,z7y,z5e,z5f,Bool.or_false,Bool.or_true,Bool.true_or,Bool.false_or,show AV.v (.int .u8 0)=u8 0 from rfl]
 ·rw [zeo he,zen he] at h70
  have hsv:=zb0 2 ss
  have hfz:=fun T env=>zka (a:=[u8 0]) (b:=[u8 0]) (cs:=ss.map u8) (by simpa using he) T env
  have hfv:=zib 2 ss he
  have hll:=z08 E8 true ss
  by_cases q1:min i j<0
  ·simp only [ir89,go_sem,hs0,hs1,h70,show pure 70=false from rfl,shStore,shV,shVs,hsv,z3g,frzAV,frzT,frzLs,rslsOf,hfz,frzEnv,frzEnv_get,zfj,zcr,zep,zcs,zcq,frzVs,hfv,hll,q1,onB2,zho,onB1,zga,zgd,z7y,z5e,z5f,Bool.or_false,Bool.or_true,Bool.true_or,Bool.false_or,show AV.v (.int .u8 0)=u8 0 from rfl]
  ·have q2:=hij.resolve_left q1
   simp only [ir89,go_sem,hs0,hs1,h70,show pure 70=false from rfl,shStore,shV,shVs,hsv,z3g,frzAV,frzT,frzLs,rslsOf,hfz,frzEnv,frzEnv_get,zfj,zcr,zep,zcs,zcq,frzVs,hfv,hll,q1,q2,onB2,zho,onB1,zga,zgd,z7y,z5e,z5f,Bool.or_false,Bool.or_true,Bool.true_or,Bool.false_or,show AV.v (.int .u8 0)=u8 0 from rfl]
theorem zh4 {n:Nat} (hn:n≤8) {X:List Nat} (hX: ∀v∈X,v<2^n∧v≠0∧v≠2^n-1) {k:Nat} (hk:k<X.length):(X.map (smlN n)).getD k 0<256:=by
 exact zez hn hX _ (zjy (by rw [lm_];exact hk))
theorem c45M (n:Nat)(h2:2≤n)(hn:n≤8)(nl:Bool)(X:List Nat)(hX: ∀v∈X,v<2^n∧v≠0∧v≠2^n-1)(hnd:(X.map (smlN n)).Nodup)(hl:X.length≤13)(i j:Nat)(hi:i<X.length)(hj:j<X.length)(st:St):
  run L 45 [J n,sl 1 nl (X.map tM),J i,J j] st=some (.tup [B (agN ((X.map (smlN n)).getD i 0) ((X.map (smlN n)).getD j 0)),I 0],st):=by
 rw [run_pure (fn:=ir45) rfl rfl]
 have h89:=fun st=>c89 n h2 hn nl X hX hnd hl i j hi hj st
 have ha:=zh4 hn hX hi
 have hb:=zh4 hn hX hj
 generalize (X.map (smlN n)).getD i 0=a at*
 generalize (X.map (smlN n)).getD j 0=b at*
 have h73:=fun st=>c73 a b ha hb st
 simp only [ir45,go_sem,h89,h73]
theorem c45x (n:Nat)(h2:2≤n)(hn:n≤8)(nl:Bool)(X:List Nat)(hX: ∀v∈X,v<2^n∧v≠0∧v≠2^n-1)(hnd:(X.map (smlN n)).Nodup)(hl:X.length≤13)(i j:Int)(hij:min i j<0∨(X.length:Int)≤max i j)(st:St):
  run L 45 [J n,sl 1 nl (X.map tM),I i,I j] st=some (.tup [B false,I 2],st):=by
 rw [run_pure (fn:=ir45) rfl rfl]
 have h89:=fun st=>c89x n h2 hn nl X hX hnd hl i j hij st
 simp only [ir45,go_sem,h89]
theorem c44 (n:Int)(nl:Bool)(G:List GS)(hG: ∀p∈G,p.2.length<1000)(hGl:G.length<1000)(st:St):run L 44 [I n,sl 1 nl (G.map gM)] st=some (.tup [if (openG n G).1=0 then sl 1 true ((srt (openG n G).2).map tM) else .v (.slice none 0 0),I (openG n G).1],st):=by
 rw [run_pure (fn:=ir44) rfl rfl]
 have h48:=fun st=>c48 n nl G hG hGl st
 by_cases he:(openG n G).1=0
 ·obtain ⟨m,X,rfl,h2,hm,hl,hXl,e1,e2,hX,e4,hnd⟩:=zfc he
  rw [he] at h48
  rw [he,e4,if_pos rfl]
  rw [e1] at h48⊢
  have h85:=fun st=>c85 m hm nl X hX (by omega) st
  simp only [ir44,go_sem,h48,h85]
 ·rw [if_neg he]
  simp only [ir44,go_sem,h48,he]
theorem c90 (n:Int)(nl:Bool)(G:List GS)(hG: ∀p∈G,p.2.length<1000)(hGl:G.length<1000)(i j:Int)(st:St):
  run L 90 [I n,sl 1 nl (G.map gM),I i,I j] st=some (I (if (openG n G).1=0 then (if min i j<0∨(G.length:Int)≤max i j then 2 else 0) else (openG n G).1),st):=by
 rw [run_pure (fn:=ir90) rfl rfl]
 have h48:=fun st=>c48 n nl G hG hGl st
 have hll:=z08 gM nl G
 have hw:IntKind.i64.wrap ((G.length:Int)-1)=(G.length:Int)-1:=by rw [z09]<;>omega
 have hi:=fun st=>c98 i 0 ((G.length:Int)-1) st
 have hj:=fun st=>c98 j 0 ((G.length:Int)-1) st
 by_cases he:(openG n G).1=0
 ·rw [he] at h48
  rw [if_pos he]
  by_cases hi2:0≤i∧i≤(G.length:Int)-1
  ·rw [decide_eq_true hi2] at hi
   by_cases hj2:0≤j∧j≤(G.length:Int)-1
   ·rw [decide_eq_true hj2] at hj
    rw [if_neg (by omega)]
    simp only [ir90,go_sem,h48,hll,hw,hi,hj]
   ·rw [decide_eq_false hj2] at hj
    rw [if_pos (by omega)]
    simp only [ir90,go_sem,h48,hll,hw,hi,hj]
  ·rw [decide_eq_false hi2] at hi
   rw [if_pos (by omega)]
   simp only [ir90,go_sem,h48,hll,hw,hi]
 ·rw [if_neg he]
  simp only [ir90,go_sem,h48,he]
theorem c46e (n:Int)(nl:Bool)(G:List GS)(hG: ∀p∈G,p.2.length<1000)(hGl:G.length<1000)(he:(openG n G).1≠0)(i j:Int)(st:St):
  run L 46 [I n,sl 1 nl (G.map gM),I i,I j] st=some (.tup [B false,I (openG n G).1],st):=by
 rw [run_pure (fn:=ir46) rfl rfl]
 have h90:=fun st=>c90 n nl G hG hGl i j st
 rw [if_neg he] at h90
 simp only [ir46,go_sem,h90,he]
theorem c46x (n:Int)(nl:Bool)(G:List GS)(hG: ∀p∈G,p.2.length<1000)(hGl:G.length<1000)(he:(openG n G).1=0)(i j:Int)(hij:min i j<0∨(G.length:Int)≤max i j)(st:St):
  run L 46 [I n,sl 1 nl (G.map gM),I i,I j] st=some (.tup [B false,I 2],st):=by
 rw [run_pure (fn:=ir46) rfl rfl]
 have h90:=fun st=>c90 n nl G hG hGl i j st
 rw [if_pos he,if_pos hij] at h90
 simp only [ir46,go_sem,h90]
theorem c46M (n:Nat)(h2:2≤n)(hn:n≤8)(nl:Bool)(G:List GS)(hG: ∀p∈G,p.2.length<1000)(hGl:G.length<1000)(he:(openG n G).1=0)(X:List Nat)(hX: ∀v∈X,v<2^n∧v≠0∧v≠2^n-1)(e1:G.map gM=X.map tM)(i j:Nat)(hi:i<X.length)(hj:j<X.length)(st:St):
  run L 46 [J n,sl 1 nl (G.map gM),J i,J j] st=some (.tup [B (agN ((X.map (smlN n)).getD i 0) ((X.map (smlN n)).getD j 0)),I 0],st):=by
 rw [run_pure (fn:=ir46) rfl rfl]
 have h90:=fun st=>c90 n nl G hG hGl i j st
 have hXl:X.length=G.length:=by have:=congrArg List.length e1;simpa using this.symm
 rw [if_pos he,if_neg (by omega)] at h90
 have gi:(X.map (smlN n)).getD i 0=smlN n X[i]:=by simp [List.getD_eq_getElem?_getD,hi]
 have gj:(X.map (smlN n)).getD j 0=smlN n X[j]:=by simp [List.getD_eq_getElem?_getD,hj]
 have hxi:=z23 tM nl X i hi
 have hxj:=z23 tM nl X j hj
 have hai:=(hX X[i] (List.getElem_mem hi)).1
 have haj:=(hX X[j] (List.getElem_mem hj)).1
 rw [gi,gj]
 rw [e1] at h90⊢
 generalize X[i]=a at*
 generalize X[j]=b at*
 have h72:=fun st=>c72M n (by omega) hn a b hai haj st
 simp only [ir46,go_sem,h90,hxi,hxj,h72]
attribute [local go_sem] m_ x_ l_ k_ o_ t_ a_ s_ q_ b_ c_ u_ g_ zr zd zl zu z28 z25 zg zk zj za zi z2o z1l z3h z3a z07 z38 z9g
def lgG (G:List GS):Bool:=decide (40<G.length)||G.any fun p=>decide (40<p.2.length)
theorem len_gM (p:GS):lenAV (gM p)=some (J p.2.length):=by
 obtain ⟨k,l⟩:=p
 cases l with
 |nil=>cases k<;>rfl
 |cons a r=>rw [zi9 k (by simp)];exact z08 I true (a::r)
theorem loop14 (nl:Bool)(G:List GS)(hG:G.length≤40)(i:Nat)(hok:i≤G.length)(env:Env)(st:St)
  (hg:gcAV true 0 0 (canon env [0,3]) st=([(0,sl 1 nl (G.map gM)),(3,J i)],⟨[],[]⟩)):
  ∃x_1 en s,lim (headed pure (run L) true [0,3] lp14_0 0 0) env st=some (x_1,en,s)∧(((G.drop i).any (fun p=>decide (40<p.2.length))=true∧x_1=.ret∧en.get 2=B true)∨((G.drop i).any (fun p=>decide (40<p.2.length))=false∧x_1=.exit 0)):=by
 refine zb (α:=Nat) (fun i=>G.length-i) (fun i=>i≤G.length) (fun i=>([(0,sl 1 nl (G.map gM)),(3,J i)],⟨[],[]⟩)) (fun i x_1 en s=>((G.drop i).any (fun p=>decide (40<p.2.length))=true∧x_1=.ret∧en.get 2=B true)∨((G.drop i).any (fun p=>decide (40<p.2.length))=false∧x_1=.exit 0)) (fun i hok=> ?_) i hok env st hg
 have hll:=z08 gM nl G
 by_cases h:i<G.length
 ·have hs:=zh i (by omega)
  have hlt:((i:Int)<(G.length:Int))=True:=eT (by omega)
  have hx:=z23 gM nl G i h
  have hd:G.drop i=G[i]::G.drop (i+1):=List.drop_eq_getElem_cons h
  rw [hd,List.any_cons]
  generalize G[i]=p at*
  have hpl:=len_gM p
  by_cases q:40<p.2.length
  ·have q2:((40:Int)<(p.2.length:Int))=True:=eT (by omega)
   rw [decide_eq_true q,Bool.true_or]
   simp only [go_sem,lp14_0,hll,hlt,hs,hx,hpl,q2]
  ·have q2:((40:Int)<(p.2.length:Int))=False:=eF (by omega)
   rw [decide_eq_false q,Bool.false_or]
   simp only [go_sem,lp14_0,hll,hlt,hs,hx,hpl,q2]
   refine ⟨i+1,by simp only [go_sem,z3,z5,z8]<;>rfl,?_,?_,fun x en s hq=> ?_⟩
   ·omega
   ·omega
   ·exact hq
 ·have e:G.drop i=[]:=List.drop_eq_nil_of_le (by omega)
  have hlt:((i:Int)<(G.length:Int))=False:=eF (by omega)
  rw [e,List.any_nil]
  simp only [go_sem,lp14_0,hll,hlt]
theorem c14 (nl:Bool)(G:List GS)(st:St):run L 14 [sl 1 nl (G.map gM)] st=some (B (lgG G),st):=by
 rw [run_pure (fn:=ir14) rfl rfl]
 have hll:=z08 gM nl G
 unfold lgG
 by_cases q:40<G.length
 ·have q2:((40:Int)<(G.length:Int))=True:=eT (by omega)
  rw [decide_eq_true q,Bool.true_or]
  simp only [ir14,go_sem,hll,q2]
 ·have q2:((40:Int)<(G.length:Int))=False:=eF (by omega)
  rw [decide_eq_false q,Bool.false_or]
  simp only [ir14,go_sem,hll,q2]
  generalize hg:lim (headed pure (run L) true _ lp14_0 _ _) _ _=o
  obtain ⟨x,en,s,rfl,h2⟩: ∃x en s,o=some (x,en,s)∧_:=by rw [←hg];exact loop14 nl G (by omega) 0 (by omega) _ _ (by simp only [go_sem,Int.natCast_zero]<;>rfl)
  clear hg
  rw [List.drop_zero] at h2
  rcases h2 with ⟨h,rfl,e2⟩ | ⟨h,rfl⟩
  ·rw [h];simp only [go_sem,e2]
  ·rw [h];simp only [go_sem]
theorem lg_ok {G:List GS} (h:lgG G=false):G.length≤40∧∀p∈G,p.2.length≤40:=by
 unfold lgG at h
 rw [Bool.or_eq_false_iff,decide_eq_false_iff_not,List.any_eq_false] at h
 refine ⟨by omega,fun p hp=> ?_⟩
 have:=h.2 p hp
 simpa using this
theorem c7 (n:Int)(nl:Bool)(G:List GS)(i j:Int):run L 7 [I n,sl 1 nl (G.map gM),I i,I j] ⟨[],[]⟩=some (B true,⟨[],[]⟩):=by
 rw [run_pure (fn:=ir7) rfl rfl]
 have h14:=fun st=>c14 nl G st
 cases hlg:lgG G with
 |true=>
  rw [hlg] at h14
  simp only [ir7,go_sem,h14,c15]
 |false=>
  rw [hlg] at h14
  obtain ⟨hGl,hGa⟩:=lg_ok hlg
  have hG: ∀p∈G,p.2.length<1000:=fun p hp=>by have:=hGa p hp;omega
  have hGl2:G.length<1000:=by omega
  have h44:=fun st=>c44 n nl G hG hGl2 st
  have h48:=fun st=>c48 n nl G hG hGl2 st
  by_cases he:(openG n G).1=0
  ·obtain ⟨m,X,rfl,h2,hm,hl,hXl,e1,e2,hX,e4,hnd⟩:=zfc he
   rw [he,if_pos rfl,e4] at h44
   rw [he] at h48
   have h43:=fun st=>c43M m h2 hm nl X hX hnd (by omega) st
   have h47:=fun st=>c47 m h2 hm nl X hX hnd (by omega) st
   have h23:=fun st=>c23M true true (srt (X.map (smlN m))) (srt (X.map (smlN m))) (by rw [zh3 (zez hm hX),lm_];omega) st
   rw [decide_eq_true rfl] at h23
   by_cases hij:min i j<0∨(G.length:Int)≤max i j
   ·have h46:=fun st=>c46x m nl G hG hGl2 he i j hij st
    have h45:=fun st=>c45x m h2 hm nl X hX hnd (by omega) i j (by omega) st
    rw [e1] at h14 h44 h48 h46⊢
    simp only [ir7,go_sem,h14,h43,h44,h45,h46,h23,h47,h48,c15]
   ·obtain ⟨a,rfl⟩:=Int.eq_ofNat_of_zero_le (show 0≤i by omega)
    obtain ⟨b,rfl⟩:=Int.eq_ofNat_of_zero_le (show 0≤j by omega)
    have h46:=fun st=>c46M m h2 hm nl G hG hGl2 he X hX e1 a b (by omega) (by omega) st
    have h45:=fun st=>c45M m h2 hm nl X hX hnd (by omega) a b (by omega) (by omega) st
    rw [e1] at h14 h44 h48 h46⊢
    generalize agN ((X.map (smlN m)).getD a 0) ((X.map (smlN m)).getD b 0)=bb at*
    have q:(bb=bb)=True:=eT rfl
    cases bb<;>simp only [ir7,go_sem,h14,h43,h44,h45,h46,h23,h47,h48,c15]
  ·rw [if_neg he] at h44
   have h43:=fun st=>c43e (nl:=nl) hG hGl2 he st
   have h45:=fun st=>c45e (nl:=nl) hG hGl2 he i j st
   have h46:=fun st=>c46e n nl G hG hGl2 he i j st
   have h47:=fun st=>c47e (nl:=nl) hG hGl2 he st
   have h23: ∀st,run L 23 [.v (.slice none 0 0),.v (.slice none 0 0)] st=some (B true,st):=fun st=>c23M true true [] [] (by simp) st
   generalize (openG n G).1=e at*
   have q:(e=e)=True:=eT rfl
   simp only [ir7,go_sem,h14,h43,h44,h45,h46,h23,h47,h48,q,c15]
end Go.Proofs.YtdnmhlfjafjkbaaGreatDoor.Vm
namespace Go.Proofs.YtdnmhlfjafjkbaaGreatDoor.Vm
open Go Go.Ev Go.ChangeShapes Go.WideShapes Go.ChangeAt Go.RowKit
set_option maxRecDepth 100000
set_option maxHeartbeats 4000000
attribute [local go_sem] m_ x_ l_ k_ o_ t_ a_ s_ q_ b_ c_ u_ g_ z56 z10 z6h z2g z51 z0v z6d z1m z31 z0f z41 z2f z50 z0u z6c z2j z54 z0y z6f z1n z32 z0g z42 z1k z2z z0e z3y z2i z53 z0x z3s z7g z1j z9b z2k z55 z0z z6g z2l z1v z11 z6i z2e z4z z0t z6b z2h z52 z0w z6e z40 z2n z3z z9u z9s z9t z6v z4b z4e z4d z4c z4r z4s z5p z6z zag z13 z58 z3u z1s z47 z4u z4w z7d z7e z7c z4x z2y z1o z66 z3t z2x z1u z0l z33 z1x z46 z9j z6r z2b z1h z2d pubs pub z8b params z2q z0a z1b z30 z4f z4t z9v untips untip z64 wantedAV setElems withO z9y z4l z4i z4h z71 z4k z4g z70 z4j List.replicate_succ List.replicate_zero opAV valAV aval avals ofVal Env.get setD canon gcAV renAll renEnv renStore renCells z7t cutSt okEnv okStore okRefs okRef z5d zam z7j zal zaj zak zan cellsEq cellEq isShift intOp boolOp z9n z9o zao bne resAV tupAV z6y zdx z83 fins zij za6 za7 za5 zdy storeAV readCells putCells z7f z3r z1i fieldAddrAV zbg goI List.getElem?_cons_zero List.getElem?_cons_succ List.getElem?_nil Option.bind_some Option.map_some List.length_cons List.length_nil List.all_cons List.all_nil Bool.and_true Bool.true_and Bool.and_false Bool.false_and and_true true_and and_false false_and Bool.false_eq_true List.set_cons_zero List.set_cons_succ List.append_nil List.nil_append List.cons_append List.take_zero List.take_succ_cons List.take_nil List.drop_zero List.drop_succ_cons List.map_cons List.map_nil decide_true decide_false beq_self_eq_true Bool.not_true Bool.not_false or_true true_or or_false false_or Nat.zero_add Nat.add_zero Nat.le_refl Nat.lt_irrefl decide_eq_true_eq eq_self_iff_true not_true_eq_false not_false_eq_true List.getD_cons_zero z4v Nat.zero_le Nat.not_lt_zero Bool.true_beq Bool.false_beq beq_true beq_false ge_iff_le gt_iff_lt keepR keepT ownTop zit pus Option.map_none z35 z34 z75 z4n z74 Int.cast_ofNat_Int Nat.mul_one Nat.zero_mul Int.toNat_natCast Int.toNat_zero setParts withO2 hasKey z7b z6t z4p z48 z1r z1q z0h z4m setm z9q zaa z8s zel zev zhj zc4 z8z z85 z62 zcd z9k z8w z7o zah z84 zc6 z97 z7x z60 zcf z9l zcz z80 z81 za3 z5w zc1 z8v z8u zc2 Option.bind_none Bool.not_eq_true' decide_eq_false_iff_not Bool.and_eq_true Bool.or_eq_true Option.some.injEq Int.not_lt Int.not_le
attribute [local go_sem_proc] reduceIte Nat.reduceEqDiff Nat.reduceAdd Nat.reduceSub Nat.reduceLeDiff Nat.reduceLT reduceCtorEq Int.reduceLT Int.reduceLE Int.reduceEq Int.reduceBEq Int.reduceSub Int.reduceAdd Int.reduceMul Int.reduceNeg Int.reduceToNat Nat.reduceMul Nat.reduceBEq
theorem cells3:Tryz.prog.cellsOf 3=1:=by kernel_rfl
theorem zlh:Tryz.prog.cellsOf 28=1:=by kernel_rfl
theorem zkj {d:Nat} {t e:TypeId} {a:AV} (ht:Tryz.prog.underlying t=some (.slice e))(he:Tryz.prog.underlying e=some (.int .i64))(hc:Tryz.prog.cellsOf e=1)(h:Sh Tryz.prog (d+2) t [a]):
  ∃(nl:Bool) (zs:List Int),a=sl 1 nl (zs.map I)∧(zs.length:Int)≤maxLen∧∀n∈zs,(Lit.int .i64 n).wf=true:=by
 rcases zf2 ht h with rfl| ⟨xs,rfl,hl,hx⟩
 ·exact ⟨true,[],rfl,by simp,by simp⟩
 ·obtain ⟨zs,rfl,h2,h3⟩:=z39 (f:=I) (R:=fun n=>(Lit.int .i64 n).wf=true) xs (fun x hm=>by
   rcases hx x hm with h| ⟨⟨e2,h⟩,_⟩
   ·exact sh_int he h
   ·rw [he] at h;cases h)
  exact ⟨false,zs,by rw [hc,←zf1],by simp at hl;omega,h3⟩
theorem sh_num {a:AV} (h:ShV Tryz.prog 8 3 a): ∃n:Int,a=I n∧(Lit.int .i64 n).wf=true:=by
 unfold ShV at h
 rw [if_neg (by unfold aggB;rw [Tryz.underlying3];simp)] at h
 simp only [Sh,Tryz.underlying3,List.cons.injEq,and_true] at h
 exact h
theorem sh_lists {a:AV} (h:ShV Tryz.prog 8 22 a): ∃(nl:Bool) (G:List GS),a=sl 1 nl (G.map gM)∧(G.length:Int)≤maxLen∧∀p∈G,(p.2.length:Int)≤maxLen∧∀n∈p.2,(Lit.int .i64 n).wf=true:=by
 unfold ShV at h
 rw [if_neg (by unfold aggB;rw [Tryz.underlying22];simp)] at h
 rcases zf2 Tryz.underlying22 h with rfl| ⟨xs,rfl,hl,hx⟩
 ·exact ⟨true,[],rfl,by simp,by simp⟩
 ·obtain ⟨G,rfl,h2,h3⟩:=z39 (f:=gM) (R:=fun p=>(p.2.length:Int)≤maxLen∧∀n∈p.2,(Lit.int .i64 n).wf=true) xs (fun x hm=>by
   rcases hx x hm with this| ⟨_,a,cap,rfl⟩
   ·unfold ShV at this
    rw [if_neg (by unfold aggB;rw [Tryz.underlying28];simp)] at this
    obtain ⟨nl,zs,e,h1,h2⟩:=zkj Tryz.underlying28 Tryz.underlying3 cells3 this
    obtain ⟨k,hk⟩:=gM_sl nl zs
    exact ⟨(k,zs),e.trans hk.symm,h1,h2⟩
   ·exact ⟨(.odd a cap,[]),rfl,by simp,by simp⟩)
  exact ⟨false,G,by rw [zlh,←zf1],by simp at hl;omega,h3⟩
end Go.Proofs.YtdnmhlfjafjkbaaGreatDoor.Vm
