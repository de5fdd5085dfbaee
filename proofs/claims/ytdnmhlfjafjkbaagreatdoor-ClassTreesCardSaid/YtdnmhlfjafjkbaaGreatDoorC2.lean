/- What is proved: what each function of this program computes, as equations on the evaluator. No condition. -/
import Derived.Test.YtdnmhlfjafjkbaaGreatDoorC1
import Derived.KernelRfl
import Derived.Test.YtdnmhlfjafjkbaaGreatDoorT0
set_option linter.all false
namespace Go.Proofs.YtdnmhlfjafjkbaaGreatDoor.Vm
open Go Go.Ev
set_option maxRecDepth 100000
set_option maxHeartbeats 4000000
attribute [local go_sem] m_ x_ l_ k_ o_ t_ a_ s_ q_ b_ c_ u_ g_ z49 z0s z5g z23 z44 z0n z5c z1b z2e z0b z3a z22 z43 z0m z5b z26 z47 z0q z5e z1c z2f z0c z3b z1a z2d z0a z37 z25 z46 z0p z34 z61 z19 z7p z27 z48 z0r z5f z28 z1u z0t z5h z21 z42 z0l z5a z24 z45 z0o z5d z39 z29 z38 z7x z7v z7w z5l z3g z3k z3j z3i z3v z3w z4j z5n z83 z0z z4b z36 z1f z3e z3y z40 z5y z5z z5x z41 z2c z1d z57 z35 z2b z1g z0e z2g z1h z3d z7s z5i z1y z17 z20 pubs pub z4h params z2m z07 z1i z2p z3l z3x z7y untips untip z56 wantedAV setElems withO z7z z3r z3o z3n z5p z3q z3m z5o z3p List.replicate_succ List.replicate_zero opAV valAV aval avals ofVal Env.get setD canon gcAV renAll renEnv renStore renCells z1m cutSt okEnv okStore okRefs okRef z0k z87 z64 z86 z84 z85 z88 cellsEq cellEq isShift intOp boolOp z7t z7u z89 bne resAV tupAV z5m zbr z6x fins zg9 z6w z82 z81 zbs storeAV readCells putCells z60 z33 z18 fieldAddrAV za6 goI List.getElem?_cons_zero List.getElem?_cons_succ List.getElem?_nil Option.bind_some Option.map_some List.length_cons List.length_nil List.all_cons List.all_nil Bool.and_true Bool.true_and Bool.and_false Bool.false_and and_true true_and and_false false_and Bool.false_eq_true List.set_cons_zero List.set_cons_succ List.append_nil List.nil_append List.cons_append List.take_zero List.take_succ_cons List.take_nil List.drop_zero List.drop_succ_cons List.map_cons List.map_nil decide_true decide_false beq_self_eq_true Bool.not_true Bool.not_false or_true true_or or_false false_or Nat.zero_add Nat.add_zero Nat.le_refl Nat.lt_irrefl decide_eq_true_eq eq_self_iff_true not_true_eq_false not_false_eq_true List.getD_cons_zero z3z Nat.zero_le Nat.not_lt_zero Bool.true_beq Bool.false_beq beq_true beq_false ge_iff_le gt_iff_lt keepR keepT ownTop zgf pus Option.map_none z2i z2h z5s z3s z5r Int.cast_ofNat_Int Nat.mul_one Nat.zero_mul Int.toNat_natCast Int.toNat_zero setParts withO2 hasKey z5v z5j z3u z3f z1e z0w zy z2n setm z4v z6z z69 zbe zc3 zex z8g z6g z55 z4c z8v z6p z6f z4q z72 z54 z8l z6h z4x z3h z8x z6q z9g z50 z51 z6u z31 z8c z6e z6d z8d Option.bind_none Bool.not_eq_true' decide_eq_false_iff_not Bool.and_eq_true Bool.or_eq_true Option.some.injEq Int.not_lt Int.not_le
attribute [local go_sem_proc] reduceIte Nat.reduceEqDiff Nat.reduceAdd Nat.reduceSub Nat.reduceLeDiff Nat.reduceLT reduceCtorEq Int.reduceLT Int.reduceLE Int.reduceEq Int.reduceBEq Int.reduceSub Int.reduceAdd Int.reduceMul Int.reduceNeg Int.reduceToNat Nat.reduceMul Nat.reduceBEq
attribute [local go_sem] m_ x_ l_ k_ o_ t_ a_ s_ q_ b_ c_ u_ g_ ze zi zj z6 zh
def tl129:IC:=(.seq (.seq (.ops [⟨(some 81),none,.move (.tmp 1)⟩,⟨(some 82),none,.bin .gtr none (.tmp 81) (.const (.int .i64 0))⟩,⟨(some 83),none,.move (.tmp 82)⟩,⟨(some 84),(some (83,true)),.move (.tmp 4)⟩,⟨(some 85),(some (83,true)),.move (.tmp 0)⟩,⟨(some 86),(some (83,true)),.move (.tmp 1)⟩,⟨(some 87),(some (83,true)),.bin .sub none (.tmp 86) (.const (.int .i64 1))⟩,⟨(some 88),(some (83,true)),.indexS 1 (.tmp 85) (.tmp 87)⟩,⟨(some 89),(some (83,true)),.load 1 true (.tmp 88)⟩,⟨(some 90),(some (83,true)),.move (.tmp 0)⟩,⟨(some 91),(some (83,true)),.move (.tmp 13)⟩,⟨(some 92),(some (83,true)),.indexS 1 (.tmp 90) (.tmp 91)⟩,⟨(some 93),(some (83,true)),.load 1 true (.tmp 92)⟩,⟨(some 94),(some (83,true)),.callv true (.tmp 84) [(.tmp 89),(.tmp 93)]⟩,⟨(some 95),(some (83,true)),.bin .lss none (.tmp 94) (.const (.int .i64 0))⟩,⟨(some 96),(some (83,true)),.not (.tmp 95)⟩,⟨(some 97),none,.pick (.tmp 83) (.tmp 96) (.const (.bool false))⟩])
 (.cond (.tmp 97) (.seq (.ops [⟨(some 98),none,.move (.tmp 0)⟩,⟨(some 99),none,.move (.tmp 1)⟩,⟨(some 100),none,.move (.tmp 2)⟩,⟨(some 101),none,.move (.tmp 13)⟩,⟨(some 102),none,.move (.tmp 4)⟩,⟨(some 103),none,.call false 167 [(.tmp 98),(.tmp 99),(.tmp 100),(.tmp 101),(.tmp 102)]⟩,⟨(some 15),none,.move (.tmp 103)⟩])
  (.seq (.ops [⟨(some 104),none,.move (.tmp 15)⟩,⟨(some 1),none,.move (.tmp 104)⟩])
  (.exit 1)))
 .skip))
 (.seq (.ops [⟨(some 106),none,.move (.tmp 0)⟩,⟨(some 107),none,.move (.tmp 1)⟩,⟨(some 108),none,.move (.tmp 2)⟩,⟨(some 109),none,.move (.tmp 13)⟩,⟨(some 110),none,.move (.tmp 4)⟩,⟨(some 111),none,.call false 168 [(.tmp 106),(.tmp 107),(.tmp 108),(.tmp 109),(.tmp 110)]⟩,⟨(some 105),none,.move (.tmp 111)⟩,⟨(some 112),none,.extract 0 (.tmp 105)⟩,⟨(some 113),none,.extract 1 (.tmp 105)⟩,⟨(some 16),none,.move (.tmp 112)⟩,⟨(some 17),none,.move (.tmp 113)⟩])
 (.seq (.ops [⟨(some 114),none,.move (.tmp 17)⟩,⟨(some 11),none,.move (.tmp 114)⟩])
 (.seq (.ops [⟨(some 115),none,.move (.tmp 16)⟩,⟨(some 116),none,.move (.tmp 1)⟩,⟨(some 117),none,.bin .sub none (.tmp 115) (.tmp 116)⟩,⟨(some 118),none,.move (.tmp 2)⟩,⟨(some 119),none,.move (.tmp 16)⟩,⟨(some 120),none,.bin .sub none (.tmp 118) (.tmp 119)⟩,⟨(some 18),none,.move (.tmp 117)⟩,⟨(some 19),none,.move (.tmp 120)⟩])
 (.seq (.ops [⟨(some 121),none,.move (.tmp 12)⟩,⟨(some 122),none,.bin .quo none (.tmp 121) (.const (.int .i64 8))⟩,⟨(some 20),none,.move (.tmp 122)⟩])
 (.seq (.ops [⟨(some 123),none,.move (.tmp 18)⟩,⟨(some 124),none,.move (.tmp 19)⟩,⟨(some 125),none,.bin .lss none (.tmp 123) (.tmp 124)⟩])
 (.cond (.tmp 125) (.seq (.ops [⟨(some 126),none,.move (.tmp 18)⟩,⟨(some 127),none,.move (.tmp 20)⟩,⟨(some 128),none,.bin .geq none (.tmp 126) (.tmp 127)⟩,⟨(some 10),none,.move (.tmp 128)⟩])
  (.seq (.ops [⟨(some 129),none,.move (.tmp 0)⟩,⟨(some 130),none,.move (.tmp 1)⟩,⟨(some 131),none,.move (.tmp 16)⟩,⟨(some 132),none,.move (.tmp 3)⟩,⟨(some 133),none,.move (.tmp 4)⟩,⟨(some 134),none,.call false 129 [(.tmp 129),(.tmp 130),(.tmp 131),(.tmp 132),(.tmp 133)]⟩])
  (.ops [⟨(some 135),none,.move (.tmp 16)⟩,⟨(some 136),none,.bin .add none (.tmp 135) (.const (.int .i64 1))⟩,⟨(some 1),none,.move (.tmp 136)⟩])))
 (.seq (.ops [⟨(some 137),none,.move (.tmp 19)⟩,⟨(some 138),none,.move (.tmp 20)⟩,⟨(some 139),none,.bin .geq none (.tmp 137) (.tmp 138)⟩,⟨(some 10),none,.move (.tmp 139)⟩])
  (.seq (.ops [⟨(some 140),none,.move (.tmp 0)⟩,⟨(some 141),none,.move (.tmp 16)⟩,⟨(some 142),none,.bin .add none (.tmp 141) (.const (.int .i64 1))⟩,⟨(some 143),none,.move (.tmp 2)⟩,⟨(some 144),none,.move (.tmp 3)⟩,⟨(some 145),none,.move (.tmp 4)⟩,⟨(some 146),none,.call false 129 [(.tmp 140),(.tmp 142),(.tmp 143),(.tmp 144),(.tmp 145)]⟩])
  (.ops [⟨(some 147),none,.move (.tmp 16)⟩,⟨(some 2),none,.move (.tmp 147)⟩]))))))))))
theorem zme:lp129_0=(.block 1 (.seq (.ops [⟨(some 21),none,.move (.tmp 2)⟩,⟨(some 22),none,.move (.tmp 1)⟩,⟨(some 23),none,.bin .sub none (.tmp 21) (.tmp 22)⟩,⟨(some 12),none,.move (.tmp 23)⟩])
 (.seq (.seq (.ops [⟨(some 24),none,.move (.tmp 12)⟩,⟨(some 25),none,.bin .leq none (.tmp 24) (.const (.int .i64 12))⟩])
 (.cond (.tmp 25) (.seq (.ops [⟨(some 26),none,.move (.tmp 0)⟩,⟨(some 27),none,.move (.tmp 1)⟩,⟨(some 28),none,.move (.tmp 2)⟩,⟨(some 29),none,.move (.tmp 4)⟩,⟨(some 30),none,.call false 161 [(.tmp 26),(.tmp 27),(.tmp 28),(.tmp 29)]⟩])
  .ret)
 .skip))
 (.seq (.seq (.ops [⟨(some 31),none,.move (.tmp 3)⟩,⟨(some 32),none,.bin .eql none (.tmp 31) (.const (.int .i64 0))⟩])
 (.cond (.tmp 32) (.seq (.ops [⟨(some 33),none,.move (.tmp 0)⟩,⟨(some 34),none,.move (.tmp 1)⟩,⟨(some 35),none,.move (.tmp 2)⟩,⟨(some 36),none,.move (.tmp 4)⟩,⟨(some 37),none,.call false 162 [(.tmp 33),(.tmp 34),(.tmp 35),(.tmp 36)]⟩])
  .ret)
 .skip))
 (.seq (.seq (.ops [⟨(some 38),none,.move (.tmp 10)⟩,⟨(some 39),none,.not (.tmp 38)⟩])
 (.cond (.tmp 39) (.seq (.ops [⟨(some 40),none,.move (.tmp 0)⟩,⟨(some 41),none,.move (.tmp 1)⟩,⟨(some 42),none,.move (.tmp 2)⟩,⟨(some 43),none,.move (.tmp 4)⟩,⟨(some 44),none,.call false 163 [(.tmp 40),(.tmp 41),(.tmp 42),(.tmp 43)]⟩])
  (.ops [⟨(some 45),none,.move (.tmp 3)⟩,⟨(some 46),none,.bin .sub none (.tmp 45) (.const (.int .i64 1))⟩,⟨(some 3),none,.move (.tmp 46)⟩]))
 .skip))
 (.seq (.ops [⟨(some 48),none,.move (.tmp 0)⟩,⟨(some 49),none,.move (.tmp 1)⟩,⟨(some 50),none,.move (.tmp 2)⟩,⟨(some 51),none,.move (.tmp 4)⟩,⟨(some 52),none,.call false 164 [(.tmp 48),(.tmp 49),(.tmp 50),(.tmp 51)]⟩,⟨(some 47),none,.move (.tmp 52)⟩,⟨(some 53),none,.extract 0 (.tmp 47)⟩,⟨(some 54),none,.extract 1 (.tmp 47)⟩,⟨(some 13),none,.move (.tmp 53)⟩,⟨(some 14),none,.move (.tmp 54)⟩])
 (.seq (.seq (.ops [⟨(some 55),none,.move (.tmp 14)⟩,⟨(some 56),none,.bin .eql none (.tmp 55) (.const (.int .i64 2))⟩])
 (.cond (.tmp 56) (.seq (.ops [⟨(some 57),none,.move (.tmp 0)⟩,⟨(some 58),none,.move (.tmp 1)⟩,⟨(some 59),none,.move (.tmp 2)⟩,⟨(some 60),none,.move (.tmp 4)⟩,⟨(some 61),none,.call false 165 [(.tmp 57),(.tmp 58),(.tmp 59),(.tmp 60)]⟩])
  (.seq (.ops [⟨(some 62),none,.move (.tmp 2)⟩,⟨(some 63),none,.bin .sub none (.tmp 62) (.const (.int .i64 1))⟩,⟨(some 64),none,.move (.tmp 13)⟩,⟨(some 65),none,.move (.tmp 1)⟩,⟨(some 66),none,.bin .sub none (.tmp 64) (.tmp 65)⟩,⟨(some 67),none,.bin .sub none (.tmp 63) (.tmp 66)⟩,⟨(some 13),none,.move (.tmp 67)⟩])
  (.ops [⟨(some 14),none,.move (.const (.int .i64 1))⟩])))
 .skip))
 (.seq (.seq (.ops [⟨(some 68),none,.move (.tmp 10)⟩,⟨(some 69),none,.move (.tmp 68)⟩,⟨(some 70),(some (69,true)),.move (.tmp 11)⟩,⟨(some 71),none,.pick (.tmp 69) (.tmp 70) (.const (.bool false))⟩,⟨(some 72),none,.move (.tmp 71)⟩,⟨(some 73),(some (72,true)),.move (.tmp 14)⟩,⟨(some 74),(some (72,true)),.bin .eql none (.tmp 73) (.const (.int .i64 1))⟩,⟨(some 75),none,.pick (.tmp 72) (.tmp 74) (.const (.bool false))⟩])
 (.cond (.tmp 75) (.seq (.ops [⟨(some 76),none,.move (.tmp 0)⟩,⟨(some 77),none,.move (.tmp 1)⟩,⟨(some 78),none,.move (.tmp 2)⟩,⟨(some 79),none,.move (.tmp 4)⟩,⟨(some 80),none,.call false 166 [(.tmp 76),(.tmp 77),(.tmp 78),(.tmp 79)]⟩])
  (.cond (.tmp 80) .ret
  .skip))
 .skip))
 tl129)))))))):=rfl
def endss (k:Nat) (caps:List AV) (l n:Nat) (ag:Bool) (en:Env) (a b li:Nat) (wb wp:Bool):Prop:=
 en.get 0=.rsl l 0 n n 1 ag∧en.get 1=J a∧en.get 2=J b∧en.get 3=J li∧en.get 4=.fn (.func k) [] caps∧en.get 10=B wb∧en.get 11=B wp
section
variable (S0:List (List AV)) (T:List Nat) (l:Nat) (hl:l<S0.length) (n:Nat) (hn:n≤1000) (ag:Bool) (k:Nat) (hk:pure k=true) (caps:List AV) (c:Fin 256→Fin 256→Int) (lt:Fin 256→Fin 256→Bool) (hlt: ∀x y,lt x y=decide (c x y<0)) (hc: ∀x y X E,run L k (fS x::fS y::caps) ⟨put S0 l X E,T⟩=some (I (c x y),⟨put S0 l X E,T⟩))
include S0 T l hl n hn ag k hk caps c lt hlt hc
theorem zdc (N:Nat)(ih:(∀(a b li:Nat) (d:Array (Fin 256)) (X0:List (List AV)),a≤b→b≤n→d.size=n→li<1000→b-a<N→(Go.Sort.pdq lt d a b li true true).size=n∧∃X1,(PL X0→PL X1)∧run L 129 [.rsl l 0 n n 1 ag,J a,J b,J li,.fn (.func k) [] caps] ⟨put S0 l (Dm gS d) X0,T⟩=some (.tup [],⟨put S0 l (Dm gS (Go.Sort.pdq lt d a b li true true)) X1,T⟩)))
  (X0:List (List AV)) (en:Env) (a b li p:Nat) (wb wp:Bool) (d:Array (Fin 256)) (hsz:d.size=n) (hab:a+13≤b) (hb:b≤n) (hN:b-a≤N) (hp1:a≤p) (hp2:p<b) (hli:li<1000)
  (e0:en.get 0=.rsl l 0 n n 1 ag) (e1:en.get 1=J a) (e2:en.get 2=J b) (e3:en.get 3=J li) (e4:en.get 4=.fn (.func k) [] caps) (e10:en.get 10=B wb) (e11:en.get 11=B wp) (e12:en.get 12=J (b-a)) (e13:en.get 13=J p)
  (NN:Env→St→Prop) (QQ:X→Env→St→Prop)
  (hnext: ∀en' a' b' wb' wp' (d':Array (Fin 256)) X1,endss k caps l n ag en' a' b' li wb' wp'→(PL X0→PL X1)→a'≤b'→b'≤n→b'-a'<b-a→d'.size=n→pdqT lt d a b p li wb wp=Go.Sort.pdq lt d' a' b' li wb' wp'→NN en' ⟨put S0 l (Dm gS d') X1,T⟩):
  Then (blockK 1 (codeAV pure (run L) lim tl129 en ⟨put S0 l (Dm gS d) X0,T⟩)) NN QQ:=by
 have hpo:=za4 lt d (a:=a) (b:=b) (p:=p) (by omega)
 have hpe:=z4s lt d (a:=a) (b:=b) (p:=p) (by omega)
 have hrp:=pars S0 T l hl n hn ag k hk caps c lt hlt hc X0 d hsz a b p (by omega) hb (by omega)
 have hre:=peqs S0 T l hl n hn ag k hk caps c lt hlt hc X0 d hsz a b p (by omega) hb (by omega)
 have hT:pdqT lt d a b p li wb wp=if (decide (a>0)&& !lt d[a-1]! d[p]!)=true then Go.Sort.pdq lt (Go.Sort.partitionEqual lt d a b p).2 (Go.Sort.partitionEqual lt d a b p).1 b li wb wp
  else if (Go.Sort.partition lt d a b p).1-a<b-(Go.Sort.partition lt d a b p).1 then
   Go.Sort.pdq lt (Go.Sort.pdq lt (Go.Sort.partition lt d a b p).2.2 a (Go.Sort.partition lt d a b p).1 li true true) ((Go.Sort.partition lt d a b p).1+1) b li (decide ((b-a) / 8≤(Go.Sort.partition lt d a b p).1-a)) (Go.Sort.partition lt d a b p).2.1
  else
   Go.Sort.pdq lt (Go.Sort.pdq lt (Go.Sort.partition lt d a b p).2.2 ((Go.Sort.partition lt d a b p).1+1) b li true true) a (Go.Sort.partition lt d a b p).1 li (decide ((b-a) / 8≤b-(Go.Sort.partition lt d a b p).1)) (Go.Sort.partition lt d a b p).2.1:=rfl
 rw [hT] at hnext
 generalize Go.Sort.partition lt d a b p=q at*
 generalize Go.Sort.partitionEqual lt d a b p=qe at*
 obtain ⟨mid,ap,d4⟩:=q
 obtain ⟨mid2,d5⟩:=qe
 dsimp only at*
 have hget:=fun C E=>zt hl C E
 have hpset:=fun C C' E=>zr hl C C' E
 have hlenD:(Dm gS d).length=n:=by rw [z09,hsz]
 have r10:(((p:Nat):Int)<(n:Int))=True:=eT (by omega)
 have r11:((p:Nat)<n)=True:=eT (by omega)
 have r12:((p:Nat)+1≤n)=True:=eT (by omega)
 have r13:((Dm gS d).drop (p)).take 1=[gS d[p]!]:=zf gS d (by omega)
 have hq8:IntKind.i64.wrap (Int.tdiv ((b-a:Nat):Int) 8)=(((b-a) / 8:Nat):Int):=quoJ (b-a) 8 (by omega) (by omega)
 have hml:=zgi mid a (by omega) (by omega)
 have hmr:=zgi b mid (by omega) (by omega)
 have hm1:=zd mid (by omega)
 have b1:((((b-a) / 8:Nat):Int)≤((mid-a:Nat):Int))=((b-a) / 8≤mid-a):=propext (by omega)
 have b2:((((b-a) / 8:Nat):Int)≤((b-mid:Nat):Int))=((b-a) / 8≤b-mid):=propext (by omega)
 have dd: ∀(P:Prop) [Decidable P] (v:Bool),v=decide P→decide P=v:=fun _ _ _ h=>h.symm
 have i1:=ih a mid li d4 X0 (by omega) (by omega) (by omega) hli (by omega)
 have i2:=ih (mid+1) b li d4 X0 (by omega) (by omega) (by omega) hli (by omega)
 obtain ⟨z1,Y1,y1,i1⟩:=i1
 obtain ⟨z2,Y2,y2,i2⟩:=i2
 generalize Go.Sort.pdq lt d4 a mid li true true=d6 at*
 generalize Go.Sort.pdq lt d4 (mid+1) b li true true=d7 at*
 generalize (b-a) / 8=bal at*
 by_cases h0:a=0
 ·have q0:((0:Int)<(a:Int))=False:=eF (by omega)
  rw [show decide (a>0)=false from decide_eq_false (by omega),Bool.false_and,if_neg (by simp)] at hnext
  by_cases hc2:mid-a<b-mid
  ·have q1:(((mid-a:Nat):Int)<((b-mid:Nat):Int))=True:=eT (by omega)
   rw [if_pos hc2] at hnext
   simp only [go_sem,tl129,e0,e1,e2,e3,e4,e10,e11,e12,e13,q0,hrp,hml,hmr,hq8,q1,b1,i1,hm1]
   exact hnext _ _ _ _ _ _ _ ⟨by simp only [go_sem,e0],by simp only [go_sem],by simp only [go_sem,e2],by simp only [go_sem,e3],by simp only [go_sem,e4],by simp only [go_sem],by simp only [go_sem]⟩ y1 (by omega) hb (by omega) z1 rfl
  ·have q1:(((mid-a:Nat):Int)<((b-mid:Nat):Int))=False:=eF (by omega)
   rw [if_neg hc2] at hnext
   simp only [go_sem,tl129,e0,e1,e2,e3,e4,e10,e11,e12,e13,q0,hrp,hml,hmr,hq8,q1,b2,i2,hm1]
   exact hnext _ _ _ _ _ _ _ ⟨by simp only [go_sem,e0],by simp only [go_sem,e1],by simp only [go_sem],by simp only [go_sem,e3],by simp only [go_sem,e4],by simp only [go_sem],by simp only [go_sem]⟩ y2 (by omega) (by omega) (by omega) z2 rfl
 ·have q0:((0:Int)<(a:Int))=True:=eT (by omega)
  have hw:=z13 a (by omega) (by omega)
  have r20:(((a-1:Nat):Int)<(n:Int))=True:=eT (by omega)
  have r21:((a-1:Nat)<n)=True:=eT (by omega)
  have r22:((a-1:Nat)+1≤n)=True:=eT (by omega)
  have r23:((Dm gS d).drop (a-1)).take 1=[gS d[a-1]!]:=zf gS d (by omega)
  rw [show decide (a>0)=true from decide_eq_true (by omega),Bool.true_and] at hnext
  cases hcc:lt d[a-1]! d[p]! with
  |true=>
   have hk0:(c d[a-1]! d[p]! <0)=True:=by rw [hlt] at hcc;simpa using hcc
   rw [hcc,if_neg (by simp)] at hnext
   generalize d[a-1]! =x at*
   generalize d[p]! =y at*
   by_cases hc2:mid-a<b-mid
   ·have q1:(((mid-a:Nat):Int)<((b-mid:Nat):Int))=True:=eT (by omega)
    rw [if_pos hc2] at hnext
    simp only [go_sem,tl129,e0,e1,e2,e3,e4,e10,e11,e12,e13,q0,hw,r10,r11,r12,r13,r20,r21,r22,r23,hc,hk,hk0,hrp,hml,hmr,hq8,q1,b1,i1,hm1,hget,hpset,hlenD,nn_,lm_,List.length_set]
    exact hnext _ _ _ _ _ _ _ ⟨by simp only [go_sem,e0],by simp only [go_sem],by simp only [go_sem,e2],by simp only [go_sem,e3],by simp only [go_sem,e4],by simp only [go_sem],by simp only [go_sem]⟩ y1 (by omega) hb (by omega) z1 rfl
   ·have q1:(((mid-a:Nat):Int)<((b-mid:Nat):Int))=False:=eF (by omega)
    rw [if_neg hc2] at hnext
    simp only [go_sem,tl129,e0,e1,e2,e3,e4,e10,e11,e12,e13,q0,hw,r10,r11,r12,r13,r20,r21,r22,r23,hc,hk,hk0,hrp,hml,hmr,hq8,q1,b2,i2,hm1,hget,hpset,hlenD,nn_,lm_,List.length_set]
    exact hnext _ _ _ _ _ _ _ ⟨by simp only [go_sem,e0],by simp only [go_sem,e1],by simp only [go_sem],by simp only [go_sem,e3],by simp only [go_sem,e4],by simp only [go_sem],by simp only [go_sem]⟩ y2 (by omega) (by omega) (by omega) z2 rfl
  |false=>
   have hk0:(c d[a-1]! d[p]! <0)=False:=by rw [hlt] at hcc;simpa using hcc
   rw [hcc,if_pos (show (!false)=true from rfl)] at hnext
   generalize d[a-1]! =x at*
   generalize d[p]! =y at*
   simp only [go_sem,tl129,e0,e1,e2,e3,e4,e10,e11,e12,e13,q0,hw,r10,r11,r12,r13,r20,r21,r22,r23,hc,hk,hk0,hre,hget,hpset,hlenD,nn_,lm_,List.length_set]
   exact hnext _ _ _ _ _ _ _ ⟨by simp only [go_sem,e0],by simp only [go_sem],by simp only [go_sem,e2],by simp only [go_sem,e3],by simp only [go_sem,e4],by simp only [go_sem,e10],by simp only [go_sem,e11]⟩ id (by omega) hb (by omega) (by rw [hpe.1,hsz]) rfl
theorem pdq0s (hn2:n<256)(N:Nat)(ih:(∀(a b li:Nat) (d:Array (Fin 256)) (X0:List (List AV)),a≤b→b≤n→d.size=n→li<1000→b-a<N→(Go.Sort.pdq lt d a b li true true).size=n∧∃X1,(PL X0→PL X1)∧run L 129 [.rsl l 0 n n 1 ag,J a,J b,J li,.fn (.func k) [] caps] ⟨put S0 l (Dm gS d) X0,T⟩=some (.tup [],⟨put S0 l (Dm gS (Go.Sort.pdq lt d a b li true true)) X1,T⟩)))(lo hi2:Nat)(a:Nat)(b:Nat)(li:Nat)(wb:Bool)(wp:Bool)(d:Array (Fin 256))(X0:List (List AV))(hok:a≤b∧b≤n∧d.size=n∧li<1000∧b-a≤N)(env:Env)(st:St)
  (hg:gcAV false lo hi2 (canon env [0,1,2,3,4,10,11]) st=([(0,.rsl l 0 n n 1 ag),(1,J a),(2,J b),(3,J li),(4,.fn (.func k) [] caps),(10,B wb),(11,B wp)],⟨put S0 l (Dm gS d) X0,T⟩)):
  ∃x_1 en s,lim (headed pure (run L) false [0,1,2,3,4,10,11] lp129_0 lo hi2) env st=some (x_1,en,s)∧(x_1=.ret∧(Go.Sort.pdq lt d a b li wb wp).size=n∧∃X1,(PL X0→PL X1)∧s=⟨put S0 l (Dm gS (Go.Sort.pdq lt d a b li wb wp)) X1,T⟩):=by
 refine z7 (α:=Nat×Nat×Nat×Bool×Bool×Array (Fin 256)×List (List AV)) (fun ⟨a,b,li,wb,wp,d,X0⟩=>b-a) (fun ⟨a,b,li,wb,wp,d,X0⟩=>a≤b∧b≤n∧d.size=n∧li<1000∧b-a≤N) (fun ⟨a,b,li,wb,wp,d,X0⟩=>([(0,.rsl l 0 n n 1 ag),(1,J a),(2,J b),(3,J li),(4,.fn (.func k) [] caps),(10,B wb),(11,B wp)],⟨put S0 l (Dm gS d) X0,T⟩)) (fun ⟨a,b,li,wb,wp,d,X0⟩ x_1 en s=>x_1=.ret∧(Go.Sort.pdq lt d a b li wb wp).size=n∧∃X1,(PL X0→PL X1)∧s=⟨put S0 l (Dm gS (Go.Sort.pdq lt d a b li wb wp)) X1,T⟩) (fun ⟨a,b,li,wb,wp,d,X0⟩ hok=> ?_) ⟨a,b,li,wb,wp,d,X0⟩ hok env st hg
 simp only at hok
 obtain ⟨h1,h2,hsz,hli,hN⟩:=hok
 dsimp only at h1 h2 hsz hli hN⊢
 have hw:=zgi b a h1 (by omega)
 rw [zme]
 by_cases h12:b-a≤12
 ·have q12:(((b-a:Nat):Int)≤12)=True:=eT (by omega)
  have e:Go.Sort.pdq lt d a b li wb wp=Go.Sort.insertionSort lt d a b:=by rw [Go.Sort.pdq,if_pos h12]
  rw [e]
  have hi:=inss S0 T l hl n hn ag k hk caps c lt hlt hc X0 a b (by omega) h2 d hsz
  simp only [go_sem,lp129_0,hw,q12,hi]
  exact ⟨by rw [z96,hsz],_,id,rfl⟩
 ·have q12:(((b-a:Nat):Int)≤12)=False:=eF (by omega)
  by_cases hl0:li=0
  ·have ql:((li:Int)=0)=True:=eT (by omega)
   have e:Go.Sort.pdq lt d a b li wb wp=Go.Sort.heapSort lt d a b:=by rw [Go.Sort.pdq,if_neg h12,if_pos hl0]
   rw [e]
   have hh:=heaps S0 T l hl n hn ag k hk caps c lt hlt hc X0 d hsz a b (by omega) h2
   simp only [go_sem,lp129_0,hw,q12,ql,hh]
   exact ⟨by rw [ze0,hsz],_,id,rfl⟩
  ·have ql:((li:Int)=0)=False:=eF (by omega)
   have hb1:=z13 b (by omega) (by omega)
   cases wb with
   |false=>
    obtain ⟨BB,hbr⟩:=brks S0 T l hl n hn ag k caps X0 d hsz a b (by omega) h2 (by omega)
    have hz1:(Go.Sort.breakPatterns d a b).size=n:=by rw [z9f,hsz]
    have hpl:=z13 li (by omega) (by omega)
    generalize hd1:Go.Sort.breakPatterns d a b=d1 at*
    obtain ⟨B2,hpv⟩:=pivs S0 T l hl n hn ag k hk caps c lt hlt hc (X0++ [[U BB]]) d1 hz1 a b (by omega) h2
    have hpr:=Go.Sort.choosePivot_holds lt d1 a b (by omega)
    generalize hcc:Go.Sort.choosePivot lt d1 a b=cc at*
    obtain ⟨pv,hint⟩:=cc
    dsimp only at hpr hpv
    cases hint with
    |unknown=>
     have hpv:run L 164 [.rsl l 0 n n 1 ag,J a,J b,.fn (.func k) [] caps] ⟨put S0 l (Dm gS d1) (X0++ [[U BB]]),T⟩=some (.tup [J pv,I 0],⟨put S0 l (Dm gS d1) ((X0++ [[U BB]])++ [[J B2]]),T⟩):=hpv
     have e:Go.Sort.pdq lt d a b li false wp=pdqT lt d1 a b pv (li-1) false wp:=by rw [z14 lt d false wp (by omega) hl0];simp [hd1,hcc]
     rw [e]
     simp only [go_sem,lp129_0,hw,q12,ql,hbr,hpl,hpv]
     refine zdc S0 T l hl n hn ag k hk caps c lt hlt hc N ih _ _ a b (li-1) pv false wp d1 hz1 (by omega) h2 hN (by omega) (by omega) (by omega) (by simp only [go_sem]) (by simp only [go_sem]) (by simp only [go_sem]) (by simp only [go_sem]) (by simp only [go_sem]) (by simp only [go_sem]) (by simp only [go_sem]) (by simp only [go_sem]) (by simp only [go_sem]) _ _ (fun en2 a2 b2 wb2 wp2 d9 X9 he gx g1 g2 g3 g4 g5=> ?_)
     obtain ⟨f0,f1,f2,f3,f4,f10,f11⟩:=he
     refine ⟨(a2,b2,(li-1),wb2,wp2,d9,X9),by simp only [go_sem,f0,f1,f2,f3,f4,f10,f11],?_,?_,fun x en s hq=> ?_⟩
     ·dsimp only;exact ⟨g1,g2,g4,by omega,by omega⟩
     ·dsimp only;exact g3
     ·dsimp only at hq
      rw [g5]
      obtain ⟨hq1,hq2,X8,hx8,hq3⟩:=hq
      exact ⟨hq1,hq2,X8,fun h0=>hx8 (gx ((h0.snoc _ _).snoc _ _)),hq3⟩
    |increasing=>
     have hpv:run L 164 [.rsl l 0 n n 1 ag,J a,J b,.fn (.func k) [] caps] ⟨put S0 l (Dm gS d1) (X0++ [[U BB]]),T⟩=some (.tup [J pv,I 1],⟨put S0 l (Dm gS d1) ((X0++ [[U BB]])++ [[J B2]]),T⟩):=hpv
     have e:Go.Sort.pdq lt d a b li false wp=pdqT lt d1 a b pv (li-1) false wp:=by rw [z14 lt d false wp (by omega) hl0];simp [hd1,hcc]
     rw [e]
     simp only [go_sem,lp129_0,hw,q12,ql,hbr,hpl,hpv]
     refine zdc S0 T l hl n hn ag k hk caps c lt hlt hc N ih _ _ a b (li-1) pv false wp d1 hz1 (by omega) h2 hN (by omega) (by omega) (by omega) (by simp only [go_sem]) (by simp only [go_sem]) (by simp only [go_sem]) (by simp only [go_sem]) (by simp only [go_sem]) (by simp only [go_sem]) (by simp only [go_sem]) (by simp only [go_sem]) (by simp only [go_sem]) _ _ (fun en2 a2 b2 wb2 wp2 d9 X9 he gx g1 g2 g3 g4 g5=> ?_)
     obtain ⟨f0,f1,f2,f3,f4,f10,f11⟩:=he
     refine ⟨(a2,b2,(li-1),wb2,wp2,d9,X9),by simp only [go_sem,f0,f1,f2,f3,f4,f10,f11],?_,?_,fun x en s hq=> ?_⟩
     ·dsimp only;exact ⟨g1,g2,g4,by omega,by omega⟩
     ·dsimp only;exact g3
     ·dsimp only at hq
      rw [g5]
      obtain ⟨hq1,hq2,X8,hx8,hq3⟩:=hq
      exact ⟨hq1,hq2,X8,fun h0=>hx8 (gx ((h0.snoc _ _).snoc _ _)),hq3⟩
    |decreasing=>
     have hpv:run L 164 [.rsl l 0 n n 1 ag,J a,J b,.fn (.func k) [] caps] ⟨put S0 l (Dm gS d1) (X0++ [[U BB]]),T⟩=some (.tup [J pv,I 2],⟨put S0 l (Dm gS d1) ((X0++ [[U BB]])++ [[J B2]]),T⟩):=hpv
     have hrv:=revs S0 T l hl n hn ag k caps ((X0++ [[U BB]])++ [[J B2]]) d1 hz1 a b (by omega) h2
     have hz2:(Go.Sort.reverseRange d1 a b).size=n:=by rw [z4r,hz1]
     have hpa:=zgi pv a (by omega) (by omega)
     have hpb:=zgi (b-1) (pv-a) (by omega) (by omega)
     generalize hd2:Go.Sort.reverseRange d1 a b=d2 at*
     have e:Go.Sort.pdq lt d a b li false wp=pdqT lt d2 a b (b-1-(pv-a)) (li-1) false wp:=by rw [z14 lt d false wp (by omega) hl0];simp [hd1,hcc,hd2]
     rw [e]
     simp only [go_sem,lp129_0,hw,q12,ql,hbr,hpl,hpv,hrv,hb1,hpa,hpb]
     refine zdc S0 T l hl n hn ag k hk caps c lt hlt hc N ih _ _ a b (li-1) (b-1-(pv-a)) false wp d2 hz2 (by omega) h2 hN (by omega) (by omega) (by omega) (by simp only [go_sem]) (by simp only [go_sem]) (by simp only [go_sem]) (by simp only [go_sem]) (by simp only [go_sem]) (by simp only [go_sem]) (by simp only [go_sem]) (by simp only [go_sem]) (by simp only [go_sem]) _ _ (fun en2 a2 b2 wb2 wp2 d9 X9 he gx g1 g2 g3 g4 g5=> ?_)
     obtain ⟨f0,f1,f2,f3,f4,f10,f11⟩:=he
     refine ⟨(a2,b2,(li-1),wb2,wp2,d9,X9),by simp only [go_sem,f0,f1,f2,f3,f4,f10,f11],?_,?_,fun x en s hq=> ?_⟩
     ·dsimp only;exact ⟨g1,g2,g4,by omega,by omega⟩
     ·dsimp only;exact g3
     ·dsimp only at hq
      rw [g5]
      obtain ⟨hq1,hq2,X8,hx8,hq3⟩:=hq
      exact ⟨hq1,hq2,X8,fun h0=>hx8 (gx ((h0.snoc _ _).snoc _ _)),hq3⟩
   |true=>
    obtain ⟨B2,hpv⟩:=pivs S0 T l hl n hn ag k hk caps c lt hlt hc X0 d hsz a b (by omega) h2
    have hpr:=Go.Sort.choosePivot_holds lt d a b (by omega)
    generalize hcc:Go.Sort.choosePivot lt d a b=cc at*
    obtain ⟨pv,hint⟩:=cc
    dsimp only at hpr hpv
    cases hint with
    |unknown=>
     have hpv:run L 164 [.rsl l 0 n n 1 ag,J a,J b,.fn (.func k) [] caps] ⟨put S0 l (Dm gS d) X0,T⟩=some (.tup [J pv,I 0],⟨put S0 l (Dm gS d) (X0++ [[J B2]]),T⟩):=hpv
     have e:Go.Sort.pdq lt d a b li true wp=pdqT lt d a b pv li true wp:=by rw [z14 lt d true wp (by omega) hl0];simp [hcc]
     rw [e]
     cases wp with
     |false=>
      simp only [go_sem,lp129_0,hw,q12,ql,hpv]
      refine zdc S0 T l hl n hn ag k hk caps c lt hlt hc N ih _ _ a b li pv true false d hsz (by omega) h2 hN (by omega) (by omega) (by omega) (by simp only [go_sem]) (by simp only [go_sem]) (by simp only [go_sem]) (by simp only [go_sem]) (by simp only [go_sem]) (by simp only [go_sem]) (by simp only [go_sem]) (by simp only [go_sem]) (by simp only [go_sem]) _ _ (fun en2 a2 b2 wb2 wp2 d9 X9 he gx g1 g2 g3 g4 g5=> ?_)
      obtain ⟨f0,f1,f2,f3,f4,f10,f11⟩:=he
      refine ⟨(a2,b2,li,wb2,wp2,d9,X9),by simp only [go_sem,f0,f1,f2,f3,f4,f10,f11],?_,?_,fun x en s hq=> ?_⟩
      ·dsimp only;exact ⟨g1,g2,g4,by omega,by omega⟩
      ·dsimp only;exact g3
      ·dsimp only at hq
       rw [g5]
       obtain ⟨hq1,hq2,X8,hx8,hq3⟩:=hq
       exact ⟨hq1,hq2,X8,fun h0=>hx8 (gx (h0.snoc _ _)),hq3⟩
     |true=>
      simp only [go_sem,lp129_0,hw,q12,ql,hpv]
      refine zdc S0 T l hl n hn ag k hk caps c lt hlt hc N ih _ _ a b li pv true true d hsz (by omega) h2 hN (by omega) (by omega) (by omega) (by simp only [go_sem]) (by simp only [go_sem]) (by simp only [go_sem]) (by simp only [go_sem]) (by simp only [go_sem]) (by simp only [go_sem]) (by simp only [go_sem]) (by simp only [go_sem]) (by simp only [go_sem]) _ _ (fun en2 a2 b2 wb2 wp2 d9 X9 he gx g1 g2 g3 g4 g5=> ?_)
      obtain ⟨f0,f1,f2,f3,f4,f10,f11⟩:=he
      refine ⟨(a2,b2,li,wb2,wp2,d9,X9),by simp only [go_sem,f0,f1,f2,f3,f4,f10,f11],?_,?_,fun x en s hq=> ?_⟩
      ·dsimp only;exact ⟨g1,g2,g4,by omega,by omega⟩
      ·dsimp only;exact g3
      ·dsimp only at hq
       rw [g5]
       obtain ⟨hq1,hq2,X8,hx8,hq3⟩:=hq
       exact ⟨hq1,hq2,X8,fun h0=>hx8 (gx (h0.snoc _ _)),hq3⟩
    |increasing=>
     have hpv:run L 164 [.rsl l 0 n n 1 ag,J a,J b,.fn (.func k) [] caps] ⟨put S0 l (Dm gS d) X0,T⟩=some (.tup [J pv,I 1],⟨put S0 l (Dm gS d) (X0++ [[J B2]]),T⟩):=hpv
     cases wp with
     |false=>
      have e:Go.Sort.pdq lt d a b li true false=pdqT lt d a b pv li true false:=by rw [z14 lt d true false (by omega) hl0];simp [hcc]
      rw [e]
      simp only [go_sem,lp129_0,hw,q12,ql,hpv]
      refine zdc S0 T l hl n hn ag k hk caps c lt hlt hc N ih _ _ a b li pv true false d hsz (by omega) h2 hN (by omega) (by omega) (by omega) (by simp only [go_sem]) (by simp only [go_sem]) (by simp only [go_sem]) (by simp only [go_sem]) (by simp only [go_sem]) (by simp only [go_sem]) (by simp only [go_sem]) (by simp only [go_sem]) (by simp only [go_sem]) _ _ (fun en2 a2 b2 wb2 wp2 d9 X9 he gx g1 g2 g3 g4 g5=> ?_)
      obtain ⟨f0,f1,f2,f3,f4,f10,f11⟩:=he
      refine ⟨(a2,b2,li,wb2,wp2,d9,X9),by simp only [go_sem,f0,f1,f2,f3,f4,f10,f11],?_,?_,fun x en s hq=> ?_⟩
      ·dsimp only;exact ⟨g1,g2,g4,by omega,by omega⟩
      ·dsimp only;exact g3
      ·dsimp only at hq
       rw [g5]
       obtain ⟨hq1,hq2,X8,hx8,hq3⟩:=hq
       exact ⟨hq1,hq2,X8,fun h0=>hx8 (gx (h0.snoc _ _)),hq3⟩
     |true=>
      have hpi:=piss S0 T l hl n hn ag k hk caps c lt hlt hc (X0++ [[J B2]]) d hsz a b (by omega) h2
      have hz3:(Go.Sort.partialInsertionSort lt d a b).1.size=n:=by unfold Go.Sort.partialInsertionSort;rw [z3c,hsz]
      generalize hpe:Go.Sort.partialInsertionSort lt d a b=pi at*
      obtain ⟨d3,ok⟩:=pi
      dsimp only at hpi hz3
      cases ok with
      |true=>
       have e:Go.Sort.pdq lt d a b li true true=d3:=by rw [z14 lt d true true (by omega) hl0];simp [hcc,hpe]
       rw [e]
       simp only [go_sem,lp129_0,hw,q12,ql,hpv,hpi]
       exact ⟨hz3,_,fun h0=>(h0.snoc _ _),rfl⟩
      |false=>
       have e:Go.Sort.pdq lt d a b li true true=pdqT lt d3 a b pv li true true:=by rw [z14 lt d true true (by omega) hl0];simp [hcc,hpe]
       rw [e]
       simp only [go_sem,lp129_0,hw,q12,ql,hpv,hpi]
       refine zdc S0 T l hl n hn ag k hk caps c lt hlt hc N ih _ _ a b li pv true true d3 hz3 (by omega) h2 hN (by omega) (by omega) (by omega) (by simp only [go_sem]) (by simp only [go_sem]) (by simp only [go_sem]) (by simp only [go_sem]) (by simp only [go_sem]) (by simp only [go_sem]) (by simp only [go_sem]) (by simp only [go_sem]) (by simp only [go_sem]) _ _ (fun en2 a2 b2 wb2 wp2 d9 X9 he gx g1 g2 g3 g4 g5=> ?_)
       obtain ⟨f0,f1,f2,f3,f4,f10,f11⟩:=he
       refine ⟨(a2,b2,li,wb2,wp2,d9,X9),by simp only [go_sem,f0,f1,f2,f3,f4,f10,f11],?_,?_,fun x en s hq=> ?_⟩
       ·dsimp only;exact ⟨g1,g2,g4,by omega,by omega⟩
       ·dsimp only;exact g3
       ·dsimp only at hq
        rw [g5]
        obtain ⟨hq1,hq2,X8,hx8,hq3⟩:=hq
        exact ⟨hq1,hq2,X8,fun h0=>hx8 (gx (h0.snoc _ _)),hq3⟩
    |decreasing=>
     have hpv:run L 164 [.rsl l 0 n n 1 ag,J a,J b,.fn (.func k) [] caps] ⟨put S0 l (Dm gS d) X0,T⟩=some (.tup [J pv,I 2],⟨put S0 l (Dm gS d) (X0++ [[J B2]]),T⟩):=hpv
     have hrv:=revs S0 T l hl n hn ag k caps (X0++ [[J B2]]) d hsz a b (by omega) h2
     have hz2:(Go.Sort.reverseRange d a b).size=n:=by rw [z4r,hsz]
     have hpa:=zgi pv a (by omega) (by omega)
     have hpb:=zgi (b-1) (pv-a) (by omega) (by omega)
     generalize hd2:Go.Sort.reverseRange d a b=d2 at*
     cases wp with
     |false=>
      have e:Go.Sort.pdq lt d a b li true false=pdqT lt d2 a b (b-1-(pv-a)) li true false:=by rw [z14 lt d true false (by omega) hl0];simp [hcc,hd2]
      rw [e]
      simp only [go_sem,lp129_0,hw,q12,ql,hpv,hrv,hb1,hpa,hpb]
      refine zdc S0 T l hl n hn ag k hk caps c lt hlt hc N ih _ _ a b li (b-1-(pv-a)) true false d2 hz2 (by omega) h2 hN (by omega) (by omega) (by omega) (by simp only [go_sem]) (by simp only [go_sem]) (by simp only [go_sem]) (by simp only [go_sem]) (by simp only [go_sem]) (by simp only [go_sem]) (by simp only [go_sem]) (by simp only [go_sem]) (by simp only [go_sem]) _ _ (fun en2 a2 b2 wb2 wp2 d9 X9 he gx g1 g2 g3 g4 g5=> ?_)
      obtain ⟨f0,f1,f2,f3,f4,f10,f11⟩:=he
      refine ⟨(a2,b2,li,wb2,wp2,d9,X9),by simp only [go_sem,f0,f1,f2,f3,f4,f10,f11],?_,?_,fun x en s hq=> ?_⟩
      ·dsimp only;exact ⟨g1,g2,g4,by omega,by omega⟩
      ·dsimp only;exact g3
      ·dsimp only at hq
       rw [g5]
       obtain ⟨hq1,hq2,X8,hx8,hq3⟩:=hq
       exact ⟨hq1,hq2,X8,fun h0=>hx8 (gx (h0.snoc _ _)),hq3⟩
     |true=>
      have hpi:=piss S0 T l hl n hn ag k hk caps c lt hlt hc (X0++ [[J B2]]) d2 hz2 a b (by omega) h2
      have hz3:(Go.Sort.partialInsertionSort lt d2 a b).1.size=n:=by unfold Go.Sort.partialInsertionSort;rw [z3c,hz2]
      generalize hpe:Go.Sort.partialInsertionSort lt d2 a b=pi at*
      obtain ⟨d3,ok⟩:=pi
      dsimp only at hpi hz3
      cases ok with
      |true=>
       have e:Go.Sort.pdq lt d a b li true true=d3:=by rw [z14 lt d true true (by omega) hl0];simp [hcc,hd2,hpe]
       rw [e]
       simp only [go_sem,lp129_0,hw,q12,ql,hpv,hrv,hb1,hpa,hpb,hpi]
       exact ⟨hz3,_,fun h0=>(h0.snoc _ _),rfl⟩
      |false=>
       have e:Go.Sort.pdq lt d a b li true true=pdqT lt d3 a b (b-1-(pv-a)) li true true:=by rw [z14 lt d true true (by omega) hl0];simp [hcc,hd2,hpe]
       rw [e]
       simp only [go_sem,lp129_0,hw,q12,ql,hpv,hrv,hb1,hpa,hpb,hpi]
       refine zdc S0 T l hl n hn ag k hk caps c lt hlt hc N ih _ _ a b li (b-1-(pv-a)) true true d3 hz3 (by omega) h2 hN (by omega) (by omega) (by omega) (by simp only [go_sem]) (by simp only [go_sem]) (by simp only [go_sem]) (by simp only [go_sem]) (by simp only [go_sem]) (by simp only [go_sem]) (by simp only [go_sem]) (by simp only [go_sem]) (by simp only [go_sem]) _ _ (fun en2 a2 b2 wb2 wp2 d9 X9 he gx g1 g2 g3 g4 g5=> ?_)
       obtain ⟨f0,f1,f2,f3,f4,f10,f11⟩:=he
       refine ⟨(a2,b2,li,wb2,wp2,d9,X9),by simp only [go_sem,f0,f1,f2,f3,f4,f10,f11],?_,?_,fun x en s hq=> ?_⟩
       ·dsimp only;exact ⟨g1,g2,g4,by omega,by omega⟩
       ·dsimp only;exact g3
       ·dsimp only at hq
        rw [g5]
        obtain ⟨hq1,hq2,X8,hx8,hq3⟩:=hq
        exact ⟨hq1,hq2,X8,fun h0=>hx8 (gx (h0.snoc _ _)),hq3⟩
end
theorem pdqs (S0:List (List AV))(T:List Nat)(l:Nat)(hl:l<S0.length)(n:Nat)(hn:n≤1000)(ag:Bool)(k:Nat)(hk:pure k=true)(caps:List AV)(c:Fin 256→Fin 256→Int)(lt:Fin 256→Fin 256→Bool)(hlt: ∀x y,lt x y=decide (c x y<0))(hc: ∀x y X E,run L k (fS x::fS y::caps) ⟨put S0 l X E,T⟩=some (I (c x y),⟨put S0 l X E,T⟩))(hn2:n<256): ∀(N a b li:Nat) (d:Array (Fin 256)) (X0:List (List AV)),a≤b→b≤n→d.size=n→li<1000→b-a<N→(Go.Sort.pdq lt d a b li true true).size=n∧∃X1,(PL X0→PL X1)∧run L 129 [.rsl l 0 n n 1 ag,J a,J b,J li,.fn (.func k) [] caps] ⟨put S0 l (Dm gS d) X0,T⟩=some (.tup [],⟨put S0 l (Dm gS (Go.Sort.pdq lt d a b li true true)) X1,T⟩)
 |0,_,_,_,_,_,_,_,_,_,h=>by omega
 |N+1,a,b,li,d,X0,h1,h2,hsz,hli,hN=>by
  have ih:=pdqs S0 T l hl n hn ag k hk caps c lt hlt hc hn2 N
  rw [zc (fn:=ir129) rfl rfl]
  simp only [ir129,go_sem]
  generalize hg:lim (headed pure (run L) false _ lp129_0 _ _) _ _=o
  obtain ⟨x,en,s,rfl,h2⟩: ∃x en s,o=some (x,en,s)∧_:=by rw [←hg];exact pdq0s S0 T l hl n hn ag k hk caps c lt hlt hc hn2 N ih _ _ a b li true true d X0 ⟨h1,h2,hsz,hli,by omega⟩ _ _ (by simp only [go_sem]<;>rfl)
  clear hg
  obtain ⟨rfl,hz,X1,hX1,rfl⟩:=h2
  refine ⟨hz,X1,hX1,?_⟩
  simp only [go_sem]
section
variable (S0:List (List AV)) (T:List Nat) (l:Nat) (hl:l<S0.length) (n:Nat) (hn:n≤1000) (ag:Bool) (k:Nat) (hk:pure k=true) (caps:List AV) (c:Fin 256→Fin 256→Int) (lt:Fin 256→Fin 256→Bool) (hlt: ∀x y,lt x y=decide (c x y<0)) (hc: ∀x y X E,run L k (fS x::fS y::caps) ⟨put S0 l X E,T⟩=some (I (c x y),⟨put S0 l X E,T⟩))
include S0 T l hl n hn ag k hk caps c lt hlt hc
theorem sorts (hn2:n<256)(d:Array (Fin 256))(hsz:d.size=n)(X0:List (List AV)):
  ∃X1,(PL X0→PL X1)∧run L 80 [.rsl l 0 n n 1 ag,.fn (.func k) [] caps] ⟨put S0 l (Dm gS d) X0,T⟩=some (.tup [],⟨put S0 l (Dm gS (Go.Sort.sort lt d)) X1,T⟩):=by
 rw [zc (fn:=ir80) rfl rfl]
 have hcv:=zfs n (by omega)
 have h115:=fun st=>c115 n hn2 st
 have hbl:Go.Sort.bitsLen n<1000:=by
  have:=(Go.Sort.bitsLen_le_iff n 8).2 (by omega)
  omega
 obtain ⟨hz,X1,hX1,h⟩:=pdqs S0 T l hl n hn ag k hk caps c lt hlt hc hn2 (n+1) 0 n (Go.Sort.bitsLen n) d X0 (by omega) (by omega) hsz hbl (by omega)
 refine ⟨X1,hX1,?_⟩
 have e:Go.Sort.sort lt d=Go.Sort.pdq lt d 0 n (Go.Sort.bitsLen n) true true:=by unfold Go.Sort.sort;rw [hsz]
 rw [e]
 have h:run L 129 [.rsl l 0 n n 1 ag,I 0,J n,J (Go.Sort.bitsLen n),.fn (.func k) [] caps] ⟨put S0 l (Dm gS d) X0,T⟩=_:=h
 simp only [ir80,go_sem,hcv,h115,h]
end
attribute [local go_sem] m_ x_ l_ k_ o_ t_ a_ s_ q_ b_ c_ u_ g_ ze zi zj z6 zh
theorem zds {a b:Nat} (ha:a<512)(hb:b<512)(h:memb a=memb b):a=b:=by
 apply Nat.eq_of_testBit_eq;intro i
 have h1:=z1p ha (i:Int)
 have h2:=z1p hb (i:Int)
 rw [h] at h1
 have h3:(∃j:Nat,(i:Int)=j∧a.testBit j=true)↔(∃j:Nat,(i:Int)=j∧b.testBit j=true):=h1.symm.trans h2
 cases ha':a.testBit i
 ·cases hb':b.testBit i
  ·rfl
  ·obtain ⟨j,hj,hj2⟩:=h3.2 ⟨i,rfl,hb'⟩
   have:i=j:=by omega
   subst this
   rw [ha'] at hj2;cases hj2
 ·obtain ⟨j,hj,hj2⟩:=h3.1 ⟨i,rfl,ha'⟩
  have:i=j:=by omega
  subst this
  exact hj2.symm
theorem zj5 {α:Type} (f:α→List Int):Go.Sort.SWO (fun x y=>lexLt (f x) (f y)) where
 irrefl x:=z9v _
 trans x y z:=z92 _ _ _
 ntrans x y z h1 h2:=zke h2 h1
def sortA {α:Type} [Inhabited α] (lt:α→α→Bool) (l:List α):List α:=(Go.Sort.sort lt l.toArray).toList
theorem zhx {α:Type} [Inhabited α] {lt:α→α→Bool} (h:Go.Sort.SWO lt)(l:List α):(sortA lt l).Perm l:=by
 have h1:=(Go.Sort.sort_sorts lt h l.toArray).1
 have h2:=h1.2.2
 have hs:(Go.Sort.sort lt l.toArray).size=l.toArray.size:=h1.1
 rw [Go.Sort.extract_toList _ _ _ (by rw [hs];exact Nat.le_refl _),Go.Sort.extract_toList _ _ _ (Nat.le_refl _)] at h2
 have key: ∀(d:Array α),(List.range' 0 (d.size-0)).map (fun i=>d[i]!)=d.toList:=by
  intro d
  apply List.ext_getElem
  ·simp
  ·intro i h1 h2
   simp at h1 h2⊢
   exact getElem!_pos d i h2
 have e1:=key (Go.Sort.sort lt l.toArray)
 rw [hs] at e1
 rw [e1,key] at h2
 exact h2
theorem zeh {α:Type} [Inhabited α] {lt:α→α→Bool} (h:Go.Sort.SWO lt)(l:List α):(sortA lt l).Pairwise (fun x y=>lt y x=false):=by
 have h1:=Go.Sort.sort_sorts lt h l.toArray
 have hs:(Go.Sort.sort lt l.toArray).size=l.toArray.size:=h1.1.1
 rw [List.pairwise_iff_getElem]
 intro i j hi hj hij
 unfold sortA at hi hj⊢
 simp only [Array.length_toList] at hi hj
 have:=h1.2 i j (Nat.zero_le _) hij (by rw [←hs];exact hj)
 rw [getElem!_pos _ i hi,getElem!_pos _ j hj] at this
 simpa using this
theorem zb8 {α:Type} {R:α→α→Prop} (hR: ∀x y,R x y→R y x→x=y): ∀(l m:List α),l.Perm m→l.Pairwise R→m.Pairwise R→l=m
 | [],m,h,_,_=>(List.Perm.nil_eq h)
 |x::l,m,h,h1,h2=>by
  cases m with
  |nil=>exact absurd h.length_eq (by simp)
  |cons y m=>
   have hx:x∈y::m:=h.mem_iff.1 (by simp)
   have hy:y∈x::l:=h.mem_iff.2 (by simp)
   rw [List.pairwise_cons] at h1 h2
   have e:x=y:=by
    rw [List.mem_cons] at hx hy
    rcases hx with e|hx
    ·exact e
    ·rcases hy with e|hy
     ·exact e.symm
     ·exact hR _ _ (h1.1 y hy) (h2.1 x hx)
   subst e
   rw [zb8 hR l m (List.Perm.cons_inv h) h1.2 h2.2]
def lt8 (x y:Fin 256):Bool:=lexLt (memb x.val) (memb y.val)
def fin8 (ss:List Nat):List (Fin 256):=ss.map fun x=>⟨x % 256,Nat.mod_lt _ (by decide)⟩
theorem zhg {ss:List Nat} (h: ∀s∈ss,s<256):(fin8 ss).map (fun x=>x.val)=ss:=by
 unfold fin8
 rw [List.map_map]
 conv=>rhs;rw [←List.map_id ss]
 apply List.map_congr_left
 intro x hx
 exact Nat.mod_eq_of_lt (h x hx)
def srt (ss:List Nat):List Nat:=(sortA lt8 (fin8 ss)).map (fun x=>x.val)
theorem zj8 (ss:List Nat): ∀s∈srt ss,s<256:=by
 intro s hs
 unfold srt at hs
 rw [List.mem_map] at hs
 obtain ⟨x,_,rfl⟩:=hs
 exact x.isLt
theorem z8e {ss:List Nat} (h: ∀s∈ss,s<256):(srt ss).Perm ss:=by
 have:=(zhx (zj5 (fun x:Fin 256=>memb x.val)) (fin8 ss)).map (fun x=>x.val)
 rw [zhg h] at this
 exact this
def LexLe (a b:Nat):Prop:=lexLt (memb b) (memb a)=false
theorem LexLe.anti {a b:Nat} (ha:a<512)(hb:b<512)(h1:LexLe a b)(h2:LexLe b a):a=b:=zds ha hb (z93 _ _ h2 h1)
theorem zhw (ss:List Nat):(srt ss).Pairwise LexLe:=by
 unfold srt
 rw [List.pairwise_map]
 exact zeh (zj5 (fun x:Fin 256=>memb x.val)) (fin8 ss)
theorem z9m {ss:List Nat} (h: ∀s∈ss,s<256):(srt ss).length=ss.length:=(z8e h).length_eq
theorem zgj {ss ts:List Nat} (h: ∀s∈ss,s<256)(hp:ts.Perm ss)(hs:ts.Pairwise LexLe):ts=srt ss:=by
 have h2: ∀s∈ts,s<256:=fun s hs=>h s (hp.mem_iff.1 hs)
 have key: ∀(l m:List Nat),(∀s∈l,s<256)→(∀s∈m,s<256)→l.Perm m→l.Pairwise LexLe→m.Pairwise LexLe→l=m:=by
  intro l m hl hm hpm h1 h2
  refine zb8 (R:=fun a b=>a<256∧b<256∧LexLe a b) (fun x y hx hy=>hx.2.2.anti (by omega) (by omega) hy.2.2) l m hpm ?_ ?_
  ·exact h1.imp_of_mem (fun ha hb hab=>⟨hl _ ha,hl _ hb,hab⟩)
  ·exact h2.imp_of_mem (fun ha hb hab=>⟨hm _ ha,hm _ hb,hab⟩)
 exact key _ _ h2 (zj8 ss) (hp.trans (z8e h).symm) hs (zhw ss)
theorem c81 (a b:Nat)(ha:a<256)(hb:b<256)(st:St):run L 81 [E8 a,E8 b] st=some (I (cmpN (memb a) (memb b)),st):=by
 rw [run_pure (fn:=ir81) rfl rfl]
 have h1:=fun st=>c94 a ha st
 have h2:=fun st=>c94 b hb st
 have hm:=z03 a
 have h3: ∀st,run L 42 [tAV (memb a),tAV (memb b)] st=some (I (cmpN (memb a) (memb b)),st):=fun st=>c42 true true (memb a) (memb b) (by omega) st
 simp only [ir81,go_sem,h1,h2,h3]
attribute [local go_sem] m_ x_ l_ k_ o_ t_ a_ s_ q_ b_ c_ u_ g_ zl za zg zm z0g z0f ze zi zj z6 zh z0h
theorem zpn {X:List (List AV)} (h:PL X)(n:Nat):okStore n X=true:=by
 induction X with
 |nil=>rfl
 |cons B r ih=>
  obtain ⟨k,i,rfl⟩:=h B (by simp)
  simp only [okStore,ih (fun C hC=>h C (by simp [hC])),okRefs,okRef,Bool.and_self]
theorem zlf {X:List (List AV)} (h:PL X)(n:Nat)(T:List Nat)(acc:List (Nat×Nat)):renStore n T acc X=(X,acc):=by
 induction X generalizing acc with
 |nil=>rfl
 |cons B r ih=>
  obtain ⟨k,i,rfl⟩:=h B (by simp)
  simp only [renStore,renCells,ren1,ih (fun C hC=>h C (by simp [hC]))]
theorem zl9 {α:Type} (X:List α)(c:α):(X++ [c])[X.length]? =some c:=by simp
theorem zgo {α:Type} (X:List α)(c d:α):(X++ [c]).set X.length d=X++ [d]:=by simp
theorem zj4 {α:Type} (X:List α)(c:α):(X++ [c]).take X.length=X:=by simp
abbrev cmpS:AV:=.fn (.func 81) [] []
theorem zpo {ss:List Nat} (h: ∀s∈ss,s<256):Dm gS (fin8 ss).toArray=ss.map u8:=by
 unfold Dm
 show (fin8 ss).map (fun x=>u8 x.val)=ss.map u8
 rw [show (fun x:Fin 256=>u8 x.val)=u8∘(fun x:Fin 256=>x.val) from rfl,←List.map_map,zhg h]
theorem Dm_srt (ss:List Nat):Dm gS (Go.Sort.sort lt8 (fin8 ss).toArray)=(srt ss).map u8:=by
 unfold Dm srt sortA
 rw [List.map_map];rfl
theorem c80 (S0:List (List AV))(T:List Nat)(l:Nat)(hl:l<S0.length)(ag:Bool)(ss:List Nat)(h: ∀s∈ss,s<256)(hn:ss.length<256):
  ∃X1,PL X1∧run L 80 [.rsl l 0 ss.length ss.length 1 ag,cmpS] ⟨S0.set l (ss.map u8),T⟩=some (.tup [],⟨S0.set l ((srt ss).map u8)++X1,T⟩):=by
 obtain ⟨X1,h1,h2⟩:=sorts S0 T l hl ss.length (by omega) ag 81 rfl [] (fun x y=>cmpN (memb x.val) (memb y.val)) lt8 (fun x y=>(zgb _ _).symm)
  (fun x y X E=>c81 x.val y.val x.isLt y.isLt _) hn (fin8 ss).toArray (by simp [fin8]) []
 rw [zpo h,Dm_srt] at h2
 unfold put at h2
 rw [List.append_nil] at h2
 exact ⟨X1,h1 PL.nil,h2⟩
theorem ins1n (st0:St)(lo hi:Nat)(i:Nat)(hok:True)(env:Env)(st:St)
  (hg:gcAV false lo hi (canon env [0,1,2,3,8]) st=([(0,.v (.slice none 0 0)),(1,I 0),(2,I 0),(3,cmpS),(8,J i)],st0)):
  ∃x_1 en s,lim (headed pure (run L) false [0,1,2,3,8] lp161_1 lo hi) env st=some (x_1,en,s)∧(x_1=.exit 0∧s=st0):=by
 refine z7 (α:=Nat) (fun i=>0) (fun i=>True) (fun i=>([(0,.v (.slice none 0 0)),(1,I 0),(2,I 0),(3,cmpS),(8,J i)],st0)) (fun i x_1 en s=>x_1=.exit 0∧s=st0) (fun i hok=> ?_) i hok env st hg
 have hlt:((i:Int)<0)=False:=eF (by omega)
 simp only [go_sem,lp161_1,hlt]
theorem c161n (st:St):run L 161 [.v (.slice none 0 0),I 0,I 0,cmpS] st=some (.tup [],st):=by
 rw [zc (fn:=ir161) rfl rfl]
 have h1:IntKind.i64.wrap 1=1:=by decide
 simp only [ir161,go_sem,h1]
 generalize hg:lim (headed pure (run L) false _ lp161_1 _ _) _ _=o
 obtain ⟨x,en,s,rfl,h2⟩: ∃x en s,o=some (x,en,s)∧_:=by rw [←hg];exact ins1n st _ _ 1 trivial _ _ (by simp only [go_sem,show I 1=J 1 from rfl]<;>rfl)
 clear hg
 obtain ⟨rfl,rfl⟩:=h2
 simp only [go_sem]
theorem pdqn (st0:St)(lo hi:Nat)(i:Nat)(hok:True)(env:Env)(st:St)
  (hg:gcAV false lo hi (canon env [0,1,2,3,4,10,11]) st=([(0,.v (.slice none 0 0)),(1,I 0),(2,I 0),(3,J i),(4,cmpS),(10,B true),(11,B true)],st0)):
  ∃x_1 en s,lim (headed pure (run L) false [0,1,2,3,4,10,11] lp129_0 lo hi) env st=some (x_1,en,s)∧(x_1=.ret∧s=st0):=by
 refine z7 (α:=Nat) (fun i=>0) (fun i=>True) (fun i=>([(0,.v (.slice none 0 0)),(1,I 0),(2,I 0),(3,J i),(4,cmpS),(10,B true),(11,B true)],st0)) (fun i x_1 en s=>x_1=.ret∧s=st0) (fun i hok=> ?_) i hok env st hg
 have h1:IntKind.i64.wrap 0=0:=by decide
 have h2:((0:Int)≤12)=True:=eT (by omega)
 simp only [go_sem,lp129_0,h1,h2,c161n]
theorem c80n (st:St):run L 80 [.v (.slice none 0 0),cmpS] st=some (.tup [],st):=by
 have h129: ∀i:Nat,run L 129 [.v (.slice none 0 0),I 0,I 0,J i,cmpS] st=some (.tup [],st):=by
  intro i
  rw [zc (fn:=ir129) rfl rfl]
  simp only [ir129,go_sem]
  generalize hg:lim (headed pure (run L) false _ lp129_0 _ _) _ _=o
  obtain ⟨x,en,s,rfl,h2⟩: ∃x en s,o=some (x,en,s)∧_:=by rw [←hg];exact pdqn st _ _ i trivial _ _ (by simp only [go_sem]<;>rfl)
  clear hg
  obtain ⟨rfl,rfl⟩:=h2
  simp only [go_sem]
 rw [zc (fn:=ir80) rfl rfl]
 have h115: ∀st,run L 115 [.v (.int .u64 0)] st=some (J (Go.Sort.bitsLen 0),st):=fun st=>c115 0 (by omega) st
 have hcv:IntKind.u64.wrap 0=0:=by decide
 simp only [ir80,go_sem,hcv,h115,h129]
theorem zfx:srt []=[]:=List.Perm.eq_nil (z8e (by simp))
theorem c79 (n:Nat)(h2:2≤n)(hn:n≤8)(nl:Bool)(X:List Nat)(hX: ∀v∈X,v<2^n∧v≠0∧v≠2^n-1)(hnd:(X.map (smlN n)).Nodup)(hl:X.length≤13):
  (clP (X.map (smlN n)) 0=none→∃X1,PL X1∧run L 79 [J n,sl 1 nl (X.map tM)] ⟨[],[]⟩=some (.tup [kA (srt (X.map (smlN n))),I 0],⟨kS (srt (X.map (smlN n)))++X1,[]⟩))∧
  (clP (X.map (smlN n)) 0≠none→run L 79 [J n,sl 1 nl (X.map tM)] ⟨[],[]⟩=some (.tup [.v (.slice none 0 0),I 12],⟨kS (X.map (smlN n)),[]⟩)):=by
 rw [zc (fn:=ir79) rfl rfl]
 have h2n:2^n≤256:=Nat.pow_le_pow_right (n:=2) (by decide) hn
 have h70:=c70 n h2 hn nl X hX hnd (by omega)
 have hss: ∀x∈X.map (smlN n),x<256:=by
  intro x hx
  rw [List.mem_map] at hx
  obtain ⟨v,hv,rfl⟩:=hx
  exact Nat.lt_of_lt_of_le (z32 (hX v hv).1) h2n
 have hk:(X.map (smlN n)).length≤13:=by rw [lm_];exact hl
 generalize X.map (smlN n)=ss at*
 have h71:=fun st=>c71 true ss hss hk st
 have hpl:=zjs (clP ss 0)
 by_cases he:ss=[]
 ·subst he
  rw [show kA []=.v (.slice none 0 0) from rfl,show kS []=[] from rfl] at h70
  rw [show sl 1 true (([]:List Nat).map E8)=AV.v (.slice none 0 0) from rfl,show clA (clP [] 0)=.tup [I 0,I 0,B false] from rfl] at h71
  rw [show clA (clP [] 0)=.tup [I 0,I 0,B false] from rfl] at hpl
  refine ⟨fun _=>⟨[],PL.nil,?_⟩,fun h=>absurd rfl h⟩
  rw [zfx]
  simp only [ir79,go_sem,h70,show pure 70=false from rfl,show pure 71=true from rfl,shStore,shV,shVs,znh,h71,hpl,c80n]
  rfl
 ·rw [zik he,zf5 he] at h70
  have hsv:=za1 0 ss
  obtain ⟨S2,hfr⟩:=zpb he []
  refine ⟨fun hc=> ?_,fun hc=> ?_⟩
  ·rw [hc,show clA none=.tup [I 0,I 0,B false] from rfl] at h71 hpl
   obtain ⟨X1,hX1,h80⟩:=c80 [ss.map u8] [] 0 (by simp) true ss hss (by omega)
   refine ⟨X1,hX1,?_⟩
   have h80:run L 80 [.rsl 0 0 ss.length ss.length 1 true,cmpS] ⟨[ss.map u8],[]⟩=some (.tup [],⟨[(srt ss).map u8]++X1,[]⟩):=h80
   have hse:srt ss≠[]:=fun e=>he (List.eq_nil_of_length_eq_zero (by rw [←z9m hss,e];rfl))
   rw [zik hse,zf5 hse,z9m hss]
   simp only [ir79,go_sem,h70,show pure 70=false from rfl,show pure 71=true from rfl,shStore,shV,shVs,hsv,hfr,h71,hpl,h80]
  ·obtain ⟨p,hp⟩:=Option.ne_none_iff_exists'.1 hc
   obtain ⟨a,b⟩:=p
   rw [hp,show clA (some (a,b))=.tup [J a,J b,B true] from rfl] at h71 hpl
   rw [zf5 he]
   simp only [ir79,go_sem,h70,show pure 70=false from rfl,show pure 71=true from rfl,shStore,shV,shVs,hsv,hfr,h71,hpl]
abbrev fK {m:Nat} (x:Fin m):AV:=J x.val
attribute [local go_sem] m_ x_ l_ k_ o_ t_ a_ s_ q_ b_ c_ u_ g_ ze zi zj z6 zh
theorem ins0k (m:Nat) [NeZero m] (S0:List (List AV))(T:List Nat)(l:Nat)(hl:l<S0.length)(n:Nat)(hn:n≤1000)(ag:Bool)(k:Nat)(hk:pure k=false)(caps:List AV)(c:Fin m→Fin m→Int)(lt:Fin m→Fin m→Bool)(hlt: ∀x y,lt x y=decide (c x y<0))(hc: ∀x y X E,run L k (fK x::fK y::caps) ⟨put S0 l X E,T⟩=some (I (c x y),⟨put S0 l X E,T⟩))(X0:List (List AV))(a b i:Nat)(hi:i<n)(lo hi2:Nat)(j:Nat)(d:Array (Fin m))(hok:j≤i∧d.size=n)(env:Env)(st:St)
  (hg:gcAV false lo hi2 (canon env [0,1,2,3,8,9]) st=([(0,.rsl l 0 n n 1 ag),(1,J a),(2,J b),(3,.fn (.func k) [] caps),(8,J i),(9,J j)],⟨put S0 l (Dm fK d) X0,T⟩)):
  ∃x_1 en s,lim (headed pure (run L) false [0,1,2,3,8,9] lp171_0 lo hi2) env st=some (x_1,en,s)∧(x_1=.exit 2∧en.get 0=.rsl l 0 n n 1 ag∧en.get 1=J a∧en.get 2=J b∧en.get 3=.fn (.func k) [] caps∧en.get 8=J i∧s=⟨put S0 l (Dm fK (Go.Sort.insInner lt a j d)) X0,T⟩):=by
 refine z7 (α:=Nat×Array (Fin m)) (fun ⟨j,d⟩=>j) (fun ⟨j,d⟩=>j≤i∧d.size=n) (fun ⟨j,d⟩=>([(0,.rsl l 0 n n 1 ag),(1,J a),(2,J b),(3,.fn (.func k) [] caps),(8,J i),(9,J j)],⟨put S0 l (Dm fK d) X0,T⟩)) (fun ⟨j,d⟩ x_1 en s=>x_1=.exit 2∧en.get 0=.rsl l 0 n n 1 ag∧en.get 1=J a∧en.get 2=J b∧en.get 3=.fn (.func k) [] caps∧en.get 8=J i∧s=⟨put S0 l (Dm fK (Go.Sort.insInner lt a j d)) X0,T⟩) (fun ⟨j,d⟩ hok=> ?_) ⟨j,d⟩ hok env st hg
 simp only at hok
 obtain ⟨h1,hsz⟩:=hok
 dsimp only at h1 hsz⊢
 have hget:=fun C E=>zt hl C E
 have hpset:=fun C C' E=>zr hl C C' E
 have hlenD:(Dm fK d).length=n:=by rw [z09,hsz]
 by_cases h:a<j
 ·obtain ⟨m0,rfl⟩: ∃m0,j=m0+1:=⟨j-1,by omega⟩
  have e:Go.Sort.insInner lt a (m0+1) d=if (decide (m0+1>a)&&lt d[m0+1]! d[m0]!)=true then Go.Sort.insInner lt a m0 (Go.Sort.swp d (m0+1) m0) else d:=rfl
  rw [e]
  have hgt:((a:Int)<((m0+1:Nat):Int))=True:=eT (by omega)
  have hw:IntKind.i64.wrap (((m0+1:Nat):Int)-1)=((m0:Nat):Int):=by rw [z06]<;>omega
  have r10:(((m0+1:Nat):Int)<(n:Int))=True:=eT (by omega)
  have r11:((m0+1:Nat)<n)=True:=eT (by omega)
  have r12:((m0+1:Nat)+1≤n)=True:=eT (by omega)
  have r13:(Dm fK d)[m0+1]? =some (fK d[m0+1]!):=zlg fK d (by omega)
  have r20:(((m0:Nat):Int)<(n:Int))=True:=eT (by omega)
  have r21:((m0:Nat)<n)=True:=eT (by omega)
  have r22:((m0:Nat)+1≤n)=True:=eT (by omega)
  have r23:(Dm fK d)[m0]? =some (fK d[m0]!):=zlg fK d (by omega)
  have hd:decide (m0+1>a)=true:=decide_eq_true (by omega)
  have hsw:=z1x fK d (m0+1) m0
  rw [hd,Bool.true_and]
  cases hcc:lt d[m0+1]! d[m0]! with
  |true=>
   have hk0:(c d[m0+1]! d[m0]! <0)=True:=by rw [hlt] at hcc;simpa using hcc
   rw [if_pos rfl]
   generalize d[m0+1]! =x at*
   generalize d[m0]! =y at*
   simp only [go_sem,lp171_0,hgt,hw,r10,r11,r12,r13,r20,r21,r22,r23,hc,hk,hk0,hget,hpset,hlenD,nn_,lm_,List.length_set]
   refine ⟨(m0,Go.Sort.swp d (m0+1) m0),by simp only [go_sem,z3,z4,z5,hsw]<;>rfl,?_,?_,fun x en s hq=> ?_⟩
   ·dsimp only;exact ⟨by omega,zq hsz⟩
   ·dsimp only;omega
   ·exact hq
  |false=>
   have hk0:(c d[m0+1]! d[m0]! <0)=False:=by rw [hlt] at hcc;simpa using hcc
   rw [if_neg (by simp)]
   generalize d[m0+1]! =x at*
   generalize d[m0]! =y at*
   simp only [go_sem,lp171_0,hgt,hw,r10,r11,r12,r13,r20,r21,r22,r23,hc,hk,hk0,hget,hpset,hlenD,nn_,lm_,List.length_set]
 ·have hgt:((a:Int)<(j:Int))=False:=eF (by omega)
  have e:Go.Sort.insInner lt a j d=d:=by
   cases j with
   |zero=>rfl
   |succ m0=>unfold Go.Sort.insInner;rw [if_neg (by simp;omega)]
  rw [e]
  simp only [go_sem,lp171_0,hgt]
theorem ins1k (m:Nat) [NeZero m] (S0:List (List AV))(T:List Nat)(l:Nat)(hl:l<S0.length)(n:Nat)(hn:n≤1000)(ag:Bool)(k:Nat)(hk:pure k=false)(caps:List AV)(c:Fin m→Fin m→Int)(lt:Fin m→Fin m→Bool)(hlt: ∀x y,lt x y=decide (c x y<0))(hc: ∀x y X E,run L k (fK x::fK y::caps) ⟨put S0 l X E,T⟩=some (I (c x y),⟨put S0 l X E,T⟩))(X0:List (List AV))(a b:Nat)(hb:b≤n)(lo hi2:Nat)(i:Nat)(d:Array (Fin m))(hok:i≤n+1∧d.size=n)(env:Env)(st:St)
  (hg:gcAV false lo hi2 (canon env [0,1,2,3,8]) st=([(0,.rsl l 0 n n 1 ag),(1,J a),(2,J b),(3,.fn (.func k) [] caps),(8,J i)],⟨put S0 l (Dm fK d) X0,T⟩)):
  ∃x_1 en s,lim (headed pure (run L) false [0,1,2,3,8] lp171_1 lo hi2) env st=some (x_1,en,s)∧(x_1=.exit 0∧s=⟨put S0 l (Dm fK (Go.Sort.insOuter lt a b i d)) X0,T⟩):=by
 refine z7 (α:=Nat×Array (Fin m)) (fun ⟨i,d⟩=>b-i) (fun ⟨i,d⟩=>i≤n+1∧d.size=n) (fun ⟨i,d⟩=>([(0,.rsl l 0 n n 1 ag),(1,J a),(2,J b),(3,.fn (.func k) [] caps),(8,J i)],⟨put S0 l (Dm fK d) X0,T⟩)) (fun ⟨i,d⟩ x_1 en s=>x_1=.exit 0∧s=⟨put S0 l (Dm fK (Go.Sort.insOuter lt a b i d)) X0,T⟩) (fun ⟨i,d⟩ hok=> ?_) ⟨i,d⟩ hok env st hg
 simp only at hok
 obtain ⟨h1,hsz⟩:=hok
 dsimp only at h1 hsz⊢
 by_cases h:i<b
 ·have e:Go.Sort.insOuter lt a b i d=Go.Sort.insOuter lt a b (i+1) (Go.Sort.insInner lt a i d):=by
   rw [Go.Sort.insOuter,if_pos h]
  rw [e]
  have hlt2:((i:Int)<(b:Int))=True:=eT (by omega)
  have hs:=zd i (by omega)
  have hz:(Go.Sort.insInner lt a i d).size=n:=by rw [z2w,hsz]
  simp only [go_sem,lp171_1,hlt2]
  generalize hg:lim (headed pure (run L) false _ lp171_0 _ _) _ _=o
  obtain ⟨x,en,s,rfl,h2⟩: ∃x en s,o=some (x,en,s)∧_:=by rw [←hg];exact ins0k m S0 T l hl n hn ag k hk caps c lt hlt hc X0 a b i (by omega) _ _ i d ⟨Nat.le_refl _,hsz⟩ _ _ (by simp only [go_sem]<;>rfl)
  clear hg
  obtain ⟨rfl,e0,e1,e2,e3,e8,rfl⟩:=h2
  simp only [go_sem,lp171_1,e0,e1,e2,e3,e8,hs]
  refine ⟨(i+1,Go.Sort.insInner lt a i d),by simp only [go_sem,z3,z4,z5,e0,e1,e2,e3,e8]<;>rfl,?_,?_,fun x en s hq=> ?_⟩
  ·dsimp only;exact ⟨by omega,hz⟩
  ·dsimp only;omega
  ·exact hq
 ·have e:Go.Sort.insOuter lt a b i d=d:=by rw [Go.Sort.insOuter,if_neg h]
  rw [e]
  have hlt2:((i:Int)<(b:Int))=False:=eF (by omega)
  simp only [go_sem,lp171_1,hlt2]
theorem insk (m:Nat) [NeZero m] (S0:List (List AV))(T:List Nat)(l:Nat)(hl:l<S0.length)(n:Nat)(hn:n≤1000)(ag:Bool)(k:Nat)(hk:pure k=false)(caps:List AV)(c:Fin m→Fin m→Int)(lt:Fin m→Fin m→Bool)(hlt: ∀x y,lt x y=decide (c x y<0))(hc: ∀x y X E,run L k (fK x::fK y::caps) ⟨put S0 l X E,T⟩=some (I (c x y),⟨put S0 l X E,T⟩))(X0:List (List AV))(a b:Nat)(ha:a≤n)(hb:b≤n)(d:Array (Fin m))(hsz:d.size=n):
  run L 171 [.rsl l 0 n n 1 ag,J a,J b,.fn (.func k) [] caps] ⟨put S0 l (Dm fK d) X0,T⟩=some (.tup [],⟨put S0 l (Dm fK (Go.Sort.insertionSort lt d a b)) X0,T⟩):=by
 rw [zc (fn:=ir171) rfl rfl]
 have hs:=zd a (by omega)
 simp only [ir171,go_sem,hs]
 generalize hg:lim (headed pure (run L) false _ lp171_1 _ _) _ _=o
 obtain ⟨x,en,s,rfl,h2⟩: ∃x en s,o=some (x,en,s)∧_:=by rw [←hg];exact ins1k m S0 T l hl n hn ag k hk caps c lt hlt hc X0 a b hb _ _ (a+1) d ⟨by omega,hsz⟩ _ _ (by simp only [go_sem]<;>rfl)
 clear hg
 obtain ⟨rfl,rfl⟩:=h2
 simp only [go_sem]
 rfl
attribute [local go_sem] m_ x_ l_ k_ o_ t_ a_ s_ q_ b_ c_ u_ g_ zl za zg zm z0g z0f ze zi zj z6 zh z0h
theorem u8s_E (ss:List Nat):u8s (ss.map E8)=some (ss.map fun (s:Nat)=>(s:Int)):=by
 induction ss with
 |nil=>rfl
 |cons s r ih=>simp only [List.map_cons,u8s,ih,Option.map_some]
theorem zl6 (nl:Bool)(ss:List Nat)(hk:ss.length≤1000)(st:St):bytesOf st (sl 1 nl (ss.map E8))=some (ss.map fun (s:Nat)=>(s:Int)):=by
 unfold bytesOf
 rw [z4j]
 simp only [Option.bind_some,u8s_E,lm_,if_pos hk]
theorem c130 (x:AV)(ss:List Nat)(hx: ∀st,bytesOf st x=some (ss.map fun (s:Nat)=>(s:Int)))(h: ∀s∈ss,s<256)(hk:ss.length<256):
  (ss=[]→run L 130 [.fn (.func 170) [] [.ptr 0 0],cmpS] ⟨[[x]],[]⟩=some (.v (.slice none 0 0),⟨[[x]],[]⟩))∧
  (ss≠[]→∃X1,PL X1∧run L 130 [.fn (.func 170) [] [.ptr 0 0],cmpS] ⟨[[x]],[]⟩=some (.rsl 1 0 ss.length ss.length 1 true,⟨[[x],(srt ss).map u8]++X1,[]⟩)):=by
 rw [zc (fn:=ir130) rfl rfl]
 have hb:=hx ⟨[[x]],[]⟩
 have h169: ∀r st',primSeq 192 170 192 [.v (.slice none 0 0),.fn (.func 170) [] [.ptr 0 0]] ⟨[[x]],[]⟩=some (r,st')→1≤st'.store.length→
   run L 192 [.v (.slice none 0 0),.fn (.func 170) [] [.ptr 0 0]] ⟨[[x]],[]⟩=some (r,st'):=by
  intro r st' hp h1
  exact zlq rfl rfl hp h1 (Nat.zero_le _)
 refine ⟨fun he=> ?_,fun he=> ?_⟩
 ·rw [he,List.map_nil] at hb
  have h192:=h169 (.v (.slice none 0 0)) ⟨[[x]],[]⟩ (by
   simp only [primSeq,if_true,List.getElem?_cons_zero,hb]) (by simp)
  have h169:run L 169 [.fn (.func 170) [] [.ptr 0 0]] ⟨[[x]],[]⟩=some (.v (.slice none 0 0),⟨[[x]],[]⟩):=by
   rw [zc (fn:=ir169) rfl rfl]
   simp only [ir169,go_sem,h192,show pure 192=false from rfl]
  simp only [ir130,go_sem,h169,c80n]
 ·obtain ⟨z,zs,rfl⟩: ∃z zs,ss=z::zs:=by cases ss with|nil=>exact absurd rfl he|cons z zs=>exact ⟨z,zs,rfl⟩
  generalize hss:z::zs=ss at*
  have h192:=h169 (.rsl 1 0 ss.length ss.length 1 true) ⟨[[x],ss.map u8],[]⟩ (by
   have e:(ss.map fun (s:Nat)=>(s:Int))=(z:Int)::zs.map fun (s:Nat)=>(s:Int):=by rw [←hss];rfl
   rw [e] at hb
   simp only [primSeq,if_true,List.getElem?_cons_zero,hb]
   have e1:((z:Int)::zs.map fun (s:Nat)=>(s:Int)).length=ss.length:=by rw [←hss];simp
   have e2:(((z:Int)::zs.map fun (s:Nat)=>(s:Int)).map fun z=>AV.v (.int .u8 z))=ss.map u8:=by rw [←hss];simp
   rw [e1,e2];rfl) (by simp)
  have h169:run L 169 [.fn (.func 170) [] [.ptr 0 0]] ⟨[[x]],[]⟩=some (.rsl 1 0 ss.length ss.length 1 true,⟨[[x],ss.map u8],[]⟩):=by
   rw [zc (fn:=ir169) rfl rfl]
   simp only [ir169,go_sem,h192,show pure 192=false from rfl]
  obtain ⟨X1,hX1,h80⟩:=c80 [[x],ss.map u8] [] 1 (by simp) true ss h hk
  have h80:run L 80 [.rsl 1 0 ss.length ss.length 1 true,cmpS] ⟨[[x],ss.map u8],[]⟩=some (.tup [],⟨[[x],(srt ss).map u8]++X1,[]⟩):=h80
  refine ⟨X1,hX1,?_⟩
  simp only [ir130,go_sem,h169,h80]
theorem loop84 (C:List AV)(hC1: ∀n,okRefs n C=true)(hC2: ∀n T acc,renCells n T acc C=(C,acc))(X1:List (List AV))(hX:PL X1)(ss:List Nat)(h256: ∀s∈ss,s<256)(hk:ss.length<256)(i:Nat)(o:List Nat)(hok:i≤ss.length∧o.length≤i)(env:Env)(st:St)
  (hg:gcAV true (X1.length+1+1) 0 (canon env [3,8,9,10]) st=([(3,oA (o.map tM)),(8,.rsl 1 0 ss.length ss.length 1 true),(9,J ss.length),(10,J i)],⟨C::ss.map u8::X1,oT (o.map tM)⟩)):
  ∃x_1 en s,lim (headed pure (run L) true [3,8,9,10] lp84_0 (X1.length+1+1) 0) env st=some (x_1,en,s)∧(x_1=.exit 0∧en.get 3=oA ((o++ss.drop i).map tM)):=by
 refine z7 (α:=Nat×List Nat) (fun ⟨i,o⟩=>ss.length-i) (fun ⟨i,o⟩=>i≤ss.length∧o.length≤i) (fun ⟨i,o⟩=>([(3,oA (o.map tM)),(8,.rsl 1 0 ss.length ss.length 1 true),(9,J ss.length),(10,J i)],⟨C::ss.map u8::X1,oT (o.map tM)⟩)) (fun ⟨i,o⟩ x_1 en s=>x_1=.exit 0∧en.get 3=oA ((o++ss.drop i).map tM)) (fun ⟨i,o⟩ hok=> ?_) ⟨i,o⟩ hok env st hg
 simp only at hok
 obtain ⟨h1,h2⟩:=hok
 dsimp only at h1 h2⊢
 by_cases h:i<ss.length
 ·have hs:=zd i (by omega)
  have hlt:((i:Int)<(ss.length:Int))=True:=eT (by omega)
  have hd:ss.drop i=ss.getD i 0::ss.drop (i+1):=by
   rw [List.drop_eq_getElem_cons h];simp [List.getD_eq_getElem?_getD,h]
  have hb:ss.getD i 0<256:=by
   rw [List.getD_eq_getElem?_getD,List.getElem?_eq_getElem h];exact h256 _ (List.getElem_mem h)
  have hg:=zgl ss i h
  have hil:(i+1≤ss.length)=True:=eT (by omega)
  have hin:((i:Int).toNat<ss.length)=True:=eT (by omega)
  rw [hd]
  generalize ss.getD i 0=v at*
  have h94:=fun st=>c94 v hb st
  have happ:=fun S=>z65 (o.map tM) (tM v) S (by rw [lm_];omega)
  have g1:=zl9 X1 [u8 v]
  have g2:=zgo X1 [u8 v] [u8 v]
  have g0:=zl9 X1 [u8 0]
  have g3:=zgo X1 [u8 0] [u8 v]
  have g4:=zj4 X1 [u8 v]
  have hl1:(1<X1.length+1+1)=True:=eT (by omega)
  simp only [go_sem,lp84_0,hlt,hs,hil,hin,hg,h94,happ,g0,g1,g2,g3,nn_,lm_,show AV.v (.int .u8 0)=u8 0 from rfl]
  refine ⟨(i+1,o++ [v]),by simp only [go_sem,z3,z4,z5,z8m,z2u,List.map_append,hC1,hC2,z0x,zp,zpn hX,zlf hX,g4,hl1]<;>rfl,?_,?_,fun x en s hq=> ?_⟩
  ·dsimp only;exact ⟨by omega,by rw [List.length_append,List.length_singleton];omega⟩
  ·dsimp only;omega
  ·simp only [List.append_assoc,List.singleton_append] at hq;exact hq
 ·have hd:ss.drop i=[]:=List.drop_eq_nil_of_le (by omega)
  have hlt:((i:Int)<(ss.length:Int))=False:=eF (by omega)
  rw [hd,List.append_nil]
  simp only [go_sem,lp84_0,hlt]
theorem zot (C:List AV)(hC1: ∀n,okRefs n C=true)(hC2: ∀n T acc,renCells n T acc C=(C,acc))(i:Nat)(hok:i=0)(env:Env)(st:St)
  (hg:gcAV true 1 0 (canon env [3,8,9,10]) st=([(3,.v (.slice none 0 0)),(8,.v (.slice none 0 0)),(9,I 0),(10,J i)],⟨[C],[]⟩)):
  ∃x_1 en s,lim (headed pure (run L) true [3,8,9,10] lp84_0 1 0) env st=some (x_1,en,s)∧(x_1=.exit 0∧en.get 3=.v (.slice none 0 0)):=by
 refine z7 (α:=Nat) (fun i=>i) (fun i=>i=0) (fun i=>([(3,.v (.slice none 0 0)),(8,.v (.slice none 0 0)),(9,I 0),(10,J i)],⟨[C],[]⟩)) (fun i x_1 en s=>x_1=.exit 0∧en.get 3=.v (.slice none 0 0)) (fun i hok=> ?_) i hok env st hg
 subst hok
 have hlt:(((0:Nat):Int)<0)=False:=eF (by omega)
 simp only [go_sem,lp84_0,hlt]
theorem c84 (nl:Bool)(ss:List Nat)(h: ∀s∈ss,s<256)(hk:ss.length<256)(st:St):run L 84 [sl 1 nl (ss.map E8)] st=some (sl 1 true ((srt ss).map tM),st):=by
 rw [run_pure (fn:=ir84) rfl rfl]
 have h131:run L 131 [sl 1 nl (ss.map E8)] ⟨[],[]⟩=some (.fn (.func 170) [] [.ptr 0 0],⟨[[sl 1 nl (ss.map E8)]],[]⟩):=by
  rw [zc (fn:=ir131) rfl rfl]
  simp only [ir131,go_sem]
 have h130:=c130 (sl 1 nl (ss.map E8)) ss (fun st=>zl6 nl ss (by omega) st) h hk
 have hp:pub (sl 1 nl (ss.map E8))=sl 1 nl (ss.map E8):=z4h _ _ _
 have ho: ∀n,okRef n (sl 1 nl (ss.map E8))=true:=fun n=>z0k _ _ _ _
 have hr: ∀n T acc,ren1 n T acc (sl 1 nl (ss.map E8))=(sl 1 nl (ss.map E8),acc):=fun n T acc=>z1m _ _ _ _ _ _
 generalize sl 1 nl (ss.map E8)=x at*
 have hC1: ∀n,okRefs n [x]=true:=fun n=>by simp only [okRefs,ho,Bool.and_self]
 have hC2: ∀n T acc,renCells n T acc [x]=([x],acc):=fun n T acc=>by simp only [renCells,hr]
 by_cases he:ss=[]
 ·have h130:=h130.1 he
  have hz:srt ss=[]:=by rw [he,zfx]
  rw [hz]
  simp only [ir84,go_sem,hp,h131,h130]
  generalize hg:lim (headed pure (run L) true _ lp84_0 _ _) _ _=o
  obtain ⟨x,en,s,rfl,h2⟩: ∃x en s,o=some (x,en,s)∧_:=by rw [←hg];exact zot [x] hC1 hC2 0 rfl _ _ (by simp only [go_sem,ho,hr,Int.natCast_zero]<;>rfl)
  clear hg
  obtain ⟨rfl,e3⟩:=h2
  simp only [go_sem,e3]
  rfl
 ·obtain ⟨X1,hX1,h130⟩:=h130.2 he
  have hsl:=z9m h
  have hl1:(1<X1.length+1+1)=True:=eT (by omega)
  simp only [ir84,go_sem,hp,h131,h130]
  rw [←hsl]
  generalize hg:lim (headed pure (run L) true _ lp84_0 _ _) _ _=o
  obtain ⟨x,en,s,rfl,h2⟩: ∃x en s,o=some (x,en,s)∧_:=by rw [←hg];exact loop84 [x] hC1 hC2 X1 hX1 (srt ss) (zj8 ss) (by omega) 0 [] ⟨by omega,by simp⟩ _ _ (by simp only [go_sem,ho,hr,z0x,zp,zpn hX1,zlf hX1,hl1,Int.natCast_zero,List.map_nil,←zbc,zbd,List.take_length]<;>rfl)
  clear hg
  rw [List.drop_zero] at h2
  obtain ⟨rfl,e3⟩:=h2
  simp only [go_sem,e3]
attribute [local go_sem] m_ x_ l_ k_ o_ t_ a_ s_ q_ b_ c_ u_ g_ zl za zg zm z0g z0f ze zi zj z6 zh z0h
theorem zb7 {α:Type} (A L:List α) {p:Nat} (hp:A.length=p)(k:Nat):(A++L)[p+k]? =L[k]? :=by
 subst hp;rw [List.getElem?_append_right (by omega)];simp
theorem zdm {α:Type} (A L:List α) {p:Nat} (hp:A.length=p):(A++L)[p]? =L[0]? :=zb7 A L hp 0
theorem zes {α:Type} (A L:List α) {p:Nat} (hp:A.length=p)(k:Nat)(v:α):(A++L).set (p+k) v=A++L.set k v:=by
 subst hp;rw [List.set_append_right _ _ (by omega)];simp
theorem zjq {α:Type} (A L:List α) {p:Nat} (hp:A.length=p)(v:α):(A++L).set p v=A++L.set 0 v:=zes A L hp 0 v
theorem zgw {α:Type} (A L:List α) {p:Nat} (hp:A.length=p):(A++L).length=p+L.length:=by rw [List.length_append,hp]
theorem zdl {α:Type} (A L:List α) {p:Nat} (hp:A.length=p)(k:Nat):(A++L).take (p+k)=A++L.take k:=by
 subst hp;rw [List.take_append,List.take_of_length_le (by omega),Nat.add_sub_cancel_left]
structure Calm (A:List (List AV)):Prop where
 ok: ∀n,okStore n A=true
 ren: ∀n T acc,renStore n T acc A=(A,acc)
theorem Calm.okApp {A:List (List AV)} (h:Calm A)(n:Nat)(L:List (List AV)):okStore n (A++L)=okStore n L:=by
 have key: ∀(B:List (List AV)),okStore n (B++L)=(okStore n B&&okStore n L):=by
  intro B
  induction B with
  |nil=>rfl
  |cons b r ih=>simp only [List.cons_append,okStore,ih,Bool.and_assoc]
 rw [key,h.ok,Bool.true_and]
theorem Calm.renApp {A:List (List AV)} (h:Calm A)(n:Nat)(T:List Nat)(acc:List (Nat×Nat))(L:List (List AV)):renStore n T acc (A++L)=(A++(renStore n T acc L).1,(renStore n T acc L).2):=by
 have key: ∀(B:List (List AV)) (acc:List (Nat×Nat)),renStore n T acc (B++L)=((renStore n T acc B).1++(renStore n T (renStore n T acc B).2 L).1,(renStore n T (renStore n T acc B).2 L).2):=by
  intro B
  induction B with
  |nil=>intro acc;rfl
  |cons b r ih=>intro acc;simp only [List.cons_append,renStore,ih]
 rw [key,h.ren]
theorem PL.calm {X:List (List AV)} (h:PL X):Calm X:=⟨zpn h,zlf h⟩
theorem Calm.cons {A:List (List AV)} (h:Calm A) {C:List AV} (hC1: ∀n,okRefs n C=true)(hC2: ∀n T acc,renCells n T acc C=(C,acc)):Calm (C::A):=
 ⟨fun n=>by simp only [okStore,hC1,h.ok,Bool.and_self],fun n T acc=>by simp only [renStore,hC2,h.ren]⟩
theorem stb0 (st0:St)(R C:AV)(n:Nat)(hn:n<20)(lo hi:Nat)(i:Nat)(hok:i=20)(env:Env)(st:St)
  (hg:gcAV false lo hi (canon env [0,1,2,6,7,8]) st=([(0,R),(1,J n),(2,C),(6,I 20),(7,I 0),(8,J i)],st0)):
  ∃x_1 en s,lim (headed pure (run L) false [0,1,2,6,7,8] lp132_0 lo hi) env st=some (x_1,en,s)∧(x_1=.exit 0∧s=st0∧en.get 0=R∧en.get 1=J n∧en.get 2=C∧en.get 6=I 20∧en.get 7=I 0):=by
 refine z7 (α:=Nat) (fun i=>i) (fun i=>i=20) (fun i=>([(0,R),(1,J n),(2,C),(6,I 20),(7,I 0),(8,J i)],st0)) (fun i x_1 en s=>x_1=.exit 0∧s=st0∧en.get 0=R∧en.get 1=J n∧en.get 2=C∧en.get 6=I 20∧en.get 7=I 0) (fun i hok=> ?_) i hok env st hg
 subst hok
 have hlt:((20:Int)≤(n:Int))=False:=eF (by omega)
 simp only [go_sem,lp132_0,hlt]
theorem stb2 (st0:St)(R C:AV)(n:Nat)(hn:n<20)(lo hi:Nat)(i:Nat)(hok:i=20)(env:Env)(st:St)
  (hg:gcAV false lo hi (canon env [0,1,2,6]) st=([(0,R),(1,J n),(2,C),(6,J i)],st0)):
  ∃x_1 en s,lim (headed pure (run L) false [0,1,2,6] lp132_2 lo hi) env st=some (x_1,en,s)∧(x_1=.exit 2∧s=st0):=by
 refine z7 (α:=Nat) (fun i=>i) (fun i=>i=20) (fun i=>([(0,R),(1,J n),(2,C),(6,J i)],st0)) (fun i x_1 en s=>x_1=.exit 2∧s=st0) (fun i hok=> ?_) i hok env st hg
 subst hok
 have hlt:((20:Int)<(n:Int))=False:=eF (by omega)
 simp only [go_sem,lp132_2,hlt]
theorem c91 (m:Nat) [NeZero m] (S0:List (List AV))(T:List Nat)(l:Nat)(hl:l<S0.length)(hm:m<20)(ag:Bool)(k:Nat)(hk:pure k=false)(caps:List AV)(c:Fin m→Fin m→Int)(lt:Fin m→Fin m→Bool)(hlt: ∀x y,lt x y=decide (c x y<0))(hc: ∀x y X E,run L k (fK x::fK y::caps) ⟨put S0 l X E,T⟩=some (I (c x y),⟨put S0 l X E,T⟩))(d:Array (Fin m))(hsz:d.size=m):
  run L 91 [.rsl l 0 m m 1 ag,.fn (.func k) [] caps] ⟨put S0 l (Dm fK d) [],T⟩=some (.tup [],⟨put S0 l (Dm fK (Go.Sort.insertionSort lt d 0 m)) [],T⟩):=by
 have h171:run L 171 [.rsl l 0 m m 1 ag,I 0,J m,.fn (.func k) [] caps] ⟨put S0 l (Dm fK d) [],T⟩=some (.tup [],⟨put S0 l (Dm fK (Go.Sort.insertionSort lt d 0 m)) [],T⟩):=
  insk m S0 T l hl m (by omega) ag k hk caps c lt hlt hc [] 0 m (by omega) (Nat.le_refl _) d hsz
 have h132:run L 132 [.rsl l 0 m m 1 ag,J m,.fn (.func k) [] caps] ⟨put S0 l (Dm fK d) [],T⟩=some (.tup [],⟨put S0 l (Dm fK (Go.Sort.insertionSort lt d 0 m)) [],T⟩):=by
  rw [zc (fn:=ir132) rfl rfl]
  simp only [ir132,go_sem]
  generalize hg:lim (headed pure (run L) false _ lp132_0 _ _) _ _=o
  obtain ⟨x,en,s,rfl,h2⟩: ∃x en s,o=some (x,en,s)∧_:=by rw [←hg];exact stb0 _ (.rsl l 0 m m 1 ag) (.fn (.func k) [] caps) m hm _ _ 20 rfl _ _ (by simp only [go_sem]<;>rfl)
  clear hg
  obtain ⟨rfl,rfl,e0,e1,e2,e6,e7⟩:=h2
  simp only [go_sem,e0,e1,e2,e6,e7,h171]
  generalize hg:lim (headed pure (run L) false _ lp132_2 _ _) _ _=o
  obtain ⟨x,en,s,rfl,h2⟩: ∃x en s,o=some (x,en,s)∧_:=by rw [←hg];exact stb2 _ (.rsl l 0 m m 1 ag) (.fn (.func k) [] caps) m hm _ _ 20 rfl _ _ (by simp only [go_sem,e0,e1,e2,e6,e7]<;>rfl)
  clear hg
  obtain ⟨rfl,rfl⟩:=h2
  simp only [go_sem]
 rw [zc (fn:=ir91) rfl rfl]
 simp only [ir91,go_sem,h132]
def stepA (i:Nat) (UA:List Nat×List Nat) (a:Int):List Nat×List Nat:=(UA.1.set i (UA.2.getD a.toNat 0),UA.2.set a.toNat (i+1))
def stepI (L:List Nat) (UA:List Nat×List Nat) (i:Nat):List Nat×List Nat:=(memb (L.getD i 0)).foldl (stepA i) UA
def growN (L:List Nat) (n:Nat) (order:List Nat):List Nat×List Nat:=order.foldl (stepI L) (List.replicate L.length 0,List.replicate n 0)
theorem zj7 (i:Nat)(UA:List Nat×List Nat)(a:Int):(stepA i UA a).1.length=UA.1.length∧(stepA i UA a).2.length=UA.2.length:=by
 unfold stepA;simp
theorem z9c (i:Nat): ∀(l:List Int) (UA:List Nat×List Nat),(l.foldl (stepA i) UA).1.length=UA.1.length∧(l.foldl (stepA i) UA).2.length=UA.2.length
 | [],UA=>⟨rfl,rfl⟩
 |a::r,UA=>by
  rw [List.foldl_cons]
  have h1:=z9c i r (stepA i UA a)
  have h2:=zj7 i UA a
  exact ⟨h1.1.trans h2.1,h1.2.trans h2.2⟩
theorem getJ (o:List Nat)(a:Nat)(h:a<o.length):(o.map J)[a]? =some (J (o.getD a 0)):=by
 rw [getm J o 0 a,if_pos h]
theorem z1n (n:Nat)(xs:List Nat):okRefs n (xs.map J)=true:=z77 J n (fun _=>rfl) xs
theorem zz (n:Nat)(tips:List Nat)(acc:List (Nat×Nat))(xs:List Nat):renCells n tips acc (xs.map J)=(xs.map J,acc):=z4f J n tips (fun _ _=>rfl) xs acc
theorem setJ (xs:List Nat)(i v:Nat):(xs.map J).set i (J v)=(xs.set i v).map J:=by rw [List.map_set]
def isP (l:Nat):AV→Bool
 | .ptr l' _=>l'==l
 |_=>false
def notP (l:Nat):AV→Bool
 | .ptr l' _=>l' !=l
 |_=>true
theorem onB1 (env:Env)(t:Tmp)(l o:Nat):onB env [t] (.ptr l o)=isP l (env.get t):=by
 show ([t].any fun t=>match env.get t with| .ptr l' _=>l'==l|_=>false)=_
 rw [List.any_cons,List.any_nil,Bool.or_false];rfl
theorem onB_e (env:Env)(ts:List Tmp)(e:AV)(o:Nat):onB env ts (.eptr e o)=true:=rfl
theorem offB1 (env:Env)(t:Tmp)(l o:Nat):offB env [t] (.ptr l o)=notP l (env.get t):=by
 show ([t].all fun t=>match env.get t with| .ptr l' _=>l' !=l|_=>true)=_
 rw [List.all_cons,List.all_nil,Bool.and_true];rfl
theorem zp8 (l l' o:Nat):isP l (.ptr l' o)=(l'==l):=rfl
theorem zmc (l l' o:Nat):notP l (.ptr l' o)=(l' !=l):=rfl
theorem zmv (A:List (List AV))(hA:Calm A)(p:Nat)(hp:A.length=p)(h2p:2≤p)(m n:Nat)(hm:m≤13)(hn:n≤8)(D:List AV)(hD1:okRefs (p+5) D=true)(hD2: ∀n T acc,renCells n T acc D=(D,acc))(o:List Nat)(ho:o.length=m)(j i:Nat)(hi:i<m)(l:List Int)(hlr: ∀a∈l,0≤a∧a<(n:Int))(hl9:l.length≤9)(q:Nat)(U:List Nat)(W:List Nat)(hok:q≤l.length∧U.length=m∧W.length=n)(env:Env)(st:St)
  (hg:gcAV true (p+5) 0 (canon env [4,6,10,12,47,48,49,57,58,59]) st=([(4,.ptr 0 0),(6,.ptr p 0),(10,.ptr (p+4) 0),(12,J i),(47,.rsl (p+1) 0 m m 1 false),(48,J m),(49,J j),(57,tAV l),(58,J l.length),(59,J q)],⟨A++ [D,o.map J,U.map J,W.map J,[.rsl (p+2) 0 m m 1 false,.rsl (p+3) 0 n n 1 false]],[]⟩)):
  ∃x_1 en s,lim (headed pure (run L) true [4,6,10,12,47,48,49,57,58,59] lp26_1 (p+5) 0) env st=some (x_1,en,s)∧(x_1=.exit 4∧en.get 4=.ptr 0 0∧en.get 6=.ptr p 0∧en.get 10=.ptr (p+4) 0∧en.get 47=.rsl (p+1) 0 m m 1 false∧en.get 48=J m∧en.get 49=J j∧s=⟨A++ [D,o.map J,((l.drop q).foldl (stepA i) (U,W)).1.map J,((l.drop q).foldl (stepA i) (U,W)).2.map J,[.rsl (p+2) 0 m m 1 false,.rsl (p+3) 0 n n 1 false]],[]⟩):=by
 refine z7 (α:=Nat×List Nat×List Nat) (fun ⟨q,U,W⟩=>l.length-q) (fun ⟨q,U,W⟩=>q≤l.length∧U.length=m∧W.length=n) (fun ⟨q,U,W⟩=>([(4,.ptr 0 0),(6,.ptr p 0),(10,.ptr (p+4) 0),(12,J i),(47,.rsl (p+1) 0 m m 1 false),(48,J m),(49,J j),(57,tAV l),(58,J l.length),(59,J q)],⟨A++ [D,o.map J,U.map J,W.map J,[.rsl (p+2) 0 m m 1 false,.rsl (p+3) 0 n n 1 false]],[]⟩)) (fun ⟨q,U,W⟩ x_1 en s=>x_1=.exit 4∧en.get 4=.ptr 0 0∧en.get 6=.ptr p 0∧en.get 10=.ptr (p+4) 0∧en.get 47=.rsl (p+1) 0 m m 1 false∧en.get 48=J m∧en.get 49=J j∧s=⟨A++ [D,o.map J,((l.drop q).foldl (stepA i) (U,W)).1.map J,((l.drop q).foldl (stepA i) (U,W)).2.map J,[.rsl (p+2) 0 m m 1 false,.rsl (p+3) 0 n n 1 false]],[]⟩) (fun ⟨q,U,W⟩ hok=> ?_) ⟨q,U,W⟩ hok env st hg
 simp only at hok
 obtain ⟨h1,hU,hW⟩:=hok
 dsimp only at h1 hU hW⊢
 by_cases h:q<l.length
 ·have hs:=zd q (by omega)
  have hlt:((q:Int)<(l.length:Int))=True:=eT (by omega)
  have hx:indexSAV 1 (tAV l) (.v (.int .i64 (q:Int)))=some (.eptr (I l[q]) 0):=zk true l q h
  have hd:l.drop q=l[q]::l.drop (q+1):=List.drop_eq_getElem_cons h
  have hb:=hlr l[q] (List.getElem_mem h)
  rw [hd,List.foldl_cons]
  generalize l[q]=a at*
  obtain ⟨a,rfl⟩:=Int.eq_ofNat_of_zero_le hb.1
  have hsa:stepA i (U,W) (a:Int)=(U.set i (W.getD a 0),W.set a (i+1)):=by unfold stepA;rw [Int.toNat_natCast]
  rw [hsa]
  have b1:((a:Int)<(n:Int))=True:=eT (by omega)
  have b2:(a+1≤n)=True:=eT (by omega)
  have b3:((i:Int)<(m:Int))=True:=eT (by omega)
  have b4:(i+1≤m)=True:=eT (by omega)
  have hg:=getJ W a (by omega)
  have hi1:=zd i (by omega)
  have g:=fun L k=>zb7 A L hp k
  have s':=fun L k v=>zes A L hp k v
  have hu:=setJ U i (W.getD a 0)
  have hw:=setJ W a (i+1)
  have hUl:(U.map J).length=m:=by rw [lm_,hU]
  have hWl:(W.map J).length=n:=by rw [lm_,hW]
  generalize W.getD a 0=v at*
  have n3:(p+4==p+2)=false:=by simp
  have n4:(p+4==p+3)=false:=by simp
  have pt:=fun L k=>zdl A L hp k
  have l0:(0<p+5)=True:=eT (by omega)
  have l1:(p<p+5)=True:=eT (by omega)
  have l2:(p+1<p+5)=True:=eT (by omega)
  have l3:(p+2<p+5)=True:=eT (by omega)
  have l4:(p+3<p+5)=True:=eT (by omega)
  have l5:(p+4<p+5)=True:=eT (by omega)
  simp only [go_sem,lp26_1,hlt,hx,hs,b1,b2,b3,b4,hg,hi1,g,s',hUl,hWl,hu,hw,onB1,onB_e,offB1,zp8,zmc,n3,n4,nn_,hU,hW,lm_]
  refine ⟨(q+1,U.set i v,W.set a (i+1)),by simp only [go_sem,z3,z4,z5,hA.okApp,hA.renApp,pt,z1n,zz,hD1,hD2,z1w,l0,l1,l2,l3,l4,l5]<;>rfl,?_,?_,fun x en s hq=> ?_⟩
  ·dsimp only;exact ⟨by omega,by rw [List.length_set,hU],by rw [List.length_set,hW]⟩
  ·dsimp only;omega
  ·exact hq
 ·have hd:l.drop q=[]:=List.drop_eq_nil_of_le (by omega)
  have hlt:((q:Int)<(l.length:Int))=False:=eF (by omega)
  rw [hd]
  simp only [go_sem,lp26_1,hlt]
  rfl
attribute [local go_sem] m_ x_ l_ k_ o_ t_ a_ s_ q_ b_ c_ u_ g_ zl za zg zm z0g z0f ze zi zj z6 zh z0h
theorem zj6 (L:List Nat)(UA:List Nat×List Nat)(i:Nat):(stepI L UA i).1.length=UA.1.length∧(stepI L UA i).2.length=UA.2.length:=z9c i _ UA
theorem zmu (A:List (List AV))(hA:Calm A)(p:Nat)(hp:A.length=p)(h2p:2≤p)(ss:List Nat)(hA1: ∀L,(A++L)[1]? =some (ss.map u8))(n:Nat)(hm:ss.length≤13)(hn:n≤8)(hss: ∀s∈ss,s<2^n)(od:List Nat)(ho:od.length=ss.length)(hor: ∀x∈od,x<ss.length)(j:Nat)(U:List Nat)(W:List Nat)(hok:j≤od.length∧U.length=ss.length∧W.length=n)(env:Env)(st:St)
  (hg:gcAV true (p+5) 0 (canon env [4,6,10,47,48,49]) st=([(4,.ptr 0 0),(6,.ptr p 0),(10,.ptr (p+4) 0),(47,.rsl (p+1) 0 ss.length ss.length 1 false),(48,J ss.length),(49,J j)],⟨A++ [[.rsl 1 0 ss.length ss.length 1 true],od.map J,U.map J,W.map J,[.rsl (p+2) 0 ss.length ss.length 1 false,.rsl (p+3) 0 n n 1 false]],[]⟩)):
  ∃x_1 en s,lim (headed pure (run L) true [4,6,10,47,48,49] lp26_2 (p+5) 0) env st=some (x_1,en,s)∧(x_1=.exit 2∧en.get 4=.ptr 0 0∧en.get 10=.ptr (p+4) 0∧s=⟨A++ [[.rsl 1 0 ss.length ss.length 1 true],od.map J,((od.drop j).foldl (stepI ss) (U,W)).1.map J,((od.drop j).foldl (stepI ss) (U,W)).2.map J,[.rsl (p+2) 0 ss.length ss.length 1 false,.rsl (p+3) 0 n n 1 false]],[]⟩):=by
 refine z7 (α:=Nat×List Nat×List Nat) (fun ⟨j,U,W⟩=>od.length-j) (fun ⟨j,U,W⟩=>j≤od.length∧U.length=ss.length∧W.length=n) (fun ⟨j,U,W⟩=>([(4,.ptr 0 0),(6,.ptr p 0),(10,.ptr (p+4) 0),(47,.rsl (p+1) 0 ss.length ss.length 1 false),(48,J ss.length),(49,J j)],⟨A++ [[.rsl 1 0 ss.length ss.length 1 true],od.map J,U.map J,W.map J,[.rsl (p+2) 0 ss.length ss.length 1 false,.rsl (p+3) 0 n n 1 false]],[]⟩)) (fun ⟨j,U,W⟩ x_1 en s=>x_1=.exit 2∧en.get 4=.ptr 0 0∧en.get 10=.ptr (p+4) 0∧s=⟨A++ [[.rsl 1 0 ss.length ss.length 1 true],od.map J,((od.drop j).foldl (stepI ss) (U,W)).1.map J,((od.drop j).foldl (stepI ss) (U,W)).2.map J,[.rsl (p+2) 0 ss.length ss.length 1 false,.rsl (p+3) 0 n n 1 false]],[]⟩) (fun ⟨j,U,W⟩ hok=> ?_) ⟨j,U,W⟩ hok env st hg
 simp only at hok
 obtain ⟨h1,hU,hW⟩:=hok
 dsimp only at h1 hU hW⊢
 have h2n:2^n≤256:=Nat.pow_le_pow_right (n:=2) (by decide) hn
 have pt:=fun L k=>zdl A L hp k
 have l0:(0<p+5)=True:=eT (by omega)
 have l0':(1<p+5)=True:=eT (by omega)
 have l1:(p<p+5)=True:=eT (by omega)
 have l2:(p+1<p+5)=True:=eT (by omega)
 have l3:(p+2<p+5)=True:=eT (by omega)
 have l4:(p+3<p+5)=True:=eT (by omega)
 have l5:(p+4<p+5)=True:=eT (by omega)
 by_cases h:j<od.length
 ·have hs:=zd j (by omega)
  have hlt:((j:Int)<(ss.length:Int))=True:=eT (by omega)
  have hil:(j+1≤ss.length)=True:=eT (by omega)
  have hd:od.drop j=od.getD j 0::od.drop (j+1):=by
   rw [List.drop_eq_getElem_cons h];simp [List.getD_eq_getElem?_getD,h]
  have hb:od.getD j 0<ss.length:=by
   rw [List.getD_eq_getElem?_getD,List.getElem?_eq_getElem h];exact hor _ (List.getElem_mem h)
  have hgj:=getJ od j h
  have hol:(od.map J).length=ss.length:=by rw [lm_,ho]
  rw [hd,List.foldl_cons]
  generalize od.getD j 0=i at*
  have g:=fun L k=>zb7 A L hp k
  have g0:=fun L=>zdm A L hp
  have hb1:((i:Int)<(ss.length:Int))=True:=eT (by omega)
  have hb2:(i+1≤ss.length)=True:=eT (by omega)
  have hg8:=zgl ss i hb
  have hmem:ss.getD i 0∈ss:=zw hb
  have hsi:stepI ss (U,W) i=(memb (ss.getD i 0)).foldl (stepA i) (U,W):=rfl
  have hl2:=z9c i (memb (ss.getD i 0)) (U,W)
  rw [hsi]
  have hv:=hss _ hmem
  generalize ss.getD i 0=v at*
  have h94:=fun st=>c94 v (by omega) st
  have hll:lenAV (tAV (memb v))=some (J (memb v).length):=zn I true (memb v)
  have hml:=z03 v
  have hr:=z7b hn hv
  have pl:=fun L=>zgw A L hp
  simp only [go_sem,lp26_2,hlt,hs,hil,hgj,hol,g,g0,pl,hA1,hb1,hb2,hg8,h94,hll,nn_,lm_]
  generalize hg:lim (headed pure (run L) true _ lp26_1 _ _) _ _=o
  obtain ⟨x,en,s,rfl,h2⟩: ∃x en s,o=some (x,en,s)∧_:=by rw [←hg];exact zmv A hA p hp h2p ss.length n hm hn [.rsl 1 0 ss.length ss.length 1 true] (by simp [okRefs,okRef]) (fun n T acc=>by simp only [renCells,ren1]) od ho j i hb (memb v) hr hml 0 U W ⟨by omega,hU,hW⟩ _ _ (by simp only [go_sem,hA.okApp,hA.renApp,pt,z1n,zz,z1w,l0,l0',l1,l2,l3,l4,l5,Int.natCast_zero]<;>rfl)
  clear hg
  rw [List.drop_zero] at h2
  generalize (memb v).foldl (stepA i) (U,W)=UW at*
  obtain ⟨U2,W2⟩:=UW
  dsimp only at*
  obtain ⟨rfl,e4,e6,e10,e47,e48,e49,rfl⟩:=h2
  simp only [go_sem,lp26_2,e4,e6,e10,e47,e48,e49,hs]
  refine ⟨(j+1,U2,W2),by simp only [go_sem,z3,z4,z5,e4,e6,e10,e47,e48,e49,hA.okApp,hA.renApp,pt,z1n,zz,l0,l0',l1,l2,l3,l4,l5]<;>rfl,?_,?_,fun x en s hq=> ?_⟩
  ·dsimp only;exact ⟨by omega,by omega,by omega⟩
  ·dsimp only;omega
  ·exact hq
 ·have hd:od.drop j=[]:=List.drop_eq_nil_of_le (by omega)
  have hlt:((j:Int)<(ss.length:Int))=False:=eF (by omega)
  rw [hd]
  simp only [go_sem,lp26_2,hlt]
  rfl
theorem zmw (A:List (List AV))(hA:Calm A)(p:Nat)(hp:A.length=p)(h2p:2≤p)(n m:Nat)(hm:m≤13)(j:Nat)(D:List Nat)(hok:j≤m∧D=List.range j++List.replicate (m-j) 0)(env:Env)(st:St)
  (hg:gcAV true (p+2) 0 (canon env [0,4,6,8,29,30]) st=([(0,J n),(4,.ptr 0 0),(6,.ptr p 0),(8,.rsl (p+1) 0 m m 1 false),(29,J m),(30,J j)],⟨A++ [[.rsl 1 0 m m 1 true],D.map J],[]⟩)):
  ∃x_1 en s,lim (headed pure (run L) true [0,4,6,8,29,30] lp26_0 (p+2) 0) env st=some (x_1,en,s)∧(x_1=.exit 0∧en.get 0=J n∧en.get 4=.ptr 0 0∧en.get 6=.ptr p 0∧en.get 8=.rsl (p+1) 0 m m 1 false∧s=⟨A++ [[.rsl 1 0 m m 1 true],(List.range m).map J],[]⟩):=by
 refine z7 (α:=Nat×List Nat) (fun ⟨j,D⟩=>m-j) (fun ⟨j,D⟩=>j≤m∧D=List.range j++List.replicate (m-j) 0) (fun ⟨j,D⟩=>([(0,J n),(4,.ptr 0 0),(6,.ptr p 0),(8,.rsl (p+1) 0 m m 1 false),(29,J m),(30,J j)],⟨A++ [[.rsl 1 0 m m 1 true],D.map J],[]⟩)) (fun ⟨j,D⟩ x_1 en s=>x_1=.exit 0∧en.get 0=J n∧en.get 4=.ptr 0 0∧en.get 6=.ptr p 0∧en.get 8=.rsl (p+1) 0 m m 1 false∧s=⟨A++ [[.rsl 1 0 m m 1 true],(List.range m).map J],[]⟩) (fun ⟨j,D⟩ hok=> ?_) ⟨j,D⟩ hok env st hg
 simp only at hok
 obtain ⟨h1,h2⟩:=hok
 dsimp only at h1 h2⊢
 have hDl:D.length=m:=by rw [h2];simp;omega
 by_cases h:j<m
 ·have hs:=zd j (by omega)
  have hlt:((j:Int)<(m:Int))=True:=eT (by omega)
  have hil:(j+1≤m)=True:=eT (by omega)
  have g:=fun L k=>zb7 A L hp k
  have s':=fun L k v=>zes A L hp k v
  have pt:=fun L k=>zdl A L hp k
  have hset:(D.map J).set j (J j)=(List.range (j+1)++List.replicate (m-(j+1)) 0).map J:=by
   rw [setJ,h2,show m-j=(m-(j+1))+1 by omega,List.replicate_succ,List.range_succ]
   rw [List.set_append_right _ _ (by simp)]
   simp
  have hDJ:(D.map J).length=m:=by rw [lm_,hDl]
  have l0:(0<p+2)=True:=eT (by omega)
  have l0':(1<p+2)=True:=eT (by omega)
  have l1:(p<p+2)=True:=eT (by omega)
  have l2:(p+1<p+2)=True:=eT (by omega)
  simp only [go_sem,lp26_0,hlt,hs,hil,g,s',hset,hDJ,nn_,lm_,hDl]
  refine ⟨(j+1,List.range (j+1)++List.replicate (m-(j+1)) 0),by simp only [go_sem,z3,z4,z5,hA.okApp,hA.renApp,pt,z1n,zz,l0,l0',l1,l2]<;>rfl,?_,?_,fun x en s hq=> ?_⟩
  ·dsimp only;exact ⟨by omega,rfl⟩
  ·dsimp only;omega
  ·exact hq
 ·have e:j=m:=by omega
  subst e
  rw [Nat.sub_self,List.replicate_zero,List.append_nil] at h2
  subst h2
  have hlt:((j:Int)<(j:Int))=False:=eF (by omega)
  simp only [go_sem,lp26_0,hlt]
attribute [local go_sem] m_ x_ l_ k_ o_ t_ a_ s_ q_ b_ c_ u_ g_ zl za zg zm z0g z0f ze zi zj z6 zh z0h
theorem c92 (ss:List Nat)(h256: ∀s∈ss,s<256)(p x y:Nat)(hx:x<ss.length)(hy:y<ss.length)(hm:ss.length≤13)(S:List (List AV))(T:List Nat)(g1:S[1]? =some (ss.map u8))(gp:S[p]? =some [.rsl 1 0 ss.length ss.length 1 true]):
  run L 92 [J x,J y,.ptr p 0] ⟨S,T⟩=some (I ((pc (ss.getD y 0):Int)-(pc (ss.getD x 0):Int)),⟨S,T⟩):=by
 rw [zc (fn:=ir92) rfl rfl]
 have b1:((x:Int)<(ss.length:Int))=True:=eT (by omega)
 have b2:((y:Int)<(ss.length:Int))=True:=eT (by omega)
 have h1:=get8 ss x hx
 have h2:=get8 ss y hy
 have hx8:=h256 _ (zw hx)
 have hy8:=h256 _ (zw hy)
 generalize ss.getD x 0=a at*
 generalize ss.getD y 0=b at*
 have ha:=fun st=>c93 a hx8 st
 have hb:=fun st=>c93 b hy8 st
 have la:=z03 a
 have lb:=z03 b
 have hw:IntKind.i64.wrap (((memb b).length:Int)-((memb a).length:Int))=(pc b:Int)-(pc a:Int):=by
  unfold pc;rw [z06]<;>omega
 simp only [ir92,go_sem,g1,gp,b1,b2,h1,h2,ha,hb,hw,nn_]
def cG (ss:List Nat) (x y:Fin ss.length):Int:=(pc (ss.getD y.val 0):Int)-(pc (ss.getD x.val 0):Int)
def ltG (ss:List Nat) (x y:Fin ss.length):Bool:=decide (cG ss x y<0)
theorem zbg (ss:List Nat)(x y:Fin ss.length):ltG ss x y=true↔pc (ss.getD y.val 0)<pc (ss.getD x.val 0):=by
 unfold ltG cG;rw [decide_eq_true_iff];omega
theorem swoG (ss:List Nat):Go.Sort.SWO (ltG ss) where
 irrefl x:=by cases h:ltG ss x x;rfl;rw [zbg] at h;omega
 trans x y z h1 h2:=by rw [zbg] at h1 h2⊢;omega
 ntrans x y z h1 h2:=by
  cases h:ltG ss x z
  ·rfl
  ·rw [zbg] at h
   have h1: ¬ltG ss x y=true:=by rw [h1];simp
   have h2: ¬ltG ss y z=true:=by rw [h2];simp
   rw [zbg] at h1 h2
   omega
def ordG (ss:List Nat):List Nat:=
 if h:ss.length=0 then [] else
  haveI:NeZero ss.length:=⟨h⟩
  (Go.Sort.insertionSort (ltG ss) (List.finRange ss.length).toArray 0 ss.length).toList.map (fun x=>x.val)
theorem zba (ss:List Nat):(ordG ss).Perm (List.range ss.length)∧(ordG ss).Pairwise (fun i j=>pc (ss.getD j 0)≤pc (ss.getD i 0)):=by
 unfold ordG
 split
 ·next h=>rw [h];exact ⟨List.Perm.refl _,List.Pairwise.nil⟩
 ·next h=>
  haveI:NeZero ss.length:=⟨h⟩
  have hsz:(List.finRange ss.length).toArray.size=ss.length:=by simp
  have h1:=Go.Sort.insertionSort_holds (swoG ss) (List.finRange ss.length).toArray 0 ss.length (Nat.zero_le _) (by rw [hsz];exact Nat.le_refl _)
  generalize Go.Sort.insertionSort (ltG ss) (List.finRange ss.length).toArray 0 ss.length=d at*
  obtain ⟨⟨g1,g2,g3⟩,g4⟩:=h1
  have hd:d.size=ss.length:=by rw [g1,hsz]
  have key: ∀(k:Nat) (d:Array (Fin ss.length)),d.size=k→(d.extract 0 k).toList=d.toList:=by
   intro k d h
   subst h
   rw [Array.extract_size]
  rw [key _ d hd,key _ _ hsz] at g3
  constructor
  ·have:=g3.map (fun x=>x.val)
   have e:(List.finRange ss.length).map (fun x=>x.val)=List.range ss.length:=by
    apply List.ext_getElem
    ·simp
    ·intro i h1 h2;simp
   simpa [e] using this
  ·rw [List.pairwise_map,List.pairwise_iff_getElem]
   intro i j hi hj hij
   simp only [Array.length_toList] at hi hj
   have:=g4 i j (Nat.zero_le _) hij (by omega)
   rw [getElem!_pos d i hi,getElem!_pos d j hj] at this
   have h2: ¬ltG ss d[j] d[i]=true:=by rw [this];simp
   rw [zbg] at h2
   simp only [Array.getElem_toList]
   omega
theorem zju (ss:List Nat): ∀x∈ordG ss,x<ss.length:=fun x hx=>List.mem_range.1 ((zba ss).1.mem_iff.1 hx)
theorem zm7 (ss:List Nat):(ordG ss).length=ss.length:=by rw [(zba ss).1.length_eq,List.length_range]
theorem PL_sh {X:List (List AV)} (h:PL X)(n:Nat):shStore n X=X:=by
 induction X with
 |nil=>rfl
 |cons B r ih=>
  obtain ⟨k,i,rfl⟩:=h B (by simp)
  simp only [shStore,shVs,shV,ih (fun C hC=>h C (by simp [hC]))]
theorem c91s (ss:List Nat)(h256: ∀s∈ss,s<256)(hm:ss.length≤13)(h0:ss.length≠0)(A:List (List AV))(p:Nat)(hp:A.length=p)(h2p:2≤p)(hA1: ∀L,(A++L)[1]? =some (ss.map u8)):
  run L 91 [.rsl (p+1) 0 ss.length ss.length 1 false,.fn (.func 92) [] [.ptr p 0]] ⟨A++ [[.rsl 1 0 ss.length ss.length 1 true],(List.range ss.length).map J],[]⟩=some (.tup [],⟨A++ [[.rsl 1 0 ss.length ss.length 1 true],(ordG ss).map J],[]⟩):=by
 haveI:NeZero ss.length:=⟨h0⟩
 have hput: ∀X E,put (A++ [[.rsl 1 0 ss.length ss.length 1 true],[]]) (p+1) X E=A++([.rsl 1 0 ss.length ss.length 1 true]::X::E):=by
  intro X E
  unfold put
  rw [zes A _ hp 1]
  simp
 have h:=c91 ss.length (A++ [[.rsl 1 0 ss.length ss.length 1 true],[]]) [] (p+1) (by rw [zgw A _ hp];simp) (by omega) false 92 rfl [.ptr p 0] (cG ss) (ltG ss) (fun _ _=>rfl)
  (fun x y X E=>by
   rw [hput]
   exact c92 ss h256 p x.val y.val x.isLt y.isLt hm _ [] (hA1 _) (by rw [zdm A _ hp];rfl))
  (List.finRange ss.length).toArray (by simp)
 rw [hput,hput] at h
 have e1:Dm fK (List.finRange ss.length).toArray=(List.range ss.length).map J:=by
  unfold Dm
  apply List.ext_getElem
  ·simp
  ·intro i h1 h2;simp
 have e2:Dm fK (Go.Sort.insertionSort (ltG ss) (List.finRange ss.length).toArray 0 ss.length)=(ordG ss).map J:=by
  unfold Dm ordG
  rw [dif_neg h0,List.map_map];rfl
 rw [e1,e2] at h
 exact h
theorem zor (k:Nat)(hk:k≤1000)(S:List (List AV))(T:List Nat):makeAV 1 false [.v (.int .i64 0)] ⟨S,T⟩ (J k) (J k)=some (.rsl S.length 0 k k 1 false,⟨S++ [(List.replicate k 0).map J],T⟩):=by
 rw [z4v,if_pos ⟨by omega,by unfold maxGrow;omega⟩,Int.toNat_natCast]
 simp
theorem pubsJ (X:List Nat):pubs (X.map J)=X.map J:=zdk J (fun _=>rfl) X
theorem zal (st:St)(l m:Nat)(X:List Nat)(hm:X.length=m)(h:st.store[l]? =some (X.map J)):fin st (.rsl l 0 m m 1 false)=sl 1 false (X.map J):=by
 subst hm
 have e:fin st (.rsl l 0 X.length X.length 1 false)=.lst .any 1 (group false 1 X.length (pubs ((X.map J).drop 0))):=by
  simp only [fin,h]
  rw [if_pos (by simp)]
 rw [e,List.drop_zero,pubsJ,zcq J (fun _=>rfl)]
 rfl
def treeA (UW:List Nat×List Nat):AV:=.agg [sl 1 false (UW.1.map J),sl 1 false (UW.2.map J)]
theorem all26a:(List.range 7).map (fun n=>callAV L 400 26 [J (n+2),.v (.slice none 0 0)] ⟨[],[]⟩)=(List.range 7).map (fun n=>some (.tup [treeA (growN [] (n+2) []),I 0],(⟨[],[]⟩:St))):=by kernel_rfl
theorem all26b:(List.range 7).map (fun n=>callAV L 400 26 [J (n+2),.lst .any 1 []] ⟨[],[]⟩)=(List.range 7).map (fun n=>some (.tup [treeA (growN [] (n+2) []),I 0],(⟨[],[]⟩:St))):=by kernel_rfl
theorem c26e (n:Nat)(h2:2≤n)(hn:n≤8)(nl:Bool)(st:St):run L 26 [J n,sl 1 nl []] st=some (.tup [treeA (growN [] n []),I 0],st):=by
 obtain ⟨k,rfl⟩: ∃k,n=k+2:=⟨n-2,by omega⟩
 rcases z0i 1 nl [] with ⟨_,h⟩ |h
 ·rw [h];exact z16 (fn:=ir26) rfl rfl (z05 L 400 _ _ _ _ (z7l all26a k (by omega))) st
 ·rw [h];exact z16 (fn:=ir26) rfl rfl (z05 L 400 _ _ _ _ (z7l all26b k (by omega))) st
theorem c26 (n:Nat)(h2:2≤n)(hn:n≤8)(nl:Bool)(X:List Nat)(hX: ∀v∈X,v<2^n∧v≠0∧v≠2^n-1)(hnd:(X.map (smlN n)).Nodup)(hl:X.length≤13)(hc:clP (X.map (smlN n)) 0=none)(st:St):
  run L 26 [J n,sl 1 nl (X.map tM)] st=some (.tup [treeA (growN (srt (X.map (smlN n))) n (ordG (srt (X.map (smlN n))))),I 0],st):=by
 by_cases he:X=[]
 ·subst he
  have e1:srt (([]:List Nat).map (smlN n))=[]:=zfx
  have e2:ordG []=[]:=by unfold ordG;rw [dif_pos (by simp)]
  rw [e1,e2]
  exact c26e n h2 hn nl st
 rw [run_pure (fn:=ir26) rfl rfl]
 obtain ⟨X1,hX1,h79⟩:=(c79 n h2 hn nl X hX hnd hl).1 hc
 have hss0: ∀x∈X.map (smlN n),x<2^n:=by
  intro x hx
  rw [List.mem_map] at hx
  obtain ⟨v,hv,rfl⟩:=hx
  exact z32 (hX v hv).1
 have h2n:2^n≤256:=Nat.pow_le_pow_right (n:=2) (by decide) hn
 have hsl:=z9m (ss:=X.map (smlN n)) (fun s hs=>Nat.lt_of_lt_of_le (hss0 s hs) h2n)
 have hsm: ∀s∈srt (X.map (smlN n)),s<2^n:=fun s hs=>hss0 s ((z8e (fun s hs=>Nat.lt_of_lt_of_le (hss0 s hs) h2n)).mem_iff.1 hs)
 rw [lm_] at hsl
 generalize srt (X.map (smlN n))=ss at*
 have hne:ss≠[]:=fun e=>he (List.eq_nil_of_length_eq_zero (by rw [←hsl,e];rfl))
 have h0:ss.length≠0:=fun e=>hne (List.eq_nil_of_length_eq_zero e)
 rw [zik hne,zf5 hne] at h79
 have hsv:=za1 1 ss
 have hsx:=PL_sh hX1 1
 have hcal:Calm ([.v (.slice none 0 0),.v (.slice none 0 0)]::ss.map u8::X1):=
  (hX1.calm.cons (fun n=>z0x n ss) (fun n T acc=>zp n T acc ss)).cons (fun n=>rfl) (fun n T acc=>rfl)
 obtain ⟨q,hq⟩: ∃q,X1.length=q:=⟨_,rfl⟩
 have g0:=fun L:List (List AV)=>zdm X1 L hq
 have g:=fun (L:List (List AV)) k=>zb7 X1 L hq k
 have s0:=fun (L:List (List AV)) v=>zjq X1 L hq v
 have pl:=fun L:List (List AV)=>zgw X1 L hq
 have aa:=fun L M:List (List AV)=>List.append_assoc X1 L M
 have hmk:=fun S T=>zor ss.length (by omega) S T
 have hmn:=fun S T=>zor n (by omega) S T
 simp only [ir26,go_sem,h79,show pure 79=false from rfl,shStore,shV,shVs,hsv,hsx,keepR,keepT,ownTop,hq,g0,g,s0,pl,aa,hmk]
 obtain ⟨A,hAe⟩: ∃A,A=[.v (.slice none 0 0),.v (.slice none 0 0)]::ss.map u8::X1:=⟨_,rfl⟩
 have hcons: ∀L:List (List AV),[.v (.slice none 0 0),.v (.slice none 0 0)]::ss.map u8::(X1++L)=A++L:=by rw [hAe];exact fun L=>rfl
 have hA1: ∀L:List (List AV),(A++L)[1]? =some (ss.map u8):=fun L=>by rw [hAe];rfl
 have hA0: ∀L:List (List AV),(A++L)[0]? =some [.v (.slice none 0 0),.v (.slice none 0 0)]:=fun L=>by rw [hAe];rfl
 have hA0s: ∀(L:List (List AV)) v,(A++L).set 0 v=(v::ss.map u8::X1)++L:=fun L v=>by rw [hAe];rfl
 have hAp:A.length=q+1+1:=by rw [hAe];simp [hq]
 rw [←hAe] at hcal
 simp only [hcons]
 obtain ⟨p,hp⟩: ∃p,p=q+1+1:=⟨_,rfl⟩
 have hp1:q+1+1=p:=hp.symm
 have hp2:q+2+1+1=p+2:=by omega
 rw [←hp] at hAp
 clear hp g0 g s0 pl aa hq hsx
 simp only [hp1,hp2]
 have g0:=fun L=>zdm A L hAp
 have g:=fun L k=>zb7 A L hAp k
 have s0:=fun L v=>zjq A L hAp v
 have s':=fun L k v=>zes A L hAp k v
 have pl:=fun L=>zgw A L hAp
 have pt:=fun L k=>zdl A L hAp k
 have aa:=fun L M:List (List AV)=>List.append_assoc A L M
 have l0:(0<p+2)=True:=eT (by omega)
 have l0':(1<p+2)=True:=eT (by omega)
 have l1:(p<p+2)=True:=eT (by omega)
 have l2:(p+1<p+2)=True:=eT (by omega)
 have h2p:2≤p:=by rw [←hp1];omega
 have h256: ∀s∈ss,s<256:=fun s hs=>Nat.lt_of_lt_of_le (hsm s hs) h2n
 generalize hg:lim (headed pure (run L) true _ lp26_0 _ _) _ _=o
 obtain ⟨x,en,s,rfl,h2⟩: ∃x en s,o=some (x,en,s)∧_:=by rw [←hg];exact zmw A hcal p hAp h2p n ss.length (by omega) 0 (List.replicate ss.length 0) ⟨by omega,by simp⟩ _ _ (by simp only [go_sem,hcal.okApp,hcal.renApp,pt,z1n,zz,l0,l0',l1,l2,Int.natCast_zero]<;>rfl)
 clear hg
 obtain ⟨rfl,e0,e4,e6,e8,rfl⟩:=h2
 have h91:=c91s ss h256 (by omega) h0 A p hAp h2p hA1
 simp only [go_sem,e0,e4,e6,e8,h91,g0,g,s0,s',pl,aa,hmk,hmn]
 have k0:(0<p+5)=True:=eT (by omega)
 have k0':(1<p+5)=True:=eT (by omega)
 have k1:(p<p+5)=True:=eT (by omega)
 have k2:(p+1<p+5)=True:=eT (by omega)
 have k3:(p+2<p+5)=True:=eT (by omega)
 have k4:(p+3<p+5)=True:=eT (by omega)
 have k5:(p+4<p+5)=True:=eT (by omega)
 generalize hg:lim (headed pure (run L) true _ lp26_2 _ _) _ _=o
 obtain ⟨x,en,s,rfl,h2⟩: ∃x en s,o=some (x,en,s)∧_:=by rw [←hg];exact zmu A hcal p hAp h2p ss hA1 n (by omega) hn hsm (ordG ss) (zm7 ss) (zju ss) 0 (List.replicate ss.length 0) (List.replicate n 0) ⟨by omega,by simp,by simp⟩ _ _ (by simp only [go_sem,e0,e4,e6,e8,hcal.okApp,hcal.renApp,pt,z1n,zz,k0,k0',k1,k2,k3,k4,k5,Int.natCast_zero]<;>rfl)
 clear hg
 clear e0 e4 e6 e8
 rw [List.drop_zero] at h2
 have hgl:(growN ss n (ordG ss)).1.length=ss.length∧(growN ss n (ordG ss)).2.length=n:=by
  have key: ∀(l:List Nat) (UA:List Nat×List Nat),(l.foldl (stepI ss) UA).1.length=UA.1.length∧(l.foldl (stepI ss) UA).2.length=UA.2.length:=by
   intro l
   induction l with
   |nil=>intro UA;exact ⟨rfl,rfl⟩
   |cons i r ih=>
    intro UA
    rw [List.foldl_cons]
    have h1:=ih (stepI ss UA i)
    have h2:=zj6 ss UA i
    exact ⟨h1.1.trans h2.1,h1.2.trans h2.2⟩
  have:=key (ordG ss) (List.replicate ss.length 0,List.replicate n 0)
  unfold growN
  simpa using this
 rw [show (ordG ss).foldl (stepI ss) (List.replicate ss.length 0,List.replicate n 0)=growN ss n (ordG ss) from rfl] at h2
 generalize growN ss n (ordG ss)=UW at*
 obtain ⟨U,W⟩:=UW
 dsimp only at hgl h2
 obtain ⟨rfl,e4,e10,rfl⟩:=h2
 obtain ⟨A2,hA2l,hA2s,hA20⟩: ∃A2:List (List AV),A2.length=p∧(∀L,(A++L).set 0 [.rsl (p+2) 0 ss.length ss.length 1 false,.rsl (p+3) 0 n n 1 false]=A2++L)∧(∀L,(A2++L)[0]? =some [.rsl (p+2) 0 ss.length ss.length 1 false,.rsl (p+3) 0 n n 1 false]):=by
  refine ⟨[.rsl (p+2) 0 ss.length ss.length 1 false,.rsl (p+3) 0 n n 1 false]::ss.map u8::X1,?_,fun L=>hA0s L _,fun L=>rfl⟩
  rw [←hAp,hAe];rfl
 have gA:=fun L k=>zb7 A2 L hA2l k
 have f1:=fun S T h=>zal ⟨S,T⟩ (p+2) ss.length U hgl.1 h
 have f2:=fun S T h=>zal ⟨S,T⟩ (p+3) n W hgl.2 h
 have f1': ∀L,fin ⟨A2++([.rsl 1 0 ss.length ss.length 1 true]::L),[]⟩ (.rsl (p+2) 0 ss.length ss.length 1 false)=fin ⟨A2++([.rsl 1 0 ss.length ss.length 1 true]::L),[]⟩ (.rsl (p+2) 0 ss.length ss.length 1 false):=fun _=>rfl
 simp only [go_sem,e4,e10,g,hA0,hA2s,hA20]
 rw [show fin _ (AV.rsl (p+2) 0 ss.length ss.length 1 false)=sl 1 false (U.map J) from zal _ _ _ U hgl.1 (by rw [gA];rfl),show fin _ (AV.rsl (p+3) 0 n n 1 false)=sl 1 false (W.map J) from zal _ _ _ W hgl.2 (by rw [gA];rfl)]
 rfl
attribute [local go_sem] m_ x_ l_ k_ o_ t_ a_ s_ q_ b_ c_ u_ g_ zl za zg zm z0g z0f ze zi zj z6 zh z0h
theorem loop23 (n1 n2:Bool)(xs ys:List (List Int))(hl:xs.length=ys.length)(hlen:xs.length<1000000)(hlx: ∀x∈xs,x.length<1000000)(i:Nat)(hok:i≤xs.length)(env:Env)(st:St)
  (hg:gcAV true 0 0 (canon env [0,1,5]) st=([(0,sl 1 n1 (xs.map tAV)),(1,sl 1 n2 (ys.map tAV)),(5,I i)],⟨[],[]⟩)):
  ∃x_1 en s,lim (headed pure (run L) true [0,1,5] lp23_0 0 0) env st=some (x_1,en,s)∧(if xs.drop i=ys.drop i then x_1=.exit 0 else x_1=.ret∧en.get 4=B false):=by
 refine z7 (α:=Nat) (fun i=>xs.length-i) (fun i=>i≤xs.length) (fun i=>([(0,sl 1 n1 (xs.map tAV)),(1,sl 1 n2 (ys.map tAV)),(5,I i)],⟨[],[]⟩)) (fun i x_1 en s=>if xs.drop i=ys.drop i then x_1=.exit 0 else x_1=.ret∧en.get 4=B false) (fun i hok=> ?_) i hok env st hg
 by_cases h:i<xs.length
 ·have hx:=z08 tAV n1 xs i h
  have hy:=z08 tAV n2 ys i (by omega)
  have hs:=zd i (by omega)
  have hd:xs.drop i=xs[i]::xs.drop (i+1):=List.drop_eq_getElem_cons h
  have hd2:ys.drop i=ys[i]::ys.drop (i+1):=List.drop_eq_getElem_cons (by omega)
  have hlt:((i:Int)<(xs.length:Int))=True:=eT (by omega)
  have ha:=hlx xs[i] (List.getElem_mem h)
  rw [hd,hd2]
  generalize xs[i]=a at*
  generalize ys[i]'(by omega)=b at*
  have h22: ∀st,run L 22 [tAV a,tAV b] st=some (B (decide (a=b)),st):=fun st=>c22 true true a b ha st
  by_cases p:a=b
  ·rw [decide_eq_true p] at h22
   simp only [go_sem,lp23_0,hx,hy,hlt,h22,hs,lm_]
   refine ⟨i+1,by simp only [go_sem,z3,z4,z5]<;>rfl,?_,?_,fun x en s hq=> ?_⟩
   ·omega
   ·omega
   ·simp only [List.cons.injEq,p,true_and];exact hq
  ·rw [decide_eq_false p] at h22
   simp only [go_sem,lp23_0,hx,hy,hlt,h22,lm_]
   rw [if_neg (by simp [p])];trivial
 ·have hd:xs.drop i=[]:=List.drop_eq_nil_of_le (by omega)
  have hd2:ys.drop i=[]:=List.drop_eq_nil_of_le (by omega)
  have hlt:((i:Int)<(xs.length:Int))=False:=eF (by omega)
  simp only [go_sem,lp23_0,hlt,lm_]
  rw [hd,hd2];simp
theorem c23 (n1 n2:Bool)(xs ys:List (List Int))(hlen:xs.length<1000000)(hlx: ∀x∈xs,x.length<1000000)(st:St):run L 23 [sl 1 n1 (xs.map tAV),sl 1 n2 (ys.map tAV)] st=some (B (decide (xs=ys)),st):=by
 rw [run_pure (fn:=ir23) rfl rfl]
 by_cases hl:xs.length=ys.length
 ·simp only [ir23,go_sem,lm_,hl]
  generalize hg:lim (headed pure (run L) true _ lp23_0 _ _) _ _=o
  obtain ⟨x,en,s,rfl,h2⟩: ∃x en s,o=some (x,en,s)∧_:=by rw [←hg];exact loop23 n1 n2 xs ys hl hlen hlx 0 (by omega) _ _ (by simp only [go_sem]<;>rfl)
  clear hg
  simp only [List.drop_zero] at h2
  by_cases h:xs=ys
  ·rw [if_pos h] at h2
   subst h2
   simp only [go_sem,h]
  ·rw [if_neg h] at h2
   obtain ⟨rfl,h3⟩:=h2
   simp only [go_sem,h3,h]
 ·have hl2:((xs.length:Int)=(ys.length:Int))=False:=eF (by omega)
  have hne: ¬xs=ys:=fun h=>hl (by rw [h])
  simp only [ir23,go_sem,lm_,hl2,hne]
theorem c23M (n1 n2:Bool)(xs ys:List Nat)(hlen:xs.length<1000000)(st:St):run L 23 [sl 1 n1 (xs.map tM),sl 1 n2 (ys.map tM)] st=some (B (decide (xs.map memb=ys.map memb)),st):=by
 have:=c23 n1 n2 (xs.map memb) (ys.map memb) (by simpa using hlen) (fun x hx=>by
  rw [List.mem_map] at hx
  obtain ⟨m,_,rfl⟩:=hx
  have:=z03 m
  omega) st
 rw [List.map_map,List.map_map] at this
 exact this
attribute [local go_sem] m_ x_ l_ k_ o_ t_ a_ s_ q_ b_ c_ u_ g_ ze zi zj z6 zh z0h
def cellsI (D:List Int) (k:Nat):List AV:=(D++List.replicate k 0).map I
theorem zd7 (D:List Int)(k:Nat):(cellsI D k).length=D.length+k:=by
 unfold cellsI;simp
theorem flatI: ∀A:List Int,flatAV (A.map I)=A.map I
 | []=>rfl
 |p::r=>by
  have:=flatI r
  unfold flatAV at this⊢
  rw [List.map_cons,List.flatMap_cons,this];rfl
theorem zlb (D A:List Int)(k c:Nat)(hc:c=D.length+(A.length+k))(h0:0<c)(T:List Nat):
  appendmAV 1 false (.rsl 0 0 D.length c 1 false) (A.map I) ⟨[cellsI D (A.length+k)],T⟩=some (.rsl 0 0 (D++A).length c 1 false,⟨[cellsI (D++A) k],T⟩):=by
 have hl:=zd7 D (A.length+k)
 simp only [appendmAV,List.getElem?_cons_zero,lm_,Nat.zero_add,flatI]
 rw [if_pos ⟨trivial,trivial,by omega,by omega,by omega⟩,if_pos (by omega),if_pos (by omega),List.length_append]
 have e:(cellsI D (A.length+k)).take (D.length*1)++A.map I++(cellsI D (A.length+k)).drop (D.length*1+A.length)=cellsI (D++A) k:=by
  unfold cellsI
  rw [Nat.mul_one,List.map_append,List.map_append,List.take_left' (by simp),List.drop_append,List.drop_of_length_le (by simp),List.nil_append]
  rw [lm_,Nat.add_sub_cancel_left,←List.map_drop,List.drop_replicate,Nat.add_sub_cancel_left,List.map_append]
 rw [e];rfl
def catX (n1 n2:Bool) (A B:List Int):AV:=.lst .any 1 [sl 1 n1 (A.map I),sl 1 n2 (B.map I)]
def catT (A B:List Int):Nat→Nat
 |0=>0
 |1=>A.length
 |_=>A.length+B.length
theorem zkc (n1 n2:Bool)(A B:List Int)(hA:A.length<1000)(hB:B.length<1000)(i:Nat)(hok:i≤2)(env:Env)(st:St)
  (hg:gcAV true 0 0 (canon env [0,3,9,10,11]) st=([(0,catX n1 n2 A B),(3,I (catT A B i)),(9,catX n1 n2 A B),(10,I 2),(11,I i)],⟨[],[]⟩)):
  ∃x_1 en s,lim (headed pure (run L) true [0,3,9,10,11] lp111_0 0 0) env st=some (x_1,en,s)∧(x_1=.exit 0∧en.get 0=catX n1 n2 A B∧en.get 3=I (catT A B 2)∧s=⟨[],[]⟩):=by
 refine z7 (α:=Nat) (fun i=>2-i) (fun i=>i≤2) (fun i=>([(0,catX n1 n2 A B),(3,I (catT A B i)),(9,catX n1 n2 A B),(10,I 2),(11,I i)],⟨[],[]⟩)) (fun i x_1 en s=>x_1=.exit 0∧en.get 0=catX n1 n2 A B∧en.get 3=I (catT A B 2)∧s=⟨[],[]⟩) (fun i hok=> ?_) i hok env st hg
 have hX:catX n1 n2 A B=.lst .any 1 [sl 1 n1 (A.map I),sl 1 n2 (B.map I)]:=rfl
 rcases (show i=0∨i=1∨i=2 by omega) with rfl|rfl|rfl
 ·have h0:indexSAV 1 (.lst .any 1 [sl 1 n1 (A.map I),sl 1 n2 (B.map I)]) (.v (.int .i64 0))=some (.eptr (sl 1 n1 (A.map I)) 0):=rfl
  have hlt:(((0:Nat):Int)<2)=True:=eT (by omega)
  have hw1:IntKind.i64.wrap (((catT A B 0:Nat):Int)+(A.length:Int))=((catT A B 1:Nat):Int):=by show IntKind.i64.wrap ((0:Int)+(A.length:Int))=(A.length:Int);rw [z06]<;>omega
  have hs:IntKind.i64.wrap 1=1:=rfl
  have hn:((catT A B 1:Int)<0)=False:=eF (by omega)
  simp only [go_sem,lp111_0,hX,h0,hlt,hw1,hs,hn,lm_]
  refine ⟨0+1,by simp only [go_sem,z3,z4,z5,hX]<;>rfl,?_,?_,fun x en s hq=> ?_⟩
  ·omega
  ·omega
  ·exact hq
 ·have h0:indexSAV 1 (.lst .any 1 [sl 1 n1 (A.map I),sl 1 n2 (B.map I)]) (.v (.int .i64 1))=some (.eptr (sl 1 n2 (B.map I)) 0):=rfl
  have hlt:(((1:Nat):Int)<2)=True:=eT (by omega)
  have hw1:IntKind.i64.wrap (((catT A B 1:Nat):Int)+(B.length:Int))=((catT A B 2:Nat):Int):=by show IntKind.i64.wrap ((A.length:Int)+(B.length:Int))=((A.length+B.length:Nat):Int);rw [z06]<;>omega
  have hs:IntKind.i64.wrap 2=2:=rfl
  have hn:((catT A B 2:Int)<0)=False:=eF (by omega)
  simp only [go_sem,lp111_0,hX,h0,hlt,hw1,hs,hn,lm_]
  refine ⟨1+1,by simp only [go_sem,z3,z4,z5,hX]<;>rfl,?_,?_,fun x en s hq=> ?_⟩
  ·omega
  ·omega
  ·exact hq
 ·have hlt:(((2:Nat):Int)<2)=False:=eF (by omega)
  simp only [go_sem,lp111_0,hlt]
theorem c139 (t:Nat)(h:1≤t)(h2:t<10000):run L 139 [.v (.slice none 0 0),I t] ⟨[],[]⟩=some (.rsl 0 0 0 t 1 false,⟨[cellsI [] t],[]⟩):=by
 rw [zc (fn:=ir139) rfl rfl]
 have p1:((t:Int)<0)=False:=eF (by omega)
 have p2:((0:Int)<(t:Int))=True:=eT (by omega)
 have hw:IntKind.i64.wrap ((t:Int)-0)=(t:Int):=by rw [z06]<;>omega
 have hg:growAV 1 false [.v (.int .i64 0)] ⟨[],[]⟩ (.v (.slice none 0 0)) (.v (.int .i64 (t:Int)))=some (.rsl 0 0 t t 1 false,⟨[cellsI [] t],[]⟩):=by
  have hm:t≤maxGrow:=by unfold maxGrow;omega
  simp [growAV,makeAV,natOf,hm,show t≠0 by omega,cellsI]
 have hs:sliceAV 1 (.rsl 0 0 t t 1 false) none (some (.v (.int .i64 0))) none=some (.rsl 0 0 0 t 1 false):=by
  simp [sliceAV,natOr,natOf]
 have hs0:sliceAV 1 (.v (.slice none 0 0)) none (some (.v (.int .i64 0))) none=some (.v (.slice none 0 0)):=rfl
 have hw0:IntKind.i64.wrap 0=0:=rfl
 simp only [ir139,go_sem,p1,p2,hw0,hw,hg,hs,hs0,capAV]
def catD (A B:List Int):Nat→List Int
 |0=> []
 |1=>A
 |_=>A++B
theorem zg6 (k:Nat)(D:List Int)(m:Nat):okRefs k (cellsI D m)=true:=z0w _ _
theorem zb1 (n:Nat)(T:List Nat)(acc:List (Nat×Nat))(D:List Int)(m:Nat):renCells n T acc (cellsI D m)=(cellsI D m,acc):=zy _ _ _ _
theorem zkb (n1 n2:Bool)(A B:List Int)(c:Nat)(hc:c=A.length+B.length)(h0:0<c)(i:Nat)(hok:i≤2)(env:Env)(st:St)
  (hg:gcAV true 1 0 (canon env [6,25,26,27]) st=([(6,.rsl 0 0 (catD A B i).length c 1 false),(25,catX n1 n2 A B),(26,I 2),(27,I i)],⟨[cellsI (catD A B i) (c-(catD A B i).length)],[]⟩)):
  ∃x_1 en s,lim (headed pure (run L) true [6,25,26,27] lp111_1 1 0) env st=some (x_1,en,s)∧(x_1=.exit 2∧en.get 6=.rsl 0 0 c c 1 false∧s=⟨[cellsI (A++B) 0],[]⟩):=by
 refine z7 (α:=Nat) (fun i=>2-i) (fun i=>i≤2) (fun i=>([(6,.rsl 0 0 (catD A B i).length c 1 false),(25,catX n1 n2 A B),(26,I 2),(27,I i)],⟨[cellsI (catD A B i) (c-(catD A B i).length)],[]⟩)) (fun i x_1 en s=>x_1=.exit 2∧en.get 6=.rsl 0 0 c c 1 false∧s=⟨[cellsI (A++B) 0],[]⟩) (fun i hok=> ?_) i hok env st hg
 have hX:catX n1 n2 A B=.lst .any 1 [sl 1 n1 (A.map I),sl 1 n2 (B.map I)]:=rfl
 rcases (show i=0∨i=1∨i=2 by omega) with rfl|rfl|rfl
 ·have h1:indexSAV 1 (.lst .any 1 [sl 1 n1 (A.map I),sl 1 n2 (B.map I)]) (.v (.int .i64 0))=some (.eptr (sl 1 n1 (A.map I)) 0):=rfl
  have hs:IntKind.i64.wrap 1=1:=rfl
  have ha:=zlb [] A B.length c (by simp;omega) h0 []
  rw [List.nil_append,show A.length+B.length=c by omega] at ha
  have e0:catD A B 0=[]:=rfl
  have e1:c-([]:List Int).length=c:=by simp
  have e2:([]:List Int).length=0:=rfl
  have e3:c-A.length=B.length:=by omega
  have e4:catD A B 1=A:=rfl
  rw [e2] at ha e1
  rw [e0,e2,e1]
  simp only [go_sem,lp111_1,hX,h1,hs,ha]
  refine ⟨0+1,by simp only [go_sem,z3,z4,z5,hX,zg6,zb1,e3,e4]<;>rfl,?_,?_,fun x en s hq=> ?_⟩
  ·omega
  ·omega
  ·exact hq
 ·have h1:indexSAV 1 (.lst .any 1 [sl 1 n1 (A.map I),sl 1 n2 (B.map I)]) (.v (.int .i64 1))=some (.eptr (sl 1 n2 (B.map I)) 0):=rfl
  have hs:IntKind.i64.wrap 2=2:=rfl
  have ha:=zlb A B 0 c (by omega) h0 []
  rw [Nat.add_zero] at ha
  have e0:catD A B 1=A:=rfl
  have e3:c-A.length=B.length:=by omega
  have e4:catD A B 2=A++B:=rfl
  have e5:c-(A++B).length=0:=by rw [List.length_append];omega
  rw [e0,e3]
  simp only [go_sem,lp111_1,hX,h1,hs,ha]
  refine ⟨1+1,by simp only [go_sem,z3,z4,z5,hX,zg6,zb1,e4,e5]<;>rfl,?_,?_,fun x en s hq=> ?_⟩
  ·omega
  ·omega
  ·exact hq
 ·have hlt:(((2:Nat):Int)<2)=False:=eF (by omega)
  have e4:catD A B 2=A++B:=rfl
  have e5:(A++B).length=c:=by rw [List.length_append];omega
  rw [e4,e5,Nat.sub_self]
  simp only [go_sem,lp111_1,hlt]
theorem zni (st:St)(l m:Nat)(X:List Int)(hm:X.length=m)(h:st.store[l]? =some (X.map I)):fin st (.rsl l 0 m m 1 false)=sl 1 false (X.map I):=by
 subst hm
 have hp:pubs (X.map I)=X.map I:=zdk I (fun _=>rfl) X
 have e:fin st (.rsl l 0 X.length X.length 1 false)=.lst .any 1 (group false 1 X.length (pubs ((X.map I).drop 0))):=by
  simp only [fin,h]
  rw [if_pos (by simp)]
 rw [e,List.drop_zero,hp,zcq I (fun _=>rfl)]
 rfl
theorem znu (n:Nat): ∀xs:List Int,shVs n (xs.map I)=xs.map I
 | []=>rfl
 |x::r=>by simp only [List.map_cons,shVs,shV,znu n r]
theorem c111 (n1 n2:Bool)(A B:List Int)(hA:A.length<1000)(hB:B.length<1000)(h0:0<A.length+B.length)(st:St):run L 111 [catX n1 n2 A B] st=some (sl 1 false ((A++B).map I),st):=by
 rw [run_pure (fn:=ir111) rfl rfl]
 have hX:catX n1 n2 A B=.lst .any 1 [sl 1 n1 (A.map I),sl 1 n2 (B.map I)]:=rfl
 simp only [ir111,go_sem,hX]
 generalize hg:lim (headed pure (run L) true _ lp111_0 _ _) _ _=o
 obtain ⟨x,en,s,rfl,h2⟩: ∃x en s,o=some (x,en,s)∧_:=by rw [←hg];exact zkc n1 n2 A B hA hB 0 (by omega) _ _ (by simp only [go_sem,hX,show catT A B 0=0 from rfl,Int.natCast_zero]<;>rfl)
 clear hg
 obtain ⟨rfl,e0,e3,rfl⟩:=h2
 have hct:catT A B 2=A.length+B.length:=rfl
 rw [hct] at e3
 rw [hX] at e0
 have h139:=c139 (A.length+B.length) (by omega) (by omega)
 have hcl:(cellsI [] (A.length+B.length)).length=A.length+B.length:=by rw [zd7];simp
 have hsv:shVs 0 (cellsI [] (A.length+B.length))=cellsI [] (A.length+B.length):=by
  unfold cellsI
  exact znu 0 _
 simp only [go_sem,e0,e3,h139,show pure 139=false from rfl,shStore,shV,shVs,hsv]
 generalize hg:lim (headed pure (run L) true _ lp111_1 _ _) _ _=o
 obtain ⟨x,en,s,rfl,h2⟩: ∃x en s,o=some (x,en,s)∧_:=by rw [←hg];exact zkb n1 n2 A B (A.length+B.length) rfl h0 0 (by omega) _ _ (by simp only [go_sem,e0,e3,hX,zg6,zb1,show catD A B 0=[] from rfl,List.length_nil,Nat.sub_zero]<;>rfl)
 clear hg
 obtain ⟨rfl,e6,rfl⟩:=h2
 have hf:=zni ⟨[cellsI (A++B) 0],[]⟩ 0 (A.length+B.length) (A++B) (by simp) (by unfold cellsI;simp)
 simp only [go_sem,e6,hf]
theorem c111J (n1 n2:Bool)(A B:List Nat)(hA:A.length<1000)(hB:B.length<1000)(h0:0<A.length+B.length)(st:St):run L 111 [.lst .any 1 [sl 1 n1 (A.map J),sl 1 n2 (B.map J)]] st=some (sl 1 false ((A++B).map J),st):=by
 have:=c111 n1 n2 (A.map fun (x:Nat)=>(x:Int)) (B.map fun (x:Nat)=>(x:Int)) (by simpa using hA) (by simpa using hB) (by simpa using h0) st
 unfold catX at this
 rw [←List.map_append,List.map_map,List.map_map,List.map_map] at this
 exact this
attribute [local go_sem] m_ x_ l_ k_ o_ t_ a_ s_ q_ b_ c_ u_ g_ zl za zg zm z0g z0f ze zi zj z6 zh z0h
def badC (m:Nat) (c:Int):Bool:=decide (c<0)||decide ((m:Int)<c)
def lostC (U:List Nat):Bool:=(List.range U.length).any fun c=>decide (itC U U.length (c+1)≠0)
def laneS (L:List Nat) (cu:Nat×Nat):List Nat:=(L.set (cu.1+1) (L.getD (cu.1+1) 0+1)).set cu.2 ((L.set (cu.1+1) (L.getD (cu.1+1) 0+1)).getD cu.2 0+1)
def laneF (U:List Nat):Nat→List Nat→List Nat→List Nat
 |_,[],L=>L
 |c,u::r,L=>laneF U (c+1) r (laneS L (c,u))
def laneL (U:List Nat):List Nat:=laneF U 0 U (List.replicate (U.length+1) 0)
def lackB (W:List Nat) (c k:Nat):Bool:=decide (k<3)&&decide (c ∉ W)
def lackF (W:List Nat):Nat→List Nat→Bool
 |_,[]=>false
 |c,k::r=>lackB W c k||lackF W (c+1) r
def walkO (U:List Nat) (a:Nat):Nat→Nat→List Nat→List Nat
 |0,_,out=>out
 |f+1,at',out=>if at'=0 then out else walkO U a f (upC U at') (out.set (at'-1) (out.getD (at'-1) 0|||2^a))
def outF (U:List Nat):Nat→List Nat→List Nat→List Nat
 |_,[],out=>out
 |a,w::r,out=>outF U (a+1) r (walkO U a U.length w out)
def outL (U W:List Nat):List Nat:=outF U 0 W (List.replicate U.length 0)
def srtB (O:List Nat):Bool:=(List.range (O.length-1)).all fun j=> !lexLt (memb (O.getD (j+1) 0)) (memb (O.getD j 0))
def readN (U W:List Nat):Int×List Nat:=
 if lostC U=true then (12,[]) else if W.getD 0 0≠0 then (5,[]) else if lackF W 0 (laneL U)=true then (4,[]) else if srtB (outL U W)=true then (0,outL U W) else (7,[])
theorem zaj (U:List Nat)(t c:Nat):itC U (t+1) c=upC U (itC U t c):=by
 have:=z0d U t 1 c
 rw [this];rfl
theorem zj3 {U:List Nat} {m:Nat} (h: ∀u∈U,u≤m)(c:Nat):upC U c≤m:=by
 unfold upC
 split
 ·omega
 ·rw [List.getD_eq_getElem?_getD]
  cases hc:U[c-1]? with
  |none=>simp
  |some u=>exact h u (List.mem_of_getElem? hc)
theorem zkj {U:List Nat} {m:Nat} (h: ∀u∈U,u≤m): ∀(t c:Nat),c≤m→itC U t c≤m
 |0,_,hc=>hc
 |t+1,c,_=>zkj h t _ (zj3 h c)
theorem zh6 (x y:AV)(hx1: ∀n,okRef n x=true)(hx2: ∀n T acc,ren1 n T acc x=(x,acc))(hy1: ∀n,okRef n y=true)(hy2: ∀n T acc,ren1 n T acc y=(y,acc))(m:Nat)(nl:Bool)(A:List Int)(hA:A.length<1000)(i:Nat)(hok:i≤A.length)(env:Env)(st:St)
  (hg:gcAV true 1 0 (canon env [3,6,44,45,46]) st=([(3,.ptr 0 0),(6,J m),(44,sl 1 nl (A.map I)),(45,J A.length),(46,J i)],⟨[[x,y]],[]⟩)):
  ∃x_1 en s,lim (headed pure (run L) true [3,6,44,45,46] lp96_0 1 0) env st=some (x_1,en,s)∧(if (A.drop i).any (badC m)=true then x_1=.ret∧en.get 4=.v (.slice none 0 0)∧en.get 5=I 2 else x_1=.exit 1∧en.get 3=.ptr 0 0∧en.get 6=J m∧s=⟨[[x,y]],[]⟩):=by
 refine z7 (α:=Nat) (fun i=>A.length-i) (fun i=>i≤A.length) (fun i=>([(3,.ptr 0 0),(6,J m),(44,sl 1 nl (A.map I)),(45,J A.length),(46,J i)],⟨[[x,y]],[]⟩)) (fun i x_1 en s=>if (A.drop i).any (badC m)=true then x_1=.ret∧en.get 4=.v (.slice none 0 0)∧en.get 5=I 2 else x_1=.exit 1∧en.get 3=.ptr 0 0∧en.get 6=J m∧s=⟨[[x,y]],[]⟩) (fun i hok=> ?_) i hok env st hg
 by_cases h:i<A.length
 ·have hx:=zk nl A i h
  have hs:=zd i (by omega)
  have hd:A.drop i=A[i]::A.drop (i+1):=List.drop_eq_getElem_cons h
  have hlt:((i:Int)<(A.length:Int))=True:=eT (by omega)
  rw [hd,List.any_cons]
  generalize A[i]=a at*
  by_cases p1:a<0
  ·have e:badC m a=true:=by unfold badC;rw [decide_eq_true p1,Bool.true_or]
   rw [e,Bool.true_or]
   simp only [go_sem,lp96_0,hlt,hx,p1]
  ·by_cases p2:(m:Int)<a
   ·have e:badC m a=true:=by unfold badC;rw [decide_eq_true p2,Bool.or_true]
    rw [e,Bool.true_or]
    simp only [go_sem,lp96_0,hlt,hx,p1,p2]
   ·have e:badC m a=false:=by unfold badC;rw [decide_eq_false p1,decide_eq_false p2];rfl
    rw [e,Bool.false_or]
    simp only [go_sem,lp96_0,hlt,hx,p1,p2,hs]
    refine ⟨i+1,by simp only [go_sem,z3,z4,z5,hx1,hx2,hy1,hy2]<;>rfl,?_,?_,fun x en s hq=> ?_⟩
    ·omega
    ·omega
    ·exact hq
 ·have hd:A.drop i=[]:=List.drop_eq_nil_of_le (by omega)
  have hlt:((i:Int)<(A.length:Int))=False:=eF (by omega)
  rw [hd,List.any_nil]
  simp only [go_sem,lp96_0,hlt]
theorem zh5 (y:AV)(hy1: ∀n,okRef n y=true)(hy2: ∀n T acc,ren1 n T acc y=(y,acc))(nu:Bool)(U:List Nat)(hU: ∀u∈U,u≤U.length)(hl:U.length≤13)(c:Nat)(hc:c≤U.length)(t:Nat)(w:Nat)(hok:t≤U.length∧w=itC U t c∧w≤U.length)(env:Env)(st:St)
  (hg:gcAV true 1 0 (canon env [3,6,10,60,61,66,67]) st=([(3,.ptr 0 0),(6,J U.length),(10,J w),(60,J U.length),(61,J (c-1)),(66,J U.length),(67,J t)],⟨[[sl 1 nu (U.map J),y]],[]⟩)):
  ∃x_1 en s,lim (headed pure (run L) true [3,6,10,60,61,66,67] lp96_1 1 0) env st=some (x_1,en,s)∧(x_1=.exit 5∧en.get 3=.ptr 0 0∧en.get 6=J U.length∧en.get 10=J (itC U U.length c)∧en.get 60=J U.length∧en.get 61=J (c-1)∧s=⟨[[sl 1 nu (U.map J),y]],[]⟩):=by
 refine z7 (α:=Nat×Nat) (fun ⟨t,w⟩=>U.length-t) (fun ⟨t,w⟩=>t≤U.length∧w=itC U t c∧w≤U.length) (fun ⟨t,w⟩=>([(3,.ptr 0 0),(6,J U.length),(10,J w),(60,J U.length),(61,J (c-1)),(66,J U.length),(67,J t)],⟨[[sl 1 nu (U.map J),y]],[]⟩)) (fun ⟨t,w⟩ x_1 en s=>x_1=.exit 5∧en.get 3=.ptr 0 0∧en.get 6=J U.length∧en.get 10=J (itC U U.length c)∧en.get 60=J U.length∧en.get 61=J (c-1)∧s=⟨[[sl 1 nu (U.map J),y]],[]⟩) (fun ⟨t,w⟩ hok=> ?_) ⟨t,w⟩ hok env st hg
 simp only at hok
 obtain ⟨h1,h2,h3⟩:=hok
 dsimp only at h1 h2 h3⊢
 by_cases h:t<U.length
 ·have hs:=zd t (by omega)
  have hlt:((t:Int)<(U.length:Int))=True:=eT (by omega)
  have hit:=zaj U t c
  rw [←h2] at hit
  by_cases p:0<w
  ·have q:((0:Int)<(w:Int))=True:=eT (by omega)
   have hw:=z13 w p (by omega)
   have hx:=z08 J nu U (w-1) (by omega)
   have hu:upC U w=U[w-1]'(by omega):=by
    unfold upC;rw [if_neg (by omega),List.getD_eq_getElem?_getD,List.getElem?_eq_getElem (by omega)];rfl
   have hle:=zj3 hU w
   rw [hu] at hit hle
   generalize U[w-1]'(by omega)=v at*
   simp only [go_sem,lp96_1,hlt,hs,q,hw,hx]
   refine ⟨(t+1,v),by simp only [go_sem,z3,z4,z5,hy1,hy2]<;>rfl,?_,?_,fun x en s hq=> ?_⟩
   ·dsimp only;exact ⟨by omega,hit.symm,hle⟩
   ·dsimp only;omega
   ·exact hq
  ·have q:((0:Int)<(w:Int))=False:=eF (by omega)
   have w0:w=0:=by omega
   simp only [go_sem,lp96_1,hlt,hs,q]
   refine ⟨(t+1,w),by simp only [go_sem,z3,z4,z5,hy1,hy2]<;>rfl,?_,?_,fun x en s hq=> ?_⟩
   ·dsimp only;exact ⟨by omega,by rw [hit,w0];rfl,h3⟩
   ·dsimp only;omega
   ·exact hq
 ·have e:t=U.length:=by omega
  subst e
  have hlt:((U.length:Int)<(U.length:Int))=False:=eF (by omega)
  rw [←h2]
  simp only [go_sem,lp96_1,hlt]
def lostTo (U:List Nat) (i:Nat):Bool:=(List.range' i (U.length-i)).any fun c=>decide (itC U U.length (c+1)≠0)
theorem zmj (y:AV)(hy1: ∀n,okRef n y=true)(hy2: ∀n T acc,ren1 n T acc y=(y,acc))(nu:Bool)(U:List Nat)(hU: ∀u∈U,u≤U.length)(hl:U.length≤13)(i:Nat)(hok:i≤U.length)(env:Env)(st:St)
  (hg:gcAV true 1 0 (canon env [3,6,60,61]) st=([(3,.ptr 0 0),(6,J U.length),(60,J U.length),(61,J i)],⟨[[sl 1 nu (U.map J),y]],[]⟩)):
  ∃x_1 en s,lim (headed pure (run L) true [3,6,60,61] lp96_2 1 0) env st=some (x_1,en,s)∧(if lostTo U i=true then x_1=.ret∧en.get 4=.v (.slice none 0 0)∧en.get 5=I 12 else x_1=.exit 3∧en.get 3=.ptr 0 0∧en.get 6=J U.length∧s=⟨[[sl 1 nu (U.map J),y]],[]⟩):=by
 refine z7 (α:=Nat) (fun i=>U.length-i) (fun i=>i≤U.length) (fun i=>([(3,.ptr 0 0),(6,J U.length),(60,J U.length),(61,J i)],⟨[[sl 1 nu (U.map J),y]],[]⟩)) (fun i x_1 en s=>if lostTo U i=true then x_1=.ret∧en.get 4=.v (.slice none 0 0)∧en.get 5=I 12 else x_1=.exit 3∧en.get 3=.ptr 0 0∧en.get 6=J U.length∧s=⟨[[sl 1 nu (U.map J),y]],[]⟩) (fun i hok=> ?_) i hok env st hg
 by_cases h:i<U.length
 ·have hs:=zd i (by omega)
  have hlt:((i:Int)<(U.length:Int))=True:=eT (by omega)
  have e0:lostTo U i=(decide (itC U U.length (i+1)≠0)||lostTo U (i+1)):=by
   unfold lostTo
   rw [show U.length-i=(U.length-(i+1))+1 by omega,List.range'_succ,List.any_cons]
  by_cases p:itC U U.length (i+1)=0
  ·have e:lostTo U i=lostTo U (i+1):=by rw [e0,decide_eq_false (by simpa using p),Bool.false_or]
   rw [e]
   simp only [go_sem,lp96_2,hlt,hs]
   generalize hg:lim (headed pure (run L) true _ lp96_1 _ _) _ _=o
   obtain ⟨x,en,s,rfl,h2⟩: ∃x en s,o=some (x,en,s)∧_:=by rw [←hg];exact zh5 y hy1 hy2 nu U hU hl (i+1) (by omega) 0 (i+1) ⟨by omega,rfl,by omega⟩ _ _ (by simp only [go_sem,hy1,hy2,Int.natCast_zero,show i+1-1=i from rfl]<;>rfl)
   clear hg
   obtain ⟨rfl,e3,e6,e10,e60,e61,rfl⟩:=h2
   rw [show i+1-1=i from rfl] at e61
   rw [p] at e10
   have q:((0:Int)<((0:Nat):Int))=False:=eF (by omega)
   simp only [go_sem,lp96_2,e3,e6,e10,e60,e61,q,hs]
   refine ⟨i+1,by simp only [go_sem,z3,z4,z5,e3,e6,e60,hy1,hy2]<;>rfl,?_,?_,fun x en s hq=> ?_⟩
   ·omega
   ·omega
   ·exact hq
  ·have e:lostTo U i=true:=by rw [e0,decide_eq_true (by simpa using p),Bool.true_or]
   rw [e]
   simp only [go_sem,lp96_2,hlt,hs]
   generalize hg:lim (headed pure (run L) true _ lp96_1 _ _) _ _=o
   obtain ⟨x,en,s,rfl,h2⟩: ∃x en s,o=some (x,en,s)∧_:=by rw [←hg];exact zh5 y hy1 hy2 nu U hU hl (i+1) (by omega) 0 (i+1) ⟨by omega,rfl,by omega⟩ _ _ (by simp only [go_sem,hy1,hy2,Int.natCast_zero,show i+1-1=i from rfl]<;>rfl)
   clear hg
   obtain ⟨rfl,e3,e6,e10,e60,e61,rfl⟩:=h2
   rw [show i+1-1=i from rfl] at e61
   generalize itC U U.length (i+1)=z at*
   have q:((0:Int)<(z:Int))=True:=eT (by omega)
   simp only [go_sem,lp96_2,e3,e6,e10,e60,e61,q]
 ·have hlt:((i:Int)<(U.length:Int))=False:=eF (by omega)
  have e:lostTo U i=false:=by unfold lostTo;rw [show U.length-i=0 by omega];rfl
  rw [e]
  simp only [go_sem,lp96_2,hlt]
attribute [local go_sem] m_ x_ l_ k_ o_ t_ a_ s_ q_ b_ c_ u_ g_ zl za zg zm z0g z0f ze zi zj z6 zh z0h
theorem zbi (L:List Nat)(cu:Nat×Nat):(laneS L cu).length=L.length:=by unfold laneS;simp
theorem zcp (U:List Nat): ∀(us:List Nat) (c:Nat) (L:List Nat),(laneF U c us L).length=L.length
 | [],_,_=>rfl
 |u::r,c,L=>by
  show (laneF U (c+1) r (laneS L (c,u))).length=L.length
  rw [zcp U r,zbi]
theorem z15 (L:List Nat)(i v k:Nat):(L.set i v).getD k 0=if i=k∧k<L.length then v else L.getD k 0:=by
 rw [List.getD_eq_getElem?_getD,List.getD_eq_getElem?_getD,List.getElem?_set]
 by_cases h:i=k
 ·subst h
  by_cases h2:i<L.length
  ·simp [h2]
  ·rw [if_pos rfl,if_neg h2,if_neg (by simp [h2]),List.getElem?_eq_none (by omega)]
 ·rw [if_neg h,if_neg (by simp [h])]
theorem zh7 {Q:List Nat} {b:Nat} (h: ∀k,Q.getD k 0≤b)(cu:Nat×Nat): ∀k,(laneS Q cu).getD k 0≤b+2:=by
 intro k
 have h1: ∀k,(Q.set (cu.1+1) (Q.getD (cu.1+1) 0+1)).getD k 0≤b+1:=by
  intro k
  rw [z15]
  split
  ·have:=h (cu.1+1);omega
  ·have:=h k;omega
 unfold laneS
 rw [z15]
 split
 ·have:=h1 cu.2;omega
 ·have:=h1 k;omega
theorem zmi (y:AV)(hy1: ∀n,okRef n y=true)(hy2: ∀n T acc,ren1 n T acc y=(y,acc))(nu:Bool)(U:List Nat)(hU: ∀u∈U,u≤U.length)(hl:U.length≤13)(i:Nat)(Q:List Nat)(hok:i≤U.length∧Q.length=U.length+1∧∀k,Q.getD k 0≤2*i)(env:Env)(st:St)
  (hg:gcAV true 2 0 (canon env [3,6,11,90,91,92]) st=([(3,.ptr 0 0),(6,J U.length),(11,.rsl 1 0 (U.length+1) (U.length+1) 1 false),(90,sl 1 nu (U.map J)),(91,J U.length),(92,J i)],⟨[[sl 1 nu (U.map J),y],Q.map J],[]⟩)):
  ∃x_1 en s,lim (headed pure (run L) true [3,6,11,90,91,92] lp96_3 2 0) env st=some (x_1,en,s)∧(x_1=.exit 7∧en.get 3=.ptr 0 0∧en.get 6=J U.length∧en.get 11=.rsl 1 0 (U.length+1) (U.length+1) 1 false∧s=⟨[[sl 1 nu (U.map J),y],(laneF U i (U.drop i) Q).map J],[]⟩):=by
 refine z7 (α:=Nat×List Nat) (fun ⟨i,Q⟩=>U.length-i) (fun ⟨i,Q⟩=>i≤U.length∧Q.length=U.length+1∧∀k,Q.getD k 0≤2*i) (fun ⟨i,Q⟩=>([(3,.ptr 0 0),(6,J U.length),(11,.rsl 1 0 (U.length+1) (U.length+1) 1 false),(90,sl 1 nu (U.map J)),(91,J U.length),(92,J i)],⟨[[sl 1 nu (U.map J),y],Q.map J],[]⟩)) (fun ⟨i,Q⟩ x_1 en s=>x_1=.exit 7∧en.get 3=.ptr 0 0∧en.get 6=J U.length∧en.get 11=.rsl 1 0 (U.length+1) (U.length+1) 1 false∧s=⟨[[sl 1 nu (U.map J),y],(laneF U i (U.drop i) Q).map J],[]⟩) (fun ⟨i,Q⟩ hok=> ?_) ⟨i,Q⟩ hok env st hg
 simp only at hok
 obtain ⟨h1,h2,h3⟩:=hok
 dsimp only at h1 h2 h3⊢
 by_cases h:i<U.length
 ·have hs:=zd i (by omega)
  have hlt:((i:Int)<(U.length:Int))=True:=eT (by omega)
  have hx:=z08 J nu U i h
  have hd:U.drop i=U[i]::U.drop (i+1):=List.drop_eq_getElem_cons h
  have hu:=hU U[i] (List.getElem_mem h)
  have hlf:laneF U i (U[i]::U.drop (i+1)) Q=laneF U (i+1) (U.drop (i+1)) (laneS Q (i,U[i])):=rfl
  rw [hd,hlf]
  generalize U[i]=u at*
  have hsl:=zbi Q (i,u)
  have hse:laneS Q (i,u)=(Q.set (i+1) (Q.getD (i+1) 0+1)).set u ((Q.set (i+1) (Q.getD (i+1) 0+1)).getD u 0+1):=rfl
  have c1:(((i+1:Nat):Int)<((U.length+1:Nat):Int))=True:=eT (by omega)
  have c2:(i+1+1≤U.length+1)=True:=eT (by omega)
  have c3:((u:Int)<((U.length+1:Nat):Int))=True:=eT (by omega)
  have c4:(u+1≤U.length+1)=True:=eT (by omega)
  have g1:=getJ Q (i+1) (by omega)
  have hle:=zh7 h3 (i,u)
  have hw1:IntKind.i64.wrap (((Q.getD (i+1) 0:Nat):Int)+1)=((Q.getD (i+1) 0+1:Nat):Int):=zd _ (by have:=h3 (i+1);omega)
  have hs1:=setJ Q (i+1) (Q.getD (i+1) 0+1)
  have hQ1:(Q.set (i+1) (Q.getD (i+1) 0+1)).length=U.length+1:=by rw [List.length_set,h2]
  have hQ1b: ∀k,(Q.set (i+1) (Q.getD (i+1) 0+1)).getD k 0≤2*i+1:=by
   intro k
   rw [z15]
   split
   ·have:=h3 (i+1);omega
   ·have:=h3 k;omega
  generalize Q.getD (i+1) 0=v at*
  generalize hQ1e:Q.set (i+1) (v+1)=Q1 at*
  have g2:=getJ Q1 u (by omega)
  have hw2:IntKind.i64.wrap (((Q1.getD u 0:Nat):Int)+1)=((Q1.getD u 0+1:Nat):Int):=zd _ (by have:=hQ1b u;omega)
  have hs2:=setJ Q1 u (Q1.getD u 0+1)
  rw [←hse] at hs2
  generalize Q1.getD u 0=v2 at*
  generalize laneS Q (i,u)=Q2 at*
  have hJl:(Q.map J).length=U.length+1:=by rw [lm_,h2]
  have hJl1:(Q1.map J).length=U.length+1:=by rw [lm_,hQ1]
  simp only [go_sem,lp96_3,hlt,hs,hx,c1,c2,c3,c4,g1,hw1,hs1,g2,hw2,hs2,hJl,hJl1,h2,hQ1,nn_,lm_]
  refine ⟨(i+1,Q2),by simp only [go_sem,z3,z4,z5,hy1,hy2,z1n,zz]<;>rfl,?_,?_,fun x en s hq=> ?_⟩
  ·dsimp only;exact ⟨by omega,by omega,hle⟩
  ·dsimp only;omega
  ·exact hq
 ·have e:U.drop i=[]:=List.drop_eq_nil_of_le (by omega)
  have hlt:((i:Int)<(U.length:Int))=False:=eF (by omega)
  rw [e]
  simp only [go_sem,lp96_3,hlt]
  rfl
theorem all134:(List.range 100).map (fun k=>(callAV L 400 134 [J k,B true] ⟨[],[]⟩,callAV L 400 134 [J k,B false] ⟨[],[]⟩))=(List.range 100).map (fun k=>(some (I 0,(⟨[],[]⟩:St)),some (I (if k<3 then 4 else 0),(⟨[],[]⟩:St)))):=by kernel_rfl
theorem c134 (k:Nat)(hk:k<100)(b:Bool)(st:St):run L 134 [J k,B b] st=some (I (if k<3∧b=false then 4 else 0),st):=by
 have h:=z7l all134 k hk
 simp only [Prod.mk.injEq] at h
 cases b
 ·have:=z16 (fn:=ir134) rfl rfl (z05 L 400 _ _ _ _ h.2) st
  simpa using this
 ·have:=z16 (fn:=ir134) rfl rfl (z05 L 400 _ _ _ _ h.1) st
  simpa using this
theorem zbm (a:Int): ∀(l:List Int) (i:Nat),decide (0≤indexOf a l i)=decide (a∈l)
 | [],i=>by simp [indexOf]
 |b::r,i=>by
  have ih:=zbm a r (i+1)
  simp only [indexOf]
  by_cases h:a=b
  ·subst h;simp
  ·have h2: ¬b=a:=fun e=>h e.symm
   simp only [h,h2,if_false,List.mem_cons,false_or]
   exact ih
theorem c112 (nl:Bool)(W:List Nat)(hlen:W.length<1000000)(a:Nat)(st:St):run L 112 [sl 1 nl (W.map J),J a] st=some (B (decide (a∈W)),st):=by
 rw [run_pure (fn:=ir112) rfl rfl]
 have e:W.map J=(W.map fun (x:Nat)=>(x:Int)).map I:=by rw [List.map_map];rfl
 have h59:=fun st=>c59 nl (W.map fun (x:Nat)=>(x:Int)) (by simpa using hlen) (a:Int) st
 rw [←e] at h59
 have hm:=zbm (a:Int) (W.map fun (x:Nat)=>(x:Int)) 0
 have hiff:((a:Int)∈W.map fun (x:Nat)=>(x:Int))↔a∈W:=by
  rw [List.mem_map]
  constructor
  ·rintro ⟨x,hx,e⟩
   have:x=a:=by omega
   subst this;exact hx
  ·intro h;exact ⟨a,h,rfl⟩
 simp only [hiff] at hm
 simp only [ir112,go_sem,h59,hm]
theorem zmh (x:AV)(hx1: ∀n,okRef n x=true)(hx2: ∀n T acc,ren1 n T acc x=(x,acc))(nw:Bool)(W:List Nat)(hW:W.length<1000)(m:Nat)(Q:List Nat)(hQ:Q.length=m)(hm:m≤14)(hQb: ∀k,Q.getD k 0<100)(i:Nat)(hok:i≤m)(env:Env)(st:St)
  (hg:gcAV true 2 0 (canon env [3,6,111,112,113]) st=([(3,.ptr 0 0),(6,J (m-1)),(111,.rsl 1 0 m m 1 false),(112,J m),(113,J i)],⟨[[x,sl 1 nw (W.map J)],Q.map J],[]⟩)):
  ∃x_1 en s,lim (headed pure (run L) true [3,6,111,112,113] lp96_4 2 0) env st=some (x_1,en,s)∧(if lackF W i (Q.drop i)=true then x_1=.ret∧en.get 4=.v (.slice none 0 0)∧en.get 5=I 4 else x_1=.exit 9∧en.get 3=.ptr 0 0∧en.get 6=J (m-1)∧s=⟨[[x,sl 1 nw (W.map J)],Q.map J],[]⟩):=by
 refine z7 (α:=Nat) (fun i=>m-i) (fun i=>i≤m) (fun i=>([(3,.ptr 0 0),(6,J (m-1)),(111,.rsl 1 0 m m 1 false),(112,J m),(113,J i)],⟨[[x,sl 1 nw (W.map J)],Q.map J],[]⟩)) (fun i x_1 en s=>if lackF W i (Q.drop i)=true then x_1=.ret∧en.get 4=.v (.slice none 0 0)∧en.get 5=I 4 else x_1=.exit 9∧en.get 3=.ptr 0 0∧en.get 6=J (m-1)∧s=⟨[[x,sl 1 nw (W.map J)],Q.map J],[]⟩) (fun i hok=> ?_) i hok env st hg
 by_cases h:i<m
 ·have hs:=zd i (by omega)
  have hlt:((i:Int)<(m:Int))=True:=eT (by omega)
  have hil:(i+1≤m)=True:=eT (by omega)
  have hg:=getJ Q i (by omega)
  have hd:Q.drop i=Q.getD i 0::Q.drop (i+1):=by
   rw [List.drop_eq_getElem_cons (by omega)];simp [List.getD_eq_getElem?_getD,show i<Q.length by omega]
  have hb:=hQb i
  have hJl:(Q.map J).length=m:=by rw [lm_,hQ]
  rw [hd]
  generalize Q.getD i 0=k at*
  have hlf:lackF W i (k::Q.drop (i+1))=(lackB W i k||lackF W (i+1) (Q.drop (i+1))):=rfl
  rw [hlf]
  have h112:=fun st=>c112 nw W (by omega) i st
  have h134:=fun st=>c134 k hb (decide (i∈W)) st
  by_cases p:k<3∧decide (i∈W)=false
  ·have e:lackB W i k=true:=by unfold lackB;simp only [p.1,decide_true,Bool.true_and];simpa using p.2
   rw [if_pos p] at h134
   rw [e,Bool.true_or]
   generalize decide (i∈W)=bb at*
   simp only [go_sem,lp96_4,hlt,hil,hg,hJl,hQ,h112,h134,nn_,lm_]
  ·have e:lackB W i k=false:=by
    unfold lackB
    rw [Bool.and_eq_false_iff]
    by_cases q:k<3
    ·right
     have:decide (i∈W)≠false:=fun h=>p ⟨q,h⟩
     simp at this
     simp [this]
    ·left;simp [q]
   rw [if_neg p] at h134
   rw [e,Bool.false_or]
   generalize decide (i∈W)=bb at*
   simp only [go_sem,lp96_4,hlt,hs,hil,hg,hJl,hQ,h112,h134,nn_,lm_]
   refine ⟨i+1,by simp only [go_sem,z3,z4,z5,hx1,hx2,z1n,zz]<;>rfl,?_,?_,fun x en s hq=> ?_⟩
   ·omega
   ·omega
   ·exact hq
 ·have e:Q.drop i=[]:=List.drop_eq_nil_of_le (by omega)
  have hlt:((i:Int)<(m:Int))=False:=eF (by omega)
  rw [e]
  have e2:lackF W i []=false:=rfl
  rw [e2]
  simp only [go_sem,lp96_4,hlt]
attribute [local go_sem] m_ x_ l_ k_ o_ t_ a_ s_ q_ b_ c_ u_ g_ zl za zg zm z0g z0f ze zi zj z6 zh z0h
theorem zaf (U:List Nat)(a:Nat)(ha:a<8): ∀(f w:Nat) (O:List Nat),(∀k,O.getD k 0<256)→(walkO U a f w O).length=O.length∧∀k,(walkO U a f w O).getD k 0<256
 |0,_,_,h=>⟨rfl,h⟩
 |f+1,w,O,h=>by
  unfold walkO
  split
  ·exact ⟨rfl,h⟩
  ·have hb: ∀k,(O.set (w-1) (O.getD (w-1) 0|||2^a)).getD k 0<256:=by
    intro k
    rw [z15]
    split
    ·exact Nat.or_lt_two_pow (n:=8) (h _) (Nat.pow_lt_pow_right (by omega) ha)
    ·exact h k
   have ih:=zaf U a ha f (upC U w) _ hb
   exact ⟨by rw [ih.1,List.length_set],ih.2⟩
theorem z9s (U:List Nat): ∀(W:List Nat) (a:Nat) (O:List Nat),a+W.length≤8→(∀k,O.getD k 0<256)→(outF U a W O).length=O.length∧∀k,(outF U a W O).getD k 0<256
 | [],_,_,_,h=>⟨rfl,h⟩
 |w::r,a,O,hl,h=>by
  rw [List.length_cons] at hl
  have h1:=zaf U a (by omega) U.length w O h
  have ih:=z9s U r (a+1) (walkO U a U.length w O) (by omega) h1.2
  exact ⟨ih.1.trans h1.1,ih.2⟩
theorem set8 (O:List Nat)(i v:Nat):(O.map u8).set i (u8 v)=(O.set i v).map u8:=by rw [List.map_set]
theorem zmg (y:AV)(hy1: ∀n,okRef n y=true)(hy2: ∀n T acc,ren1 n T acc y=(y,acc))(nu:Bool)(U:List Nat)(hU: ∀u∈U,u≤U.length)(hl:U.length≤13)(Q:List Nat)(X:AV)(hX1: ∀n,okRef n X=true)(hX2: ∀n T acc,ren1 n T acc X=(X,acc))(k a:Nat)(ha:a<8)(f:Nat)(w:Nat)(O:List Nat)(hok:itC U f w=0∧w≤U.length∧O.length=U.length∧∀k,O.getD k 0<256)(env:Env)(st:St)
  (hg:gcAV true 3 0 (canon env [3,17,18,19,131,132,133]) st=([(3,.ptr 0 0),(17,.rsl 2 0 U.length U.length 1 true),(18,J a),(19,J w),(131,X),(132,J k),(133,J a)],⟨[[sl 1 nu (U.map J),y],Q.map J,O.map u8],[]⟩)):
  ∃x_1 en s,lim (headed pure (run L) true [3,17,18,19,131,132,133] lp96_5 3 0) env st=some (x_1,en,s)∧(x_1=.exit 13∧en.get 3=.ptr 0 0∧en.get 17=.rsl 2 0 U.length U.length 1 true∧en.get 131=X∧en.get 132=J k∧en.get 133=J a∧s=⟨[[sl 1 nu (U.map J),y],Q.map J,(walkO U a f w O).map u8],[]⟩):=by
 refine z7 (α:=Nat×Nat×List Nat) (fun ⟨f,w,O⟩=>f) (fun ⟨f,w,O⟩=>itC U f w=0∧w≤U.length∧O.length=U.length∧∀k,O.getD k 0<256) (fun ⟨f,w,O⟩=>([(3,.ptr 0 0),(17,.rsl 2 0 U.length U.length 1 true),(18,J a),(19,J w),(131,X),(132,J k),(133,J a)],⟨[[sl 1 nu (U.map J),y],Q.map J,O.map u8],[]⟩)) (fun ⟨f,w,O⟩ x_1 en s=>x_1=.exit 13∧en.get 3=.ptr 0 0∧en.get 17=.rsl 2 0 U.length U.length 1 true∧en.get 131=X∧en.get 132=J k∧en.get 133=J a∧s=⟨[[sl 1 nu (U.map J),y],Q.map J,(walkO U a f w O).map u8],[]⟩) (fun ⟨f,w,O⟩ hok=> ?_) ⟨f,w,O⟩ hok env st hg
 simp only at hok
 obtain ⟨h1,h2,h3,h4⟩:=hok
 dsimp only at h1 h2 h3 h4⊢
 by_cases h:w=0
 ·subst h
  have e:walkO U a f 0 O=O:=by
   cases f with
   |zero=>rfl
   |succ f=>unfold walkO;rw [if_pos rfl]
  rw [e]
  have q:((0:Int)<((0:Nat):Int))=False:=eF (by omega)
  simp only [go_sem,lp96_5,q]
 ·cases f with
  |zero=>exact absurd h1 h
  |succ f=>
   have q:((0:Int)<(w:Int))=True:=eT (by omega)
   have hw:=z13 w (by omega) (by omega)
   have hx:=z08 J nu U (w-1) (by omega)
   have hu:upC U w=U[w-1]'(by omega):=by
    unfold upC;rw [if_neg h,List.getD_eq_getElem?_getD,List.getElem?_eq_getElem (by omega)];rfl
   have hle:=zj3 hU w
   have h1:itC U f (upC U w)=0:=h1
   have e:walkO U a (f+1) w O=walkO U a f (upC U w) (O.set (w-1) (O.getD (w-1) 0|||2^a)):=by
    show (if w=0 then O else _)=_
    rw [if_neg h]
   rw [e]
   rw [hu] at hle h1⊢
   generalize U[w-1]'(by omega)=v at*
   have hob:=h4 (w-1)
   have hg:=get8 O (w-1) (by omega)
   have hpa:2^a<256:=Nat.pow_lt_pow_right (n:=8) (by omega) ha
   have hsh:=shl8 a ha
   have hor:=or8 (O.getD (w-1) 0) (2^a) hob hpa
   have hst:=set8 O (w-1) (O.getD (w-1) 0|||2^a)
   have hbn: ∀k,(O.set (w-1) (O.getD (w-1) 0|||2^a)).getD k 0<256:=by
    intro k
    rw [z15]
    split
    ·exact Nat.or_lt_two_pow (n:=8) hob hpa
    ·exact h4 k
   have hOl:(O.set (w-1) (O.getD (w-1) 0|||2^a)).length=U.length:=by rw [List.length_set,h3]
   generalize O.getD (w-1) 0=ov at*
   generalize O.set (w-1) (ov|||2^a)=O2 at*
   generalize ov|||2^a=ow at*
   have hJl:(O.map u8).length=U.length:=by rw [lm_,h3]
   have c1:(((w-1:Nat):Int)<(U.length:Int))=True:=eT (by omega)
   have c2:(w-1+1≤U.length)=True:=eT (by omega)
   simp only [go_sem,lp96_5,q,hw,hx,c1,c2,hg,hsh,hor,hst,hJl,h3,nn_,lm_]
   refine ⟨(f,v,O2),by simp only [go_sem,z3,z4,z5,hy1,hy2,hX1,hX2,z1n,zz,z0x,zp]<;>rfl,?_,?_,fun x en s hq=> ?_⟩
   ·dsimp only;exact ⟨h1,hle,hOl,hbn⟩
   ·dsimp only;omega
   ·exact hq
theorem zmf (nu nw:Bool)(U W:List Nat)(hU: ∀u∈U,u≤U.length)(hW: ∀w∈W,w≤U.length)(hl:U.length≤13)(hWl:W.length≤8)(hlost: ∀w,w≤U.length→itC U U.length w=0)(Q:List Nat)(i:Nat)(O:List Nat)(hok:i≤W.length∧O.length=U.length∧∀k,O.getD k 0<256)(env:Env)(st:St)
  (hg:gcAV true 3 0 (canon env [3,17,131,132,133]) st=([(3,.ptr 0 0),(17,.rsl 2 0 U.length U.length 1 true),(131,sl 1 nw (W.map J)),(132,J W.length),(133,J i)],⟨[[sl 1 nu (U.map J),sl 1 nw (W.map J)],Q.map J,O.map u8],[]⟩)):
  ∃x_1 en s,lim (headed pure (run L) true [3,17,131,132,133] lp96_6 3 0) env st=some (x_1,en,s)∧(x_1=.exit 11∧en.get 17=.rsl 2 0 U.length U.length 1 true∧s=⟨[[sl 1 nu (U.map J),sl 1 nw (W.map J)],Q.map J,(outF U i (W.drop i) O).map u8],[]⟩):=by
 refine z7 (α:=Nat×List Nat) (fun ⟨i,O⟩=>W.length-i) (fun ⟨i,O⟩=>i≤W.length∧O.length=U.length∧∀k,O.getD k 0<256) (fun ⟨i,O⟩=>([(3,.ptr 0 0),(17,.rsl 2 0 U.length U.length 1 true),(131,sl 1 nw (W.map J)),(132,J W.length),(133,J i)],⟨[[sl 1 nu (U.map J),sl 1 nw (W.map J)],Q.map J,O.map u8],[]⟩)) (fun ⟨i,O⟩ x_1 en s=>x_1=.exit 11∧en.get 17=.rsl 2 0 U.length U.length 1 true∧s=⟨[[sl 1 nu (U.map J),sl 1 nw (W.map J)],Q.map J,(outF U i (W.drop i) O).map u8],[]⟩) (fun ⟨i,O⟩ hok=> ?_) ⟨i,O⟩ hok env st hg
 simp only at hok
 obtain ⟨h1,h2,h3⟩:=hok
 dsimp only at h1 h2 h3⊢
 by_cases h:i<W.length
 ·have hs:=zd i (by omega)
  have hlt:((i:Int)<(W.length:Int))=True:=eT (by omega)
  have hx:=z08 J nw W i h
  have hd:W.drop i=W[i]::W.drop (i+1):=List.drop_eq_getElem_cons h
  have hw:=hW W[i] (List.getElem_mem h)
  have hof:outF U i (W[i]::W.drop (i+1)) O=outF U (i+1) (W.drop (i+1)) (walkO U i U.length W[i] O):=rfl
  rw [hd,hof]
  generalize W[i]=w at*
  have hwo:=zaf U i (by omega) U.length w O h3
  simp only [go_sem,lp96_6,hlt,hs,hx]
  generalize hg:lim (headed pure (run L) true _ lp96_5 _ _) _ _=o
  obtain ⟨x,en,s,rfl,h2⟩: ∃x en s,o=some (x,en,s)∧_:=by rw [←hg];exact zmg (sl 1 nw (W.map J)) (fun n=>z0k _ _ _ _) (fun n T acc=>z1m _ _ _ _ _ _) nu U hU hl Q (sl 1 nw (W.map J)) (fun n=>z0k _ _ _ _) (fun n T acc=>z1m _ _ _ _ _ _) W.length i (by omega) U.length w O ⟨hlost w hw,hw,h2,h3⟩ _ _ (by simp only [go_sem,z1n,zz,z0x,zp]<;>rfl)
  clear hg
  generalize walkO U i U.length w O=O2 at*
  obtain ⟨rfl,e3,e17,e131,e132,e133,rfl⟩:=h2
  simp only [go_sem,lp96_6,e3,e17,e131,e132,e133,hs]
  refine ⟨(i+1,O2),by simp only [go_sem,z3,z4,z5,e3,e17,e131,e132,e133,z1n,zz,z0x,zp]<;>rfl,?_,?_,fun x en s hq=> ?_⟩
  ·dsimp only;exact ⟨by omega,by omega,hwo.2⟩
  ·dsimp only;omega
  ·exact hq
 ·have e:W.drop i=[]:=List.drop_eq_nil_of_le (by omega)
  have hlt:((i:Int)<(W.length:Int))=False:=eF (by omega)
  rw [e]
  simp only [go_sem,lp96_6,hlt]
  rfl
def srtTo (O:List Nat) (i:Nat):Bool:=(List.range i).all fun j=> !lexLt (memb (O.getD (j+1) 0)) (memb (O.getD j 0))
theorem zov (a b:List AV)(O:List Nat)(hO: ∀k,O.getD k 0<256)(m:Nat)(hm:O.length=m)(hm13:m≤13)(lo hi:Nat)(i:Nat)(hok:i<m)(env:Env)(st:St)
  (hg:gcAV false lo hi (canon env [0,1,5]) st=([(0,.rsl 2 0 m m 1 true),(1,cmpS),(5,J i)],⟨[a,b,O.map u8],[]⟩)):
  ∃x_1 en s,lim (headed pure (run L) false [0,1,5] lp135_0 lo hi) env st=some (x_1,en,s)∧(s=⟨[a,b,O.map u8],[]⟩∧(if srtTo O i=true then x_1=.exit 0 else x_1=.ret∧en.get 4=B false)):=by
 refine z7 (α:=Nat) (fun i=>i) (fun i=>i<m) (fun i=>([(0,.rsl 2 0 m m 1 true),(1,cmpS),(5,J i)],⟨[a,b,O.map u8],[]⟩)) (fun i x_1 en s=>s=⟨[a,b,O.map u8],[]⟩∧(if srtTo O i=true then x_1=.exit 0 else x_1=.ret∧en.get 4=B false)) (fun i hok=> ?_) i hok env st hg
 cases i with
 |zero=>
  have q:((0:Int)<((0:Nat):Int))=False:=eF (by omega)
  have e:srtTo O 0=true:=rfl
  rw [e]
  simp only [go_sem,lp135_0,q]
 |succ j=>
  have q:((0:Int)<((j+1:Nat):Int))=True:=eT (by omega)
  have hw:IntKind.i64.wrap (((j+1:Nat):Int)-1)=((j:Nat):Int):=by rw [z06]<;>omega
  have hg1:=zgl O (j+1) (by omega)
  have hg2:=zgl O j (by omega)
  have c1:(((j+1:Nat):Int)<(m:Int))=True:=eT (by omega)
  have c2:(j+1+1≤m)=True:=eT (by omega)
  have c3:((j:Int)<(m:Int))=True:=eT (by omega)
  have c4:(j+1≤m)=True:=eT (by omega)
  have hJl:(O.map u8).length=m:=by rw [lm_,hm]
  have e:srtTo O (j+1)=(srtTo O j&& !lexLt (memb (O.getD (j+1) 0)) (memb (O.getD j 0))):=by
   unfold srtTo;rw [List.range_succ,List.all_append];simp
  rw [e]
  have b1:=hO (j+1)
  have b2:=hO j
  generalize O.getD (j+1) 0=u at*
  generalize O.getD j 0=v at*
  have h81:=fun st=>c81 u v b1 b2 st
  have hcl:=zgb (memb u) (memb v)
  have hp81:pure 81=true:=rfl
  cases hc:lexLt (memb u) (memb v) with
  |true=>
   rw [hc] at hcl
   have q4:(cmpN (memb u) (memb v)<0)=True:=eT (of_decide_eq_true hcl)
   rw [Bool.not_true,Bool.and_false]
   simp only [go_sem,lp135_0,q,hw,hg1,hg2,c1,c2,c3,c4,hJl,hm,h81,hp81,q4,nn_,lm_]
  |false=>
   rw [hc] at hcl
   have q4:(cmpN (memb u) (memb v)<0)=False:=eF (of_decide_eq_false hcl)
   rw [Bool.not_false,Bool.and_true]
   simp only [go_sem,lp135_0,q,hw,hg1,hg2,c1,c2,c3,c4,hJl,hm,h81,hp81,q4,nn_,lm_]
   refine ⟨j,by simp only [go_sem,z3,z4,z5]<;>rfl,?_,?_,fun x en s hq=> ?_⟩
   ·omega
   ·omega
   ·exact hq
theorem zmz (st0:St)(R:AV)(lo hi:Nat)(i:Nat)(hok:True)(env:Env)(st:St)
  (hg:gcAV false lo hi (canon env [0,1,5]) st=([(0,R),(1,cmpS),(5,I (-1))],st0)):
  ∃x_1 en s,lim (headed pure (run L) false [0,1,5] lp135_0 lo hi) env st=some (x_1,en,s)∧(s=st0∧x_1=.exit 0):=by
 refine z7 (α:=Nat) (fun i=>i) (fun i=>True) (fun i=>([(0,R),(1,cmpS),(5,I (-1))],st0)) (fun i x_1 en s=>s=st0∧x_1=.exit 0) (fun i hok=> ?_) i hok env st hg
 have q:((0:Int)< -1)=False:=eF (by omega)
 simp only [go_sem,lp135_0,q]
theorem c135 (a b:List AV)(O:List Nat)(hO: ∀k,O.getD k 0<256)(m:Nat)(hm:O.length=m)(hm13:m≤13):run L 135 [.rsl 2 0 m m 1 true,cmpS] ⟨[a,b,O.map u8],[]⟩=some (B (srtB O),⟨[a,b,O.map u8],[]⟩):=by
 rw [zc (fn:=ir135) rfl rfl]
 have hb:srtB O=srtTo O (m-1):=by unfold srtB srtTo;rw [hm]
 rw [hb]
 by_cases h:m=0
 ·subst h
  have hw:IntKind.i64.wrap (((0:Nat):Int)-1)= -1:=by decide
  have e:srtTo O (0-1)=true:=rfl
  rw [e]
  simp only [ir135,go_sem,hw]
  generalize hg:lim (headed pure (run L) false _ lp135_0 _ _) _ _=o
  obtain ⟨x,en,s,rfl,h2⟩: ∃x en s,o=some (x,en,s)∧_:=by rw [←hg];exact zmz ⟨[a,b,O.map u8],[]⟩ (.rsl 2 0 0 0 1 true) _ _ 0 trivial _ _ (by simp only [go_sem]<;>rfl)
  clear hg
  obtain ⟨rfl,rfl⟩:=h2
  simp only [go_sem]
 ·have hw:=z13 m (by omega) (by omega)
  simp only [ir135,go_sem,hw]
  generalize hg:lim (headed pure (run L) false _ lp135_0 _ _) _ _=o
  obtain ⟨x,en,s,rfl,h2⟩: ∃x en s,o=some (x,en,s)∧_:=by rw [←hg];exact zov a b O hO m hm hm13 _ _ (m-1) (by omega) _ _ (by simp only [go_sem]<;>rfl)
  clear hg
  obtain ⟨rfl,h2⟩:=h2
  cases hc:srtTo O (m-1) with
  |true=>
   rw [hc,if_pos rfl] at h2
   subst h2
   simp only [go_sem]
  |false=>
   rw [hc,if_neg (by simp)] at h2
   obtain ⟨rfl,e4⟩:=h2
   simp only [go_sem,e4]
attribute [local go_sem] m_ x_ l_ k_ o_ t_ a_ s_ q_ b_ c_ u_ g_ zl za zg zm z0g z0f ze zi zj z6 zh z0h
def readV (n:Int) (U W:List Int):Int×List Nat:=
 if n<2∨8<n then (1,[]) else if 13<U.length then (3,[]) else if (W.length:Int)≠n then (5,[]) else if (U++W).any (badC U.length)=true then (2,[]) else readN (U.map Int.toNat) (W.map Int.toNat)
def readA (r:Int×List Nat):AV:=.tup [if r.1=0 then sl 1 false (r.2.map E8) else .v (.slice none 0 0),I r.1]
theorem z4t {A:List Int} (h: ∀a∈A,0≤a):(A.map Int.toNat).map J=A.map I:=by
 rw [List.map_map]
 apply List.map_congr_left
 intro a ha
 have:=h a ha
 show AV.v (.int .i64 ((a.toNat:Nat):Int))=AV.v (.int .i64 a)
 rw [Int.toNat_of_nonneg this]
theorem znj (st:St)(l m:Nat)(X:List Nat)(hm:X.length=m)(h:st.store[l]? =some (X.map u8)):fin st (.rsl l 0 m m 1 true)=sl 1 false (X.map E8):=by
 subst hm
 have e:fin st (.rsl l 0 X.length X.length 1 true)=.lst .any 1 (group true 1 X.length (pubs ((X.map u8).drop 0))):=by
  simp only [fin,h]
  rw [if_pos (by simp)]
 rw [e,List.drop_zero,zoh,zhd]
 rfl
theorem make8 (k:Nat)(hk:k≤1000)(S:List (List AV))(T:List Nat):makeAV 1 true [.v (.int .u8 0)] ⟨S,T⟩ (J k) (J k)=some (.rsl S.length 0 k k 1 true,⟨S++ [(List.replicate k 0).map u8],T⟩):=by
 simp only [makeAV,natOf]
 have:k≤maxGrow:=by unfold maxGrow;omega
 simp [this]
theorem z6t (U:List Nat):(laneL U).length=U.length+1:=by unfold laneL;rw [zcp];simp
theorem zh8 (U:List Nat): ∀(us:List Nat) (c:Nat) (Q:List Nat) (b:Nat),(∀k,Q.getD k 0≤b)→∀k,(laneF U c us Q).getD k 0≤b+2*us.length
 | [],_,_,_,h,k=>by have:=h k;simpa [laneF] using this
 |u::r,c,Q,b,h,k=>by
  have:=zh8 U r (c+1) (laneS Q (c,u)) (b+2) (zh7 h _) k
  simp only [laneF,List.length_cons]
  omega
theorem zk3 (U:List Nat):lostTo U 0=lostC U:=by unfold lostTo lostC;rw [Nat.sub_zero,List.range_eq_range']
theorem c96N (n:Nat)(h2:2≤n)(hn:n≤8)(nu nw:Bool)(U W:List Nat)(hU: ∀u∈U,u≤U.length)(hW: ∀w∈W,w≤U.length)(hl:U.length≤13)(hWl:W.length=n)(st:St):
  run L 96 [J n,.agg [sl 1 nu (U.map J),sl 1 nw (W.map J)]] st=some (readA (readN U W),st):=by
 rw [run_pure (fn:=ir96) rfl rfl]
 have q1:((n:Int)<2)=False:=eF (by omega)
 have q2:((8:Int)<(n:Int))=False:=eF (by omega)
 have q3:((13:Int)<(U.length:Int))=False:=eF (by omega)
 have hlU:=zn J nu U
 have hlW:=zn J nw W
 rw [hWl] at hlW
 have hUW:(U++W).map J=((U++W).map fun (x:Nat)=>(x:Int)).map I:=by rw [List.map_map];rfl
 have hbad:((U++W).map fun (x:Nat)=>(x:Int)).any (badC U.length)=false:=by
  rw [List.any_map,List.any_eq_false]
  intro x hx
  have:x≤U.length:=by
   rw [List.mem_append] at hx
   rcases hx with hx|hx
   ·exact hU x hx
   ·exact hW x hx
  simp only [Function.comp,badC,Bool.or_eq_true,decide_eq_true_eq,not_or]
  omega
 have h111: ∀st,run L 111 [.lst .full 1 [sl 1 nu (U.map J),sl 1 nw (W.map J)]] st=some (sl 1 false ((U++W).map J),st):=fun st=>
  (zah (fn:=ir111) rfl rfl st (by rfl)).trans (c111J nu nw U W (by omega) (by omega) (by omega) st)
 rw [hUW] at h111
 have hpx:=fun n=>z0k 1 nu (U.map J) n
 have hpy:=fun n=>z0k 1 nw (W.map J) n
 have hrx:=fun n T acc=>z1m 1 nu (U.map J) n T acc
 have hry:=fun n T acc=>z1m 1 nw (W.map J) n T acc
 have hal:((U++W).map fun (x:Nat)=>(x:Int)).length=U.length+n:=by simp [hWl]
 have hl96:=zn I false ((U++W).map fun (x:Nat)=>(x:Int))
 simp only [ir96,go_sem,hlU,hlW,q1,q2,q3,h111,hl96]
 generalize hg:lim (headed pure (run L) true _ lp96_0 _ _) _ _=o
 obtain ⟨x,en,s,rfl,h2⟩: ∃x en s,o=some (x,en,s)∧_:=by rw [←hg];exact zh6 (sl 1 nu (U.map J)) (sl 1 nw (W.map J)) hpx hrx hpy hry U.length false ((U++W).map fun (x:Nat)=>(x:Int)) (by rw [hal];omega) 0 (by omega) _ _ (by simp only [go_sem,Int.natCast_zero,lm_]<;>rfl)
 clear hg
 rw [List.drop_zero,hbad,if_neg (by simp)] at h2
 obtain ⟨rfl,e3,e6,rfl⟩:=h2
 simp only [go_sem,e3,e6,hlU,hlW]
 generalize hg:lim (headed pure (run L) true _ lp96_2 _ _) _ _=o
 obtain ⟨x,en,s,rfl,h2⟩: ∃x en s,o=some (x,en,s)∧_:=by rw [←hg];exact zmj (sl 1 nw (W.map J)) hpy hry nu U hU hl 0 (by omega) _ _ (by simp only [go_sem,e3,e6,Int.natCast_zero]<;>rfl)
 clear hg
 rw [zk3] at h2
 unfold readN
 by_cases hlc:lostC U=true
 ·rw [if_pos hlc] at h2⊢
  obtain ⟨rfl,e4,e5⟩:=h2
  simp only [go_sem,e4,e5]
  rfl
 rw [if_neg hlc] at h2⊢
 clear e3 e6
 obtain ⟨rfl,e3,e6,rfl⟩:=h2
 have h0:=z08 J nw W 0 (by omega)
 have hw0:W.getD 0 0=W[0]'(by omega):=by rw [List.getD_eq_getElem?_getD,List.getElem?_eq_getElem (by omega)];rfl
 have h0':indexSAV 1 (sl 1 nw (W.map J)) (.v (.int .i64 0))=some (.eptr (J (W[0]'(by omega))) 0):=h0
 rw [hw0]
 generalize W[0]'(by omega)=w0 at*
 by_cases hz:w0=0
 ·have z1:((w0:Int)=0)=True:=eT (by omega)
  rw [if_neg (by simpa using hz)]
  have hmk:=fun S T=>zor (U.length+1) (by omega) S T
  have hs1:=zd U.length (by omega)
  have hlost: ∀w,w≤U.length→itC U U.length w=0:=by
   intro w hw
   by_cases hw0:w=0
   ·rw [hw0,z12]
   ·have hlc:lostC U=false:=by simpa using hlc
    unfold lostC at hlc
    rw [List.any_eq_false] at hlc
    have:=hlc (w-1) (List.mem_range.2 (by omega))
    simp only [decide_eq_true_eq,Classical.not_not] at this
    rw [show w-1+1=w by omega] at this
    exact this
  simp only [go_sem,e3,e6,hlU,hlW,h0',z1,hs1,hmk]
  generalize hg:lim (headed pure (run L) true _ lp96_3 _ _) _ _=o
  obtain ⟨x,en,s,rfl,h2⟩: ∃x en s,o=some (x,en,s)∧_:=by rw [←hg];exact zmi (sl 1 nw (W.map J)) hpy hry nu U hU hl 0 (List.replicate (U.length+1) 0) ⟨by omega,by simp,fun k=>by simp [List.getD_eq_getElem?_getD,List.getElem?_replicate];split<;>rfl⟩ _ _ (by simp only [go_sem,e3,e6,z1n,zz,Int.natCast_zero]<;>rfl)
  clear hg
  rw [List.drop_zero,show laneF U 0 U (List.replicate (U.length+1) 0)=laneL U from rfl] at h2
  clear e3 e6
  obtain ⟨rfl,e3,e6,e11,rfl⟩:=h2
  have hll:=z6t U
  have hlb: ∀k,(laneL U).getD k 0<100:=fun k=>by
   have:=zh8 U U 0 (List.replicate (U.length+1) 0) 0 (fun k=>by simp [List.getD_eq_getElem?_getD,List.getElem?_replicate];split<;>rfl) k
   unfold laneL
   omega
  generalize laneL U=Q at*
  simp only [go_sem,e3,e6,e11]
  generalize hg:lim (headed pure (run L) true _ lp96_4 _ _) _ _=o
  obtain ⟨x,en,s,rfl,h2⟩: ∃x en s,o=some (x,en,s)∧_:=by rw [←hg];exact zmh (sl 1 nu (U.map J)) hpx hrx nw W (by omega) (U.length+1) Q hll (by omega) hlb 0 (by omega) _ _ (by simp only [go_sem,e3,e6,z1n,zz,Int.natCast_zero,show U.length+1-1=U.length from rfl]<;>rfl)
  clear hg
  rw [List.drop_zero] at h2
  by_cases hla:lackF W 0 Q=true
  ·rw [if_pos hla] at h2⊢
   obtain ⟨rfl,e4,e5⟩:=h2
   simp only [go_sem,e4,e5]
   rfl
  ·rw [if_neg hla] at h2⊢
   clear e3 e6 e11
   obtain ⟨rfl,e3,e6,rfl⟩:=h2
   rw [show U.length+1-1=U.length from rfl] at e6
   have hm8:=fun S T=>make8 U.length (by omega) S T
   simp only [go_sem,e3,e6,hlW,hm8]
   generalize hg:lim (headed pure (run L) true _ lp96_6 _ _) _ _=o
   obtain ⟨x,en,s,rfl,h2⟩: ∃x en s,o=some (x,en,s)∧_:=by rw [←hg];exact zmf nu nw U W hU hW hl (by omega) hlost Q 0 (List.replicate U.length 0) ⟨by omega,by simp,fun k=>by simp [List.getD_eq_getElem?_getD,List.getElem?_replicate];split<;>simp⟩ _ _ (by simp only [go_sem,e3,e6,z1n,zz,z0x,zp,Int.natCast_zero,hWl]<;>rfl)
   clear hg
   rw [List.drop_zero,show outF U 0 W (List.replicate U.length 0)=outL U W from rfl] at h2
   have hoo:=z9s U W 0 (List.replicate U.length 0) (by omega) (fun k=>by simp [List.getD_eq_getElem?_getD,List.getElem?_replicate];split<;>simp)
   rw [show outF U 0 W (List.replicate U.length 0)=outL U W from rfl,List.length_replicate] at hoo
   generalize outL U W=O at*
   clear e3 e6
   obtain ⟨rfl,e17,rfl⟩:=h2
   have h135:=c135 [sl 1 nu (U.map J),sl 1 nw (W.map J)] (Q.map J) O hoo.2 U.length hoo.1 hl
   have hf:=znj ⟨[[sl 1 nu (U.map J),sl 1 nw (W.map J)],Q.map J,O.map u8],[]⟩ 2 U.length O hoo.1 rfl
   cases hso:srtB O with
   |true=>
    rw [hso] at h135
    rw [if_pos rfl]
    simp only [go_sem,e17,h135,hf]
    rfl
   |false=>
    rw [hso] at h135
    rw [if_neg (by simp)]
    simp only [go_sem,e17,h135]
    rfl
 ·have z1:((w0:Int)=0)=False:=eF (by omega)
  rw [if_pos hz]
  simp only [go_sem,e3,e6,hlU,hlW,h0',z1]
  rfl
attribute [local go_sem] m_ x_ l_ k_ o_ t_ a_ s_ q_ b_ c_ u_ g_ zl za zg zm z0g z0f ze zi zj z6 zh z0h
theorem zlz {n:Nat} (hn:n≤8) {U W:List Nat} (hWl:W.length=n): ∀s∈(readN U W).2,s<256:=by
 have hoo:=z9s U W 0 (List.replicate U.length 0) (by omega) (fun k=>by simp [List.getD_eq_getElem?_getD,List.getElem?_replicate];split<;>simp)
 have key: ∀s∈outL U W,s<256:=by
  intro s hs
  obtain ⟨i,hi,rfl⟩:=List.getElem_of_mem hs
  have:=hoo.2 i
  rwa [show outF U 0 W (List.replicate U.length 0)=outL U W from rfl,List.getD_eq_getElem?_getD,List.getElem?_eq_getElem hi] at this
 unfold readN
 split
 ·intro s hs;cases hs
 ·split
  ·intro s hs;cases hs
  ·split
   ·intro s hs;cases hs
   ·split
    ·exact key
    ·intro s hs;cases hs
theorem zjo {U W:List Nat} (hWl:W.length≤8):(readN U W).2.length≤U.length:=by
 have hoo:=z9s U W 0 (List.replicate U.length 0) (by omega) (fun k=>by simp [List.getD_eq_getElem?_getD,List.getElem?_replicate];split<;>simp)
 rw [show outF U 0 W (List.replicate U.length 0)=outL U W from rfl,List.length_replicate] at hoo
 unfold readN
 split
 ·simp
 ·split
  ·simp
  ·split
   ·simp
   ·split
    ·exact Nat.le_of_eq hoo.1
    ·simp
def sidesA (r:Int×List Nat):AV:=.tup [if r.1=0 then sl 1 true ((srt r.2).map tM) else .v (.slice none 0 0),I r.1]
theorem zhr (U:List Nat)(a f:Nat)(O:List Nat):walkO U a f 0 O=O:=by
 cases f with
 |zero=>rfl
 |succ f=>unfold walkO;rw [if_pos rfl]
theorem zd2 (i:Nat): ∀(l:List Int) (U W:List Nat),(∀a∈l,0≤a∧a<(W.length:Int))→l.Nodup→i<U.length→
  (∀k,k≠i→(l.foldl (stepA i) (U,W)).1.getD k 0=U.getD k 0)∧(l≠[]→∃a∈l,(l.foldl (stepA i) (U,W)).1.getD i 0=W.getD a.toNat 0)∧
  ∀a:Nat,a<W.length→(l.foldl (stepA i) (U,W)).2.getD a 0=if ((a:Nat):Int)∈l then i+1 else W.getD a 0
 | [],U,W,_,_,_=>⟨fun _ _=>rfl,fun h=>absurd rfl h,fun a _=>by simp⟩
 |b::r,U,W,hr,hnd,hi=>by
  rw [List.nodup_cons] at hnd
  have hb:=hr b (by simp)
  obtain ⟨b,rfl⟩:=Int.eq_ofNat_of_zero_le hb.1
  have hs:stepA i (U,W) (b:Int)=(U.set i (W.getD b 0),W.set b (i+1)):=by unfold stepA;rw [Int.toNat_natCast]
  obtain ⟨h1,h2,h3⟩:=zd2 i r (U.set i (W.getD b 0)) (W.set b (i+1)) (fun a ha=>by rw [List.length_set];exact hr a (by simp [ha])) hnd.2 (by rw [List.length_set];exact hi)
  rw [List.foldl_cons,hs]
  refine ⟨fun k hk=> ?_,fun _=> ?_,fun a ha=> ?_⟩
  ·rw [h1 k hk,z15,if_neg (by omega)]
  ·by_cases he:r=[]
   ·subst he
    refine ⟨(b:Int),by simp,?_⟩
    rw [List.foldl_nil,z15,if_pos ⟨rfl,hi⟩,Int.toNat_natCast]
   ·obtain ⟨a,ha,e⟩:=h2 he
    refine ⟨a,by simp [ha],?_⟩
    rw [e,z15,if_neg]
    rintro ⟨e2,_⟩
    have ha0:=(hr a (by simp [ha])).1
    have:(b:Int)=a:=by omega
    rw [this] at hnd
    exact hnd.1 ha
  ·rw [h3 a (by rw [List.length_set];exact ha),z15]
   by_cases hm:(a:Int)∈r
   ·rw [if_pos hm,if_pos (by simp [hm])]
   ·rw [if_neg hm]
    by_cases e:b=a
    ·subst e
     rw [if_pos ⟨rfl,ha⟩,if_pos (by simp)]
    ·rw [if_neg (by omega),if_neg]
     rw [List.mem_cons]
     rintro (h|h)
     ·exact e (by omega)
     ·exact hm h
structure GrowInv (L:List Nat) (n:Nat) (P:List Nat) (U W:List Nat):Prop where
 ul:U.length=L.length
 wl:W.length=n
 at': ∀a,a<n→(W.getD a 0=0∧∀j∈P,(L.getD j 0).testBit a=false)∨(∃j∈P,W.getD a 0=j+1∧(L.getD j 0).testBit a=true∧∀i∈P,(L.getD i 0).testBit a=true→Sub (L.getD j 0) (L.getD i 0))
 up: ∀i∈P,Abv L (L.getD i 0) (some i) (U.getD i 0)
theorem zop (m:Nat):(memb m).Nodup:=(z8z m).imp (fun h=>by omega)
theorem zkn {n:Nat} {L:List Nat} (hn:n≤8)(h:Lam n L) {P:List Nat} {U W:List Nat} (hI:GrowInv L n P U W) {i:Nat} (hi:i<L.length)(hiP:i ∉ P)(hP: ∀j∈P,j<L.length)
  (hpc: ∀j∈P,pc (L.getD i 0)≤pc (L.getD j 0)) (hbig: ∀j,j<L.length→pc (L.getD i 0)<pc (L.getD j 0)→j∈P):
  GrowInv L n (P++ [i]) (stepI L (U,W) i).1 (stepI L (U,W) i).2:=by
 have hmi:=zw hi
 have hlt:=h.lt _ hmi
 have hl8:=h.lt8 hn hmi
 have hr:=z7b hn hlt
 obtain ⟨s1,s2,s3⟩:=zd2 i (memb (L.getD i 0)) U W (by rw [hI.wl];exact hr) (zop _) (by rw [hI.ul];exact hi)
 have hlen:=z9c i (memb (L.getD i 0)) (U,W)
 have he:stepI L (U,W) i=(memb (L.getD i 0)).foldl (stepA i) (U,W):=rfl
 rw [he]
 generalize (memb (L.getD i 0)).foldl (stepA i) (U,W)=UW at*
 obtain ⟨U2,W2⟩:=UW
 dsimp only at*
 have hsub: ∀j∈P,∀b,(L.getD i 0).testBit b=true→(L.getD j 0).testBit b=true→Sub (L.getD i 0) (L.getD j 0):=by
  intro j hj b hb1 hb2
  have l2:=h.lt8 hn (zw (hP j hj))
  rcases h.cmp hn hmi (zw (hP j hj)) hb1 hb2 with c|c
  ·exact c
  ·rw [zeu (by omega) (by omega) c (hpc j hj)];exact Sub.refl _
 have hmemb: ∀a:Nat,((a:Nat):Int)∈memb (L.getD i 0)↔(L.getD i 0).testBit a=true:=by
  intro a
  rw [z1p (by omega)]
  constructor
  ·rintro ⟨k,e,hk⟩
   have:a=k:=by omega
   subst this;exact hk
  ·intro hk;exact ⟨a,rfl,hk⟩
 have hnotP: ∀j,j<L.length→j≠i→Sub (L.getD i 0) (L.getD j 0)→j∈P:=by
  intro j hj hne hs
  have l2:=h.lt8 hn (zw hj)
  exact hbig j hj (pc_lt (by omega) (by omega) hs (fun e=>hne (zdr h.nd hi hj e).symm))
 refine ⟨hlen.1.trans hI.ul,hlen.2.trans hI.wl,fun a ha=> ?_,fun k hk=> ?_⟩
 ·rw [s3 a (by rw [hI.wl];exact ha)]
  by_cases hb:(L.getD i 0).testBit a=true
  ·rw [if_pos ((hmemb a).2 hb)]
   refine .inr ⟨i,by simp,rfl,hb,fun j hj hbj=> ?_⟩
   rw [List.mem_append] at hj
   rcases hj with hj|hj
   ·exact hsub j hj a hb hbj
   ·rw [List.mem_singleton.1 hj];exact Sub.refl _
  ·rw [if_neg (fun hm=>hb ((hmemb a).1 hm))]
   rcases hI.at' a ha with ⟨h1,h2⟩ | ⟨j,hj,h1,h2,h3⟩
   ·refine .inl ⟨h1,fun j hj=> ?_⟩
    rw [List.mem_append] at hj
    rcases hj with hj|hj
    ·exact h2 j hj
    ·rw [List.mem_singleton.1 hj];simpa using hb
   ·refine .inr ⟨j,by simp [hj],h1,h2,fun k hk hbk=> ?_⟩
    rw [List.mem_append] at hk
    rcases hk with hk|hk
    ·exact h3 k hk hbk
    ·rw [List.mem_singleton.1 hk] at hbk;exact absurd hbk hb
 ·rw [List.mem_append] at hk
  rcases hk with hk|hk
  ·rw [s1 k (by rintro rfl;exact hiP hk)]
   exact hI.up k hk
  ·rw [List.mem_singleton.1 hk]
   have hne:memb (L.getD i 0)≠[]:=by
    intro e
    have:=pc_pos hl8 (h.ne _ hmi)
    unfold pc at this
    rw [e] at this;simp at this
   obtain ⟨a,ha,e⟩:=s2 hne
   have ha2:=hr a ha
   obtain ⟨a,rfl⟩:=Int.eq_ofNat_of_zero_le ha2.1
   rw [Int.toNat_natCast] at e
   have hb:=(hmemb a).1 ha
   rw [e]
   rcases hI.at' a (by omega) with ⟨h1,h2⟩ | ⟨j,hj,h1,h2,h3⟩
   ·refine .inl ⟨h1,fun j hj hne hs=> ?_⟩
    have:=h2 j (hnotP j hj (by simpa using hne) hs)
    rw [hs a hb] at this;cases this
   ·refine .inr ⟨j,h1,hP j hj,?_,hsub j hj a hb h2,fun k hk hne hs=> ?_⟩
    ·intro e2
     have:j=i:=by simpa using e2
     rw [this] at hj;exact hiP hj
    ·exact zdn (h3 k (hnotP k hk (by simpa using hne) hs) (hs a hb))
theorem zf8 {n:Nat} {L:List Nat} (hn:n≤8)(h:Lam n L): ∀(R P:List Nat) (U W:List Nat),GrowInv L n P U W→(P++R).Perm (List.range L.length)→(P++R).Pairwise (fun i j=>pc (L.getD j 0)≤pc (L.getD i 0))→
  GrowInv L n (P++R) (R.foldl (stepI L) (U,W)).1 (R.foldl (stepI L) (U,W)).2
 | [],P,U,W,hI,_,_=>by rw [List.append_nil];exact hI
 |i::R,P,U,W,hI,hp,hs=>by
  have hnd:(P++i::R).Nodup:=hp.nodup_iff.2 List.nodup_range
  have hall: ∀j∈P++i::R,j<L.length:=fun j hj=>List.mem_range.1 (hp.mem_iff.1 hj)
  have hi:i<L.length:=hall i (by simp)
  have hs2:=List.pairwise_append.1 hs
  have hs3:=List.pairwise_cons.1 hs2.2.1
  have hstep:=zkn hn h hI hi (fun hm=>by
    have:=(List.nodup_append.1 hnd).2.2 i hm i (by simp)
    exact this rfl) (fun j hj=>hall j (by simp [hj]))
   (fun j hj=>hs2.2.2 j hj i (by simp)) (fun j hj hlt=>by
    have hm:=hp.mem_iff.2 (List.mem_range.2 hj)
    rw [List.mem_append,List.mem_cons] at hm
    rcases hm with hm|rfl|hm
    ·exact hm
    ·omega
    ·have:=hs3.1 j hm;omega)
  have e:P++i::R=(P++ [i])++R:=by simp
  rw [e] at hp hs⊢
  rw [List.foldl_cons]
  have:=zf8 hn h R (P++ [i]) (stepI L (U,W) i).1 (stepI L (U,W) i).2 hstep hp hs
  exact this
theorem zkm {n:Nat} {L:List Nat} (hn:n≤8)(h:Lam n L):IsTree L n (growN L n (ordG L)).1 (growN L n (ordG L)).2:=by
 obtain ⟨hp,hs⟩:=zba L
 have h0:GrowInv L n [] (List.replicate L.length 0) (List.replicate n 0):=⟨by simp,by simp,fun a ha=> .inl ⟨by simp [List.getD_eq_getElem?_getD,List.getElem?_replicate];split<;>rfl,fun j hj=>by cases hj⟩,fun i hi=>by cases hi⟩
 have hI:=zf8 hn h (ordG L) [] _ _ h0 (by simpa using hp) (by simpa using hs)
 rw [List.nil_append] at hI
 have hin: ∀k,k<L.length→k∈ordG L:=fun k hk=>hp.mem_iff.2 (List.mem_range.2 hk)
 have hlt:=zju L
 refine ⟨hI.ul,hI.wl,fun k hk=>hI.up k (hin k hk),fun a ha=> ?_⟩
 rcases hI.at' a ha with ⟨h1,h2⟩ | ⟨j,hj,h1,h2,h3⟩
 ·refine .inl ⟨h1,fun j hj _ hs=> ?_⟩
  have:=h2 j (hin j hj)
  rw [zdd hs] at this;cases this
 ·exact .inr ⟨j,h1,hlt j hj,by simp,zjr h2,fun k hk _ hs=>zdn (h3 k (hin k hk) (zdd hs))⟩
theorem zee (U:List Nat)(a:Nat): ∀(f w:Nat) (O:List Nat),(∀t,itC U t w≤O.length)→∀k,k<O.length→∀b,
  ((walkO U a f w O).getD k 0).testBit b=((O.getD k 0).testBit b||(decide (b=a)&&decide (∃t,t<f∧itC U t w=k+1)))
 |0,w,O,_,k,hk,b=>by
  have: ¬ ∃t,t<0∧itC U t w=k+1:=fun ⟨t,h,_⟩=>by omega
  rw [decide_eq_false this,Bool.and_false,Bool.or_false];rfl
 |f+1,w,O,hle,k,hk,b=>by
  by_cases hw:w=0
  ·subst hw
   rw [zhr]
   have: ¬ ∃t,t<f+1∧itC U t 0=k+1:=fun ⟨t,_,h⟩=>by rw [z12] at h;omega
   rw [decide_eq_false this,Bool.and_false,Bool.or_false]
  ·have e:walkO U a (f+1) w O=walkO U a f (upC U w) (O.set (w-1) (O.getD (w-1) 0|||2^a)):=by
    show (if w=0 then O else _)=_
    rw [if_neg hw]
   have hw1:w≤O.length:=hle 0
   have ih:=zee U a f (upC U w) (O.set (w-1) (O.getD (w-1) 0|||2^a)) (fun t=>by rw [List.length_set];exact hle (t+1)) k (by rw [List.length_set];exact hk) b
   rw [e,ih,z15]
   have hsplit:decide (∃t,t<f+1∧itC U t w=k+1)=(decide (w=k+1)||decide (∃t,t<f∧itC U t (upC U w)=k+1)):=by
    rw [Bool.eq_iff_iff]
    simp only [Bool.or_eq_true,decide_eq_true_eq]
    constructor
    ·rintro ⟨t,h1,h2⟩
     cases t with
     |zero=>exact .inl h2
     |succ t=>exact .inr ⟨t,by omega,h2⟩
    ·rintro (h| ⟨t,h1,h2⟩)
     ·exact ⟨0,by omega,h⟩
     ·exact ⟨t+1,by omega,h2⟩
   rw [hsplit]
   by_cases hk2:w=k+1
   ·rw [if_pos ⟨by omega,hk⟩,Nat.testBit_or,Nat.testBit_two_pow,decide_eq_true hk2,Bool.true_or,Bool.and_true]
    rw [show w-1=k by omega]
    have e3:decide (a=b)=decide (b=a):=by simp only [eq_comm]
    rw [e3]
    cases (O.getD k 0).testBit b<;>cases decide (b=a)<;>simp
   ·rw [if_neg (by omega),decide_eq_false hk2,Bool.false_or]
theorem zgx (U:List Nat)(m:Nat)(hU: ∀u∈U,u≤m): ∀(W:List Nat) (a:Nat) (O:List Nat),a+W.length≤8→O.length=m→(∀w∈W,w≤m)→(∀k,O.getD k 0<256)→∀k,k<m→∀b,
  ((outF U a W O).getD k 0).testBit b=((O.getD k 0).testBit b||(decide (a≤b∧b<a+W.length)&&decide (∃t,t<U.length∧itC U t (W.getD (b-a) 0)=k+1)))
 | [],a,O,_,_,_,_,k,hk,b=>by
  have: ¬(a≤b∧b<a+([]:List Nat).length):=by simp
  rw [decide_eq_false this,Bool.false_and,Bool.or_false];rfl
 |w::r,a,O,hl,hO,hW,hb,k,hk,b=>by
  rw [List.length_cons] at hl
  have hwo:=zaf U a (by omega) U.length w O hb
  have hbit:=zee U a U.length w O (fun t=>by rw [hO];exact zkj hU t w (hW w (by simp))) k (by rw [hO];exact hk) b
  have ih:=zgx U m hU r (a+1) (walkO U a U.length w O) (by omega) (by rw [hwo.1,hO]) (fun x hx=>hW x (by simp [hx])) hwo.2 k hk b
  show ((outF U (a+1) r (walkO U a U.length w O)).getD k 0).testBit b=_
  rw [ih,hbit]
  by_cases h1:b=a
  ·subst h1
   have e1: ¬(b+1≤b∧b<b+1+r.length):=by omega
   have e2:b≤b∧b<b+(w::r).length:=⟨Nat.le_refl _,by simp⟩
   rw [decide_eq_false e1,decide_eq_true e2,Nat.sub_self,List.getD_cons_zero]
   simp
  ·rw [decide_eq_false h1,Bool.false_and,Bool.or_false]
   by_cases h2:a+1≤b∧b<a+1+r.length
   ·have e2:a≤b∧b<a+(w::r).length:=⟨by omega,by rw [List.length_cons];omega⟩
    rw [decide_eq_true h2,decide_eq_true e2,show b-a=(b-(a+1))+1 by omega]
    rfl
   ·have e2: ¬(a≤b∧b<a+(w::r).length):=by rw [List.length_cons];omega
    rw [decide_eq_false h2,decide_eq_false e2]
    simp
theorem zm2 {U W:List Nat} (hU: ∀u∈U,u≤U.length)(hW: ∀w∈W,w≤U.length)(hWl:W.length≤8) {k:Nat} (hk:k<U.length)(b:Nat):
  ((outL U W).getD k 0).testBit b=(decide (b<W.length)&&decide (∃t,t<U.length∧itC U t (W.getD b 0)=k+1)):=by
 have h:=zgx U U.length hU W 0 (List.replicate U.length 0) (by omega) (by simp) hW (fun k=>by simp [List.getD_eq_getElem?_getD,List.getElem?_replicate];split<;>simp) k hk b
 have e0:((List.replicate U.length 0).getD k 0).testBit b=false:=by
  simp [List.getD_eq_getElem?_getD,List.getElem?_replicate,hk]
 unfold outL
 rw [h,e0,Bool.false_or,Nat.zero_add,Nat.sub_zero]
 simp
theorem zhj {A B:List Nat} (hl:A.length=B.length)(h: ∀k,k<A.length→A.getD k 0=B.getD k 0):A=B:=by
 apply List.ext_getElem hl
 intro i h1 h2
 have:=h i h1
 rw [List.getD_eq_getElem?_getD,List.getD_eq_getElem?_getD,List.getElem?_eq_getElem h1,List.getElem?_eq_getElem h2] at this
 exact this
theorem zf4 (U:List Nat): ∀(us:List Nat) (s:Nat) (Q:List Nat) (c:Nat),c<Q.length→s+us.length<Q.length→(∀u∈us,u<Q.length)→
  (laneF U s us Q).getD c 0=Q.getD c 0+(if s<c∧c≤s+us.length then 1 else 0)+us.count c
 | [],s,Q,c,_,_,_=>by
  rw [if_neg (by simp)];rfl
 |u::r,s,Q,c,hc,hs,hu=>by
  rw [List.length_cons] at hs
  have hl:=zbi Q (s,u)
  have ih:=zf4 U r (s+1) (laneS Q (s,u)) c (by rw [hl];exact hc) (by rw [hl];omega) (fun x hx=>by rw [hl];exact hu x (by simp [hx]))
  show (laneF U (s+1) r (laneS Q (s,u))).getD c 0=_
  have hul:=hu u (by simp)
  have e:(laneS Q (s,u)).getD c 0=Q.getD c 0+(if c=s+1 then 1 else 0)+(if u=c then 1 else 0):=by
   unfold laneS
   dsimp only
   have e2: ∀x,x<Q.length→(Q.set (s+1) (Q.getD (s+1) 0+1)).getD x 0=Q.getD x 0+(if x=s+1 then 1 else 0):=by
    intro x hx
    rw [z15]
    by_cases h:s+1=x
    ·rw [if_pos ⟨h,hx⟩,if_pos h.symm,h]
    ·rw [if_neg (fun h2=>h h2.1),if_neg (fun h2=>h h2.symm),Nat.add_zero]
   rw [z15,List.length_set]
   by_cases h:u=c
   ·subst h
    rw [if_pos ⟨rfl,hc⟩,e2 u hc,if_pos rfl]
   ·rw [if_neg (fun h2=>h h2.1),if_neg h,e2 c hc];omega
  rw [ih,e,List.count_cons,List.length_cons]
  have e3:(if (u==c)=true then 1 else 0)=(if u=c then 1 else 0):=by simp
  rw [e3]
  repeat' split
  all_goals omega
theorem z94 {U:List Nat} (hU: ∀u∈U,u≤U.length) {c:Nat} (hc:c≤U.length):(laneL U).getD c 0=min c 1+U.count c:=by
 unfold laneL
 rw [zf4 U U 0 _ c (by simp;omega) (by simp) (fun u hu=>by have:=hU u hu;simp;omega)]
 have e0:(List.replicate (U.length+1) 0).getD c 0=0:=by simp [List.getD_eq_getElem?_getD,List.getElem?_replicate];split<;>rfl
 rw [e0]
 by_cases h:c=0
 ·subst h;simp
 ·rw [if_pos (by omega)];omega
theorem z95 (W:List Nat): ∀(Q:List Nat) (c:Nat),lackF W c Q=true↔∃i,i<Q.length∧Q.getD i 0<3∧(c+i) ∉ W
 | [],c=>by simp [lackF]
 |k::r,c=>by
  have ih:=z95 W r (c+1)
  simp only [lackF,Bool.or_eq_true,ih,lackB,Bool.and_eq_true,decide_eq_true_eq]
  constructor
  ·rintro (⟨h1,h2⟩ | ⟨i,h1,h2,h3⟩)
   ·exact ⟨0,by simp,h1,h2⟩
   ·exact ⟨i+1,by simpa using h1,h2,by rwa [show c+(i+1)=c+1+i by omega]⟩
  ·rintro ⟨i,h1,h2,h3⟩
   cases i with
   |zero=>exact .inl ⟨h2,h3⟩
   |succ i=>exact .inr ⟨i,by simpa using h1,h2,by rwa [show c+1+i=c+(i+1) by omega]⟩
attribute [local go_sem] m_ x_ l_ k_ o_ t_ a_ s_ q_ b_ c_ u_ g_ zl za zg zm z0g z0f ze zi zj z6 zh z0h
theorem c26x (n:Nat)(h2:2≤n)(hn:n≤8)(nl:Bool)(X:List Nat)(hX: ∀v∈X,v<2^n∧v≠0∧v≠2^n-1)(hnd:(X.map (smlN n)).Nodup)(hl:X.length≤13)(hc:clP (X.map (smlN n)) 0≠none)(st:St):
  run L 26 [J n,sl 1 nl (X.map tM)] st=some (.tup [.agg [.v (.slice none 0 0),.v (.slice none 0 0)],I 12],st):=by
 rw [run_pure (fn:=ir26) rfl rfl]
 have h79:=(c79 n h2 hn nl X hX hnd hl).2 hc
 generalize X.map (smlN n)=ss at*
 have he:ss≠[]:=by rintro rfl;exact hc rfl
 rw [zf5 he] at h79
 have hsv:=za1 1 ss
 simp only [ir26,go_sem,h79,show pure 79=false from rfl,shStore,shV,shVs,hsv,keepR,keepT,ownTop]
theorem Sides.lam {n:Nat} {ss:List Nat} (h:Sides n ss)(hn:n≤8)(hc:clP ss 0=none):Lam n ss:=by
 refine ⟨h.lt,h.ne,h.even,h.nd,fun s hs t ht=> ?_⟩
 have hp:=(zhm ss 0).1 hc
 have h8: ∀s∈ss,s<256:=fun s hs=>Nat.lt_of_lt_of_le (h.lt s hs) (Nat.pow_le_pow_right (n:=2) (by decide) hn)
 by_cases e:s=t
 ·subst e;exact znr (h8 s hs)
 ·rw [List.pairwise_iff_getElem] at hp
  obtain ⟨i,hi,rfl⟩:=List.getElem_of_mem hs
  obtain ⟨j,hj,rfl⟩:=List.getElem_of_mem ht
  rcases Nat.lt_trichotomy i j with h1|h1|h1
  ·exact hp i j hi hj h1
  ·subst h1;exact absurd rfl e
  ·rw [zns];exact hp j i hj hi h1
theorem Lam.srt {n:Nat} {ss:List Nat} (h:Lam n ss)(hn:n≤8):Lam n (srt ss):=by
 have h8: ∀s∈ss,s<256:=fun s hs=>h.lt8 hn hs
 have hp:=z8e h8
 exact ⟨fun s hs=>h.lt s (hp.mem_iff.1 hs),fun s hs=>h.ne s (hp.mem_iff.1 hs),fun s hs=>h.even s (hp.mem_iff.1 hs),hp.nodup_iff.2 h.nd,fun s hs t ht=>h.ag s (hp.mem_iff.1 hs) t (hp.mem_iff.1 ht)⟩
attribute [local go_sem] m_ x_ l_ k_ o_ t_ a_ s_ q_ b_ c_ u_ g_ zl za zg zm z0g z0f ze zi zj z6 zh z0h
def Num (A:List (List AV)):Prop:=∀C∈A,∃xs:List Value,C=xs.map AV.v
theorem Num.nil:Num []:=fun _ h=>by cases h
theorem Num.one8 (ss:List Nat):Num [ss.map u8]:=fun C hC=>⟨ss.map fun (n:Nat)=>Value.int .u8 (n:Int),by rw [List.mem_singleton.1 hC,List.map_map];rfl⟩
theorem Num.kS (ss:List Nat):Num (kS ss):=by
 unfold Vm.kS;split
 ·exact Num.nil
 ·exact Num.one8 ss
theorem Num.calm {A:List (List AV)} (h:Num A):Calm A:=by
 induction A with
 |nil=>exact ⟨fun _=>rfl,fun _ _ _=>rfl⟩
 |cons C r ih=>
  obtain ⟨xs,rfl⟩:=h C (by simp)
  exact (ih (fun D hD=>h D (by simp [hD]))).cons (fun n=>z77 (fun x=>AV.v x) n (fun _=>rfl) xs) (fun n T acc=>z4f (fun x=>AV.v x) n T (fun _ _=>rfl) xs acc)
theorem zbh {U:List Nat} {w s:Nat} (hs:itC U (s+1) w=w): ∀(k:Nat),itC U (k*(s+1)) w=w
 |0=>by rw [Nat.zero_mul];rfl
 |k+1=>by rw [Nat.succ_mul,z0d,zbh hs k,hs]
def two (s w x y z:Nat):Bool:=s.testBit w==s.testBit x&&s.testBit y==s.testBit z&&s.testBit w !=s.testBit y
section
variable {n:Nat} {L U W:List Nat} (hn:n≤8) (hU: ∀u∈U,u≤U.length) (hW: ∀w∈W,w≤U.length) (hWl:W.length=n) (hul:U.length=L.length) (hend: ∀w,w≤U.length→itC U U.length w=0) (hout:outL U W=L)
include hn hU hW hWl hul hend hout
theorem z8f {k:Nat} (hk:k<L.length)(b:Nat):(L.getD k 0).testBit b=true↔b<n∧∃t,itC U t (W.getD b 0)=k+1:=by
 have h:=zm2 hU hW (by omega) (k:=k) (by omega) b
 rw [hout] at h
 rw [h,hWl,Bool.and_eq_true,decide_eq_true_eq,decide_eq_true_eq]
 constructor
 ·rintro ⟨h1,t,_,h2⟩;exact ⟨h1,t,h2⟩
 ·rintro ⟨h1,t,h2⟩
  refine ⟨h1,t,?_,h2⟩
  apply Nat.lt_of_not_le;intro hle
  have hw:=hend (W.getD b 0) (hW _ (zw (by omega)))
  rw [show t=U.length+(t-U.length) by omega,z0d,hw,z12] at h2
  omega
theorem z9o {i j t:Nat} (hi:i<L.length)(hj:j<L.length)(h:itC U t (i+1)=j+1):Sub (L.getD i 0) (L.getD j 0):=by
 intro b hb
 obtain ⟨h1,s,h2⟩:=(z8f hn hU hW hWl hul hend hout hi b).1 hb
 exact (z8f hn hU hW hWl hul hend hout hj b).2 ⟨h1,s+t,by rw [z0d,h2,h]⟩
theorem zlo (h:Lam n L) {k:Nat} (hk:k<L.length):Abv L (L.getD k 0) (some k) (U.getD k 0):=by
 obtain ⟨a,ha⟩:=znw (h.ne _ (zw hk))
 obtain ⟨han,t0,e0⟩:=(z8f hn hU hW hWl hul hend hout hk a).1 ha
 have key: ∀j,j<L.length→j≠k→Sub (L.getD k 0) (L.getD j 0)→∃s,itC U s (U.getD k 0)=j+1:=by
  intro j hj hjk hsub
  obtain ⟨_,s,e⟩:=(z8f hn hU hW hWl hul hend hout hj a).1 (hsub a ha)
  rcases Nat.lt_trichotomy s t0 with h1|h1|h1
  ·exfalso
   have e2:itC U (t0-s) (j+1)=k+1:=by rw [←e,←z0d,show s+(t0-s)=t0 by omega,e0]
   have:=z9o hn hU hW hWl hul hend hout hj hk e2
   exact hjk (zdr h.nd hj hk (this.anti hsub))
  ·subst h1;rw [e0] at e;omega
  ·refine ⟨s-t0-1,?_⟩
   have e2:itC U (s-t0) (k+1)=j+1:=by rw [←e0,←z0d,show t0+(s-t0)=s by omega,e]
   rw [show s-t0=(s-t0-1)+1 by omega] at e2
   have e3:itC U (s-t0-1) (upC U (k+1))=j+1:=e2
   rwa [zag] at e3
 by_cases h0:U.getD k 0=0
 ·left
  refine ⟨h0,fun j hj hjk hsub=> ?_⟩
  obtain ⟨s,e⟩:=key j hj (fun e=>hjk (by rw [e])) hsub
  rw [h0,z12] at e;omega
 ·right
  have hv:=hU _ (zw (L:=U) (k:=k) (by omega))
  obtain ⟨i,hi⟩: ∃i,U.getD k 0=i+1:=⟨U.getD k 0-1,by omega⟩
  have hil:i<L.length:=by omega
  have hup:itC U 1 (k+1)=i+1:=by
   show upC U (k+1)=i+1
   rw [zag,hi]
  have hik:i≠k:=by
   rintro rfl
   have h1:=zbh (U:=U) (w:=i+1) (s:=0) hup U.length
   rw [Nat.zero_add,Nat.mul_one,hend _ (by omega)] at h1
   omega
  refine ⟨i,hi,hil,fun e=>hik (by simpa using e),z9o hn hU hW hWl hul hend hout hk hil hup,fun j hj hjk hsub=> ?_⟩
  obtain ⟨s,e⟩:=key j hj (fun e=>hjk (by rw [e])) hsub
  rw [hi] at e
  exact zdn (z9o hn hU hW hWl hul hend hout hil hj e)
end
theorem zp7 {n:Nat} {L U U2 A A2:List Nat} (hn:n≤8)(h:Lam n L)(ht:IsTree L n U A)(ht2:IsTree L n U2 A2):U=U2∧A=A2:=by
 constructor
 ·apply zhj (by rw [ht.ul,ht2.ul])
  intro k hk
  have hk2:k<L.length:=by rw [←ht.ul];exact hk
  exact (ht.up k hk2).uniq h hn (h.ne _ (zw hk2)) (ht2.up k hk2)
 ·apply zhj (by rw [ht.al,ht2.al])
  intro a ha
  have ha2:a<n:=by rw [←ht.al];exact ha
  refine (ht.at' a ha2).uniq h hn (fun e=> ?_) (ht2.at' a ha2)
  have:=Nat.two_pow_pos a
  omega
attribute [local go_sem] m_ x_ l_ k_ o_ t_ a_ s_ q_ b_ c_ u_ g_ zl za zg zm z0g z0f ze zi zj z6 zh z0h
theorem mapJ (y:List Nat):(y.map fun (n:Nat)=>(n:Int)).map I=y.map J:=by rw [List.map_map];rfl
inductive GK
 |nil
 |lst
 |odd (a:Addr) (cap:Nat)
abbrev GS:=GK×List Int
def gK:GK→AV
 | .nil=> .v (.slice none 0 0)
 | .lst=> .lst .any 1 []
 | .odd a c=> .v (.slice (some a) 0 c)
def gM (p:GS):AV:=if p.2.length=0 then gK p.1 else .lst .any 1 (p.2.map I)
theorem gM_sl (nl : Bool) (l : List Int) : ∃ k, gM (k, l) = sl 1 nl (l.map I) := by
  cases l with
  | nil => cases nl
           · exact ⟨.lst, rfl⟩
           · exact ⟨.nil, rfl⟩
  | cons a r => exact ⟨.nil, by rw [zac (by simp)]; rfl⟩
def prevB (p:Option Int) (a:Int):Bool:=match p with|none=>false|some b=>decide (a≤b)
def rowE (n:Nat):Option Int→List Int→Int
 |_,[]=>0
 |p,a::r=>if a<0∨(n:Int)≤a then 2 else if prevB p a=true then 7 else rowE n (some a) r
def sideE (n:Nat) (l:List Int):Int:=if l=[] then 4 else rowE n none l
def maskL:List Int→Nat
 | []=>0
 |a::r=>2^a.toNat|||maskL r
theorem zcc {n:Nat}: ∀(l:List Int) (p:Option Int),rowE n p l=0→(∀a∈l,0≤a∧a<(n:Int))∧l.Pairwise (· < ·)∧(∀b,p=some b→∀a∈l,b<a)
 | [],p,_=>⟨by simp,List.Pairwise.nil,by simp⟩
 |a::r,p,h=>by
  unfold rowE at h
  split at h
  ·cases h
  ·rename_i h1
   split at h
   ·cases h
   ·rename_i h2
    obtain ⟨i1,i2,i3⟩:=zcc r (some a) h
    have i3:=i3 a rfl
    refine ⟨?_,List.pairwise_cons.2 ⟨i3,i2⟩,?_⟩
    ·intro b hb
     rw [List.mem_cons] at hb
     rcases hb with rfl|hb
     ·omega
     ·exact i1 b hb
    ·intro b hb c hc
     subst hb
     have:b<a:=by simpa [prevB] using h2
     rw [List.mem_cons] at hc
     rcases hc with rfl|hc
     ·exact this
     ·have:=i3 c hc;omega
theorem z7c: ∀(l:List Int),(∀a∈l,0≤a)→∀i:Nat,(maskL l).testBit i=decide ((i:Int)∈l)
 | [],_,i=>by simp [maskL]
 |a::r,h,i=>by
  have ih:=z7c r (fun b hb=>h b (by simp [hb])) i
  have ha:=h a (by simp)
  unfold maskL
  rw [Nat.testBit_or,ih,Nat.testBit_two_pow]
  rw [Bool.eq_iff_iff]
  simp only [Bool.or_eq_true,decide_eq_true_eq,List.mem_cons]
  constructor
  ·rintro (h1|h1)
   ·left;omega
   ·right;exact h1
  ·rintro (h1|h1)
   ·left;omega
   ·right;exact h1
theorem ze9: ∀(l k:List Int),l.Pairwise (· < ·)→k.Pairwise (· < ·)→(∀a,a∈l↔a∈k)→l=k
 | [],[],_,_,_=>rfl
 | [],b::k,_,_,h=>by have:=(h b).2 (by simp);cases this
 |a::l,[],_,_,h=>by have:=(h a).1 (by simp);cases this
 |a::l,b::k,h1,h2,h=>by
  rw [List.pairwise_cons] at h1 h2
  have e:a=b:=by
   have ha:=(h a).1 (by simp)
   have hb:=(h b).2 (by simp)
   rw [List.mem_cons] at ha hb
   rcases ha with ha|ha
   ·exact ha
   ·rcases hb with hb|hb
    ·exact hb.symm
    ·have:=h2.1 a ha;have:=h1.1 b hb;omega
  subst e
  rw [ze9 l k h1.2 h2.2 (fun c=>by
   constructor
   ·intro hc
    have:=(h c).1 (by simp [hc])
    rw [List.mem_cons] at this
    rcases this with rfl|this
    ·have:=h1.1 c hc;omega
    ·exact this
   ·intro hc
    have:=(h c).2 (by simp [hc])
    rw [List.mem_cons] at this
    rcases this with rfl|this
    ·have:=h2.1 c hc;omega
    ·exact this)]
theorem zdt {n:Nat} {l:List Int} (h: ∀a∈l,0≤a∧a<(n:Int)):maskL l<2^n:=by
 apply Nat.lt_pow_two_of_testBit
 intro i hi
 rw [z7c l (fun a ha=>(h a ha).1)]
 apply decide_eq_false
 intro hm
 have:=(h _ hm).2
 omega
theorem zbf {n:Nat} (hn:n≤8) {l:List Int} (h:rowE n none l=0):memb (maskL l)=l:=by
 obtain ⟨h1,h2,_⟩:=zcc l none h
 have hl:=zdt h1
 have h2n:2^n≤256:=Nat.pow_le_pow_right (n:=2) (by decide) hn
 apply ze9 _ _ (z8z _) h2
 intro a
 rw [z1p (by omega)]
 constructor
 ·rintro ⟨i,rfl,hi⟩
  rw [z7c l (fun a ha=>(h1 a ha).1)] at hi
  simpa using hi
 ·intro ha
  obtain ⟨k,rfl⟩:=Int.eq_ofNat_of_zero_le (h1 a ha).1
  refine ⟨k,rfl,?_⟩
  rw [z7c l (fun a ha=>(h1 a ha).1)]
  simpa using ha
theorem zk1 {l:List Int} (h: ∀a∈l,0≤a)(hne:l≠[]):maskL l≠0:=by
 obtain ⟨a,r,rfl⟩: ∃a r,l=a::r:=by cases l with|nil=>exact absurd rfl hne|cons a r=>exact ⟨a,r,rfl⟩
 intro h0
 have:=z7c _ h a.toNat
 rw [h0,Nat.zero_testBit,Int.toNat_of_nonneg (h a (by simp))] at this
 simp at this
def openS (n:Nat):List GS→List Nat→Int×List Nat
 | [],ss=>(0,ss)
 |p::r,ss=>if sideE n p.2≠0 then (sideE n p.2,ss) else
  if smlN n (maskL p.2)=0 then (5,ss) else if smlN n (maskL p.2)∈ss then (6,ss) else openS n r (ss++ [smlN n (maskL p.2)])
def openG (n:Int) (G:List GS):Int×List Nat:=if n<2∨8<n then (1,[]) else if 13<G.length then (3,[]) else openS n.toNat G []
theorem zja {n v:Nat} (hn:1≤n)(h:smlN n v≠0):v≠2^n-1:=by
 rintro rfl
 apply h
 unfold smlN
 rw [if_pos (by rw [z9a];simp;omega),Nat.xor_self]
theorem zks (b:GK) {l:List Int} (h:l≠[]):gM (b,l)=tAV l:=by
 have h2:l.map I≠[]:=by simpa using h
 unfold gM tAV
 rw [zac h2,if_neg (fun h3=>h (List.eq_nil_of_length_eq_zero h3))]
theorem zgz {n:Nat} (h1:1≤n)(hn:n≤8): ∀(G:List GS) (ss T:List Nat),openS n G ss=(0,T)→
  ∃X:List Nat,G.map gM=X.map tM∧G.map (·.2)=X.map memb∧(∀v∈X,v<2^n∧v≠0∧v≠2^n-1)∧T=ss++X.map (smlN n)∧(ss.Nodup→T.Nodup)
 | [],ss,T,h=>by
  unfold openS at h
  simp only [Prod.mk.injEq,true_and] at h
  subst h
  exact ⟨[],rfl,rfl,by simp,by simp,fun h=>h⟩
 |(b,l)::r,ss,T,h=>by
  unfold openS at h
  split at h
  ·rename_i h0
   rw [Prod.mk.injEq] at h;exact absurd h.1 h0
  ·rename_i h0
   split at h
   ·rw [Prod.mk.injEq] at h;exact absurd h.1 (by decide)
   ·rename_i h3
    split at h
    ·rw [Prod.mk.injEq] at h;exact absurd h.1 (by decide)
    ·rename_i h4
     have h0:sideE n l=0:=by simpa using h0
     obtain ⟨X,e1,e2,e3,e4,e5⟩:=zgz h1 hn r _ T h
     have hne:l≠[]:=by rintro rfl;simp [sideE] at h0
     have hrow:rowE n none l=0:=by unfold sideE at h0;rwa [if_neg hne] at h0
     have hm:=zbf hn hrow
     have hr:=(zcc l none hrow).1
     refine ⟨maskL l::X,?_,?_,?_,?_,?_⟩
     ·rw [List.map_cons,List.map_cons,e1,zks b hne,tM,hm]
     ·rw [List.map_cons,List.map_cons,e2,hm]
     ·intro v hv
      rw [List.mem_cons] at hv
      rcases hv with rfl|hv
      ·exact ⟨zdt hr,zk1 (fun a ha=>(hr a ha).1) hne,zja h1 h3⟩
      ·exact e3 v hv
     ·rw [e4];simp
     ·intro hnd
      apply e5
      rw [List.nodup_append]
      refine ⟨hnd,by simp,?_⟩
      intro x hx y hy
      rw [List.mem_singleton] at hy
      subst hy
      rintro rfl
      exact h4 hx
theorem zh0 {n:Int} {G:List GS} (h:(openG n G).1=0): ∃(m:Nat) (X:List Nat),n=m∧2≤m∧m≤8∧G.length≤13∧X.length=G.length∧G.map gM=X.map tM∧G.map (·.2)=X.map memb∧(∀v∈X,v<2^m∧v≠0∧v≠2^m-1)∧(openG n G).2=X.map (smlN m)∧(X.map (smlN m)).Nodup:=by
 unfold openG at h⊢
 split at h
 ·cases h
 ·rename_i h1
  rw [if_neg h1]
  split at h
  ·cases h
  ·rename_i h2
   rw [if_neg h2]
   obtain ⟨X,e1,e2,e3,e4,e5⟩:=zgz (n:=n.toNat) (by omega) (by omega) G [] _ (Prod.ext h rfl)
   rw [List.nil_append] at e4
   refine ⟨n.toNat,X,by omega,by omega,by omega,by omega,?_,e1,e2,e3,e4,?_⟩
   ·have:=congrArg List.length e1;simpa using this.symm
   ·have:=e5 List.nodup_nil
    rw [e4] at this;exact this
attribute [local go_sem] m_ x_ l_ k_ o_ t_ a_ s_ q_ b_ c_ u_ g_ zl za zg zm z0g z0f ze zi zj z6 zh z0h
theorem z7f (p:GS)(R:AV→Prop)(h1:R (.v (.slice none 0 0)))(h2: ∀xs,R (.lst .any 1 xs))(h3: ∀a c,R (.v (.slice (some a) 0 c))):R (gM p):=by
 unfold gM
 split
 ·unfold gK;split
  ·exact h1
  ·exact h2 _
  ·exact h3 _ _
 ·exact h2 _
theorem z0u (p:GS):(gM p).shaped=true:=z7f p (fun a=>a.shaped=true) rfl (fun _=>rfl) (fun _ _=>rfl)
theorem z1t (p:GS):(gM p).cells=[gM p]:=z7f p (fun a=>a.cells=[a]) rfl (fun _=>rfl) (fun _ _=>rfl)
theorem z1r (p:GS):Ev.isAgg (gM p)=false:=z7f p (fun a=>Ev.isAgg a=false) rfl (fun _=>rfl) (fun _ _=>rfl)
theorem zx (p:GS):storable (gM p)=true:=z7f p (fun a=>storable a=true) rfl (fun _=>rfl) (fun _ _=>rfl)
theorem z1o (n:Nat)(p:GS):okRef n (gM p)=true:=z7f p (fun a=>okRef n a=true) rfl (fun _=>rfl) (fun _ _=>rfl)
theorem z6n (p:GS):pub (gM p)=gM p:=z7f p (fun a=>pub a=a) rfl (fun xs=>z4h 1 false xs) (fun _ _=>rfl)
attribute [local go_sem] m_ x_ l_ k_ o_ t_ a_ s_ q_ b_ c_ u_ g_ z0u z1t z1r zx z1o z6n
def rowAt (n:Nat) (l:List Int) (i:Nat):Int:=rowE n (if i=0 then none else l[i-1]?) (l.drop i)
theorem z9q (n:Nat)(l:List Int)(i:Nat)(h:i<l.length):rowAt n l i=if l[i]<0∨(n:Int)≤l[i] then 2 else if prevB (if i=0 then none else l[i-1]?) l[i]=true then 7 else rowAt n l (i+1):=by
 unfold rowAt
 rw [List.drop_eq_getElem_cons h]
 show (if _ then _ else if _ then _ else rowE n (some l[i]) (l.drop (i+1)))=_
 rw [if_neg (show ¬i+1=0 by omega),Nat.add_sub_cancel,List.getElem?_eq_getElem h]
theorem zax (n:Nat)(l:List Int)(i:Nat)(h: ¬i<l.length):rowAt n l i=0:=by
 unfold rowAt
 rw [List.drop_eq_nil_of_le (by omega)]
 cases (if i=0 then none else l[i-1]?)<;>rfl
theorem zig (n:Nat)(l:List Int)(hlen:l.length<1000)(nl:Bool)(G:List GS)(f:Int)(k:Nat)(i:Nat)(hok:i≤l.length)(env:Env)(st:St)
  (hg:gcAV true 0 0 (canon env [0,6,7,9,27,28,29,36,37,38]) st=([(0,J n),(6,.v (.int .u8 f)),(7,.v (.slice none 0 0)),(9,tAV l),(27,sl 1 nl (G.map gM)),(28,J G.length),(29,J k),(36,tAV l),(37,J l.length),(38,J i)],⟨[],[]⟩)):
  ∃x_1 en s,lim (headed pure (run L) true [0,6,7,9,27,28,29,36,37,38] lp70_0 0 0) env st=some (x_1,en,s)∧(s=⟨[],[]⟩∧((rowAt n l i=0∧x_1=.exit 3∧en.get 0=J n∧en.get 6=.v (.int .u8 f)∧en.get 7=.v (.slice none 0 0)∧en.get 9=tAV l∧en.get 27=sl 1 nl (G.map gM)∧en.get 28=J G.length∧en.get 29=J k∧en.get 3000000=.any)∨(rowAt n l i≠0∧x_1=.ret∧en.get 4=.v (.slice none 0 0)∧en.get 5=I (rowAt n l i)))):=by
 refine z7 (α:=Nat) (fun i=>l.length-i) (fun i=>i≤l.length) (fun i=>([(0,J n),(6,.v (.int .u8 f)),(7,.v (.slice none 0 0)),(9,tAV l),(27,sl 1 nl (G.map gM)),(28,J G.length),(29,J k),(36,tAV l),(37,J l.length),(38,J i)],⟨[],[]⟩)) (fun i x_1 en s=>s=⟨[],[]⟩∧((rowAt n l i=0∧x_1=.exit 3∧en.get 0=J n∧en.get 6=.v (.int .u8 f)∧en.get 7=.v (.slice none 0 0)∧en.get 9=tAV l∧en.get 27=sl 1 nl (G.map gM)∧en.get 28=J G.length∧en.get 29=J k∧en.get 3000000=.any)∨(rowAt n l i≠0∧x_1=.ret∧en.get 4=.v (.slice none 0 0)∧en.get 5=I (rowAt n l i)))) (fun i hok=> ?_) i hok env st hg
 by_cases h:i<l.length
 ·have hs:=zd i (by omega)
  have hx:indexSAV 1 (tAV l) (.v (.int .i64 (i:Int)))=some (.eptr (I l[i]) 0):=zk true l i h
  have hlt:((i:Int)<(l.length:Int))=True:=eT (by omega)
  have hst:=z9q n l i h
  rw [hst]
  by_cases q1:l[i]<0
  ·rw [if_pos (.inl q1)]
   simp only [go_sem,lp70_0,hlt,hs,hx,q1]
   decide
  ·by_cases q2:(n:Int)≤l[i]
   ·rw [if_pos (.inr q2)]
    simp only [go_sem,lp70_0,hlt,hs,hx,q1,q2]
    decide
   ·rw [if_neg (not_or.2 ⟨q1,q2⟩)]
    by_cases h0:0<i
    ·have q3:((0:Int)<(i:Int))=True:=eT (by omega)
     have hm:IntKind.i64.wrap ((i:Int)-1)=((i-1:Nat):Int):=by
      rw [←w64 (i-1) (by omega)];congr 1;omega
     have hx2:indexSAV 1 (tAV l) (.v (.int .i64 ((i-1:Nat):Int)))=some (.eptr (I (l[i-1]'(by omega))) 0):=zk true l (i-1) (by omega)
     rw [if_neg (show ¬i=0 by omega),List.getElem?_eq_getElem (show i-1<l.length by omega)]
     generalize l[i-1]'(by omega)=b at*
     generalize l[i]=a at*
     have hpb:prevB (some b) a=decide (a≤b):=rfl
     rw [hpb]
     by_cases q4:a≤b
     ·rw [if_pos (by simpa using q4)]
      simp only [go_sem,lp70_0,hlt,hs,hx,q1,q2,q3,hm,hx2,q4]
      decide
     ·rw [if_neg (by simpa using q4)]
      simp only [go_sem,lp70_0,hlt,hs,hx,q1,q2,q3,hm,hx2,q4]
      refine ⟨i+1,by simp only [go_sem,z3,z4,z5,z1w]<;>rfl,?_,?_,fun x en s hq=> ?_⟩
      ·omega
      ·omega
      ·exact hq
    ·have q3:((0:Int)<(i:Int))=False:=eF (by omega)
     rw [if_pos (show i=0 by omega)]
     generalize l[i]=a at*
     have hpb:prevB none a=false:=rfl
     rw [hpb,if_neg (by simp)]
     simp only [go_sem,lp70_0,hlt,hs,hx,q1,q2,q3]
     refine ⟨i+1,by simp only [go_sem,z3,z4,z5,z1w]<;>rfl,?_,?_,fun x en s hq=> ?_⟩
     ·omega
     ·omega
     ·exact hq
 ·have hlt:((i:Int)<(l.length:Int))=False:=eF (by omega)
  rw [zax n l i h]
  simp only [go_sem,lp70_0,hlt]
theorem zih (n:Nat)(l:List Int)(hlen:l.length<1000)(nl:Bool)(G:List GS)(f:Int)(ss:List Nat)(k:Nat)(i:Nat)(hok:i≤l.length)(env:Env)(st:St)
  (hg:gcAV true 1 0 (canon env [0,6,7,9,27,28,29,36,37,38]) st=([(0,J n),(6,.v (.int .u8 f)),(7,.rsl 0 0 ss.length ss.length 1 true),(9,tAV l),(27,sl 1 nl (G.map gM)),(28,J G.length),(29,J k),(36,tAV l),(37,J l.length),(38,J i)],⟨[ss.map u8],[]⟩)):
  ∃x_1 en s,lim (headed pure (run L) true [0,6,7,9,27,28,29,36,37,38] lp70_0 1 0) env st=some (x_1,en,s)∧(s=⟨[ss.map u8],[]⟩∧((rowAt n l i=0∧x_1=.exit 3∧en.get 0=J n∧en.get 6=.v (.int .u8 f)∧en.get 7=.rsl 0 0 ss.length ss.length 1 true∧en.get 9=tAV l∧en.get 27=sl 1 nl (G.map gM)∧en.get 28=J G.length∧en.get 29=J k∧en.get 3000000=.any)∨(rowAt n l i≠0∧x_1=.ret∧en.get 4=.v (.slice none 0 0)∧en.get 5=I (rowAt n l i)))):=by
 refine z7 (α:=Nat) (fun i=>l.length-i) (fun i=>i≤l.length) (fun i=>([(0,J n),(6,.v (.int .u8 f)),(7,.rsl 0 0 ss.length ss.length 1 true),(9,tAV l),(27,sl 1 nl (G.map gM)),(28,J G.length),(29,J k),(36,tAV l),(37,J l.length),(38,J i)],⟨[ss.map u8],[]⟩)) (fun i x_1 en s=>s=⟨[ss.map u8],[]⟩∧((rowAt n l i=0∧x_1=.exit 3∧en.get 0=J n∧en.get 6=.v (.int .u8 f)∧en.get 7=.rsl 0 0 ss.length ss.length 1 true∧en.get 9=tAV l∧en.get 27=sl 1 nl (G.map gM)∧en.get 28=J G.length∧en.get 29=J k∧en.get 3000000=.any)∨(rowAt n l i≠0∧x_1=.ret∧en.get 4=.v (.slice none 0 0)∧en.get 5=I (rowAt n l i)))) (fun i hok=> ?_) i hok env st hg
 by_cases h:i<l.length
 ·have hs:=zd i (by omega)
  have hx:indexSAV 1 (tAV l) (.v (.int .i64 (i:Int)))=some (.eptr (I l[i]) 0):=zk true l i h
  have hlt:((i:Int)<(l.length:Int))=True:=eT (by omega)
  have hst:=z9q n l i h
  rw [hst]
  by_cases q1:l[i]<0
  ·rw [if_pos (.inl q1)]
   simp only [go_sem,lp70_0,hlt,hs,hx,q1]
   decide
  ·by_cases q2:(n:Int)≤l[i]
   ·rw [if_pos (.inr q2)]
    simp only [go_sem,lp70_0,hlt,hs,hx,q1,q2]
    decide
   ·rw [if_neg (not_or.2 ⟨q1,q2⟩)]
    by_cases h0:0<i
    ·have q3:((0:Int)<(i:Int))=True:=eT (by omega)
     have hm:IntKind.i64.wrap ((i:Int)-1)=((i-1:Nat):Int):=by
      rw [←w64 (i-1) (by omega)];congr 1;omega
     have hx2:indexSAV 1 (tAV l) (.v (.int .i64 ((i-1:Nat):Int)))=some (.eptr (I (l[i-1]'(by omega))) 0):=zk true l (i-1) (by omega)
     rw [if_neg (show ¬i=0 by omega),List.getElem?_eq_getElem (show i-1<l.length by omega)]
     generalize l[i-1]'(by omega)=b at*
     generalize l[i]=a at*
     have hpb:prevB (some b) a=decide (a≤b):=rfl
     rw [hpb]
     by_cases q4:a≤b
     ·rw [if_pos (by simpa using q4)]
      simp only [go_sem,lp70_0,hlt,hs,hx,q1,q2,q3,hm,hx2,q4]
      decide
     ·rw [if_neg (by simpa using q4)]
      simp only [go_sem,lp70_0,hlt,hs,hx,q1,q2,q3,hm,hx2,q4]
      refine ⟨i+1,by simp only [go_sem,z3,z4,z5,z0x,zp,z1w]<;>rfl,?_,?_,fun x en s hq=> ?_⟩
      ·omega
      ·omega
      ·exact hq
    ·have q3:((0:Int)<(i:Int))=False:=eF (by omega)
     rw [if_pos (show i=0 by omega)]
     generalize l[i]=a at*
     have hpb:prevB none a=false:=rfl
     rw [hpb,if_neg (by simp)]
     simp only [go_sem,lp70_0,hlt,hs,hx,q1,q2,q3]
     refine ⟨i+1,by simp only [go_sem,z3,z4,z5,z0x,zp,z1w]<;>rfl,?_,?_,fun x en s hq=> ?_⟩
     ·omega
     ·omega
     ·exact hq
 ·have hlt:((i:Int)<(l.length:Int))=False:=eF (by omega)
  rw [zax n l i h]
  simp only [go_sem,lp70_0,hlt]
theorem zk0 {n v:Nat} (hv:v<2^n)(hn:n≤8):maskL (memb v)=v:=by
 have h2n:2^n≤256:=Nat.pow_le_pow_right (n:=2) (by decide) hn
 apply Nat.eq_of_testBit_eq
 intro i
 rw [z7c _ (fun a ha=>(z7b hn hv a ha).1),Bool.eq_iff_iff,decide_eq_true_eq,z1p (by omega)]
 constructor
 ·rintro ⟨k,e,h⟩
  have:i=k:=by omega
  subst this;exact h
 ·intro h;exact ⟨i,rfl,h⟩
theorem zk6 (n:Nat)(h1n:1≤n)(hn:n≤8)(nl:Bool)(G:List GS)(hG: ∀p∈G,p.2.length<1000)(hl:G.length≤13)(i:Nat)(ss:List Nat)(hok:i≤G.length∧ss.length≤i∧∀x∈ss,x<2^n)(env:Env)(st:St)
  (hg:gcAV true 0 0 (canon env [0,6,7,27,28,29,3000000]) st=([(0,J n),(6,u8 (2^n-1)),(7,kA ss),(27,sl 1 nl (G.map gM)),(28,J G.length),(29,J i),(3000000,.any)],⟨kS ss,[]⟩)):
  ∃x_1 en s,lim (headed pure (run L) true [0,6,7,27,28,29,3000000] lp70_1 0 0) env st=some (x_1,en,s)∧(((openS n (G.drop i) ss).1=0∧x_1=.exit 1∧en.get 7=kA (openS n (G.drop i) ss).2∧s=⟨kS (openS n (G.drop i) ss).2,[]⟩)∨((openS n (G.drop i) ss).1≠0∧x_1=.ret∧en.get 4=.v (.slice none 0 0)∧en.get 5=I (openS n (G.drop i) ss).1∧∃N:List (List Nat),N.length≤2∧s=⟨N.map (fun l=>l.map u8),[]⟩)):=by
 refine z7 (α:=Nat×List Nat) (fun ⟨i,ss⟩=>G.length-i) (fun ⟨i,ss⟩=>i≤G.length∧ss.length≤i∧∀x∈ss,x<2^n) (fun ⟨i,ss⟩=>([(0,J n),(6,u8 (2^n-1)),(7,kA ss),(27,sl 1 nl (G.map gM)),(28,J G.length),(29,J i),(3000000,.any)],⟨kS ss,[]⟩)) (fun ⟨i,ss⟩ x_1 en s=>((openS n (G.drop i) ss).1=0∧x_1=.exit 1∧en.get 7=kA (openS n (G.drop i) ss).2∧s=⟨kS (openS n (G.drop i) ss).2,[]⟩)∨((openS n (G.drop i) ss).1≠0∧x_1=.ret∧en.get 4=.v (.slice none 0 0)∧en.get 5=I (openS n (G.drop i) ss).1∧∃N:List (List Nat),N.length≤2∧s=⟨N.map (fun l=>l.map u8),[]⟩)) (fun ⟨i,ss⟩ hok=> ?_) ⟨i,ss⟩ hok env st hg
 simp only at hok
 obtain ⟨h1,h2,h3⟩:=hok
 dsimp only at h1 h2 h3⊢
 by_cases h:i<G.length
 ·have hs:=zd i (by omega)
  have hx:=z08 gM nl G i h
  have hlt:((i:Int)<(G.length:Int))=True:=eT (by omega)
  have hgl:=hG G[i] (List.getElem_mem h)
  have hd:G.drop i=G[i]::G.drop (i+1):=List.drop_eq_getElem_cons h
  rw [hd]
  generalize G[i]=p at*
  obtain ⟨b,l⟩:=p
  dsimp only at hgl
  have h2n:2^n≤256:=Nat.pow_le_pow_right (n:=2) (by decide) hn
  have hp:0<2^n:=Nat.two_pow_pos n
  have hos:openS n ((b,l)::G.drop (i+1)) ss=if sideE n l≠0 then (sideE n l,ss) else if smlN n (maskL l)=0 then (5,ss) else if smlN n (maskL l)∈ss then (6,ss) else openS n (G.drop (i+1)) (ss++ [smlN n (maskL l)]):=rfl
  rw [hos]
  have hll0:l=[]→lenAV (gM (b,l))=some (I 0):=by rintro rfl;cases b<;>rfl
  have hmask:l≠[]→sideE n l=0→∃v,v<2^n∧l=memb v:=by
   intro hne he
   unfold sideE at he
   rw [if_neg hne] at he
   exact ⟨maskL l,zdt (zcc l none he).1,(zbf hn he).symm⟩
  clear hos hd
  by_cases he:ss=[]
  ·subst he
   have eA:kA []=.v (.slice none 0 0):=rfl
   have eS:kS []=[]:=rfl
   rw [eA,eS]
   by_cases hne:l=[]
   ·have hll:=hll0 hne
    rw [if_pos (by unfold sideE;rw [if_pos hne];decide)]
    have hse:sideE n l=4:=by unfold sideE;rw [if_pos hne]
    rw [hse]
    simp only [go_sem,lp70_1,hlt,hx,hll]
    exact ⟨by decide,[],by simp,rfl⟩
   ·have hl0:((l.length:Int)=0)=False:=eF (by have:=List.length_pos_iff.2 hne;omega)
    have hgm:=zks b hne
    rw [hgm] at hx
    have hll:lenAV (tAV l)=some (J l.length):=zn I true l
    have hse:sideE n l=rowAt n l 0:=by unfold sideE rowAt;rw [if_neg hne,if_pos rfl,List.drop_zero]
    rw [hse]
    simp only [go_sem,lp70_1,hlt,hx,hll,hl0]
    generalize hg:lim (headed pure (run L) true _ lp70_0 _ _) _ _=o
    obtain ⟨x,en,s,rfl,h2⟩: ∃x en s,o=some (x,en,s)∧_:=by rw [←hg];exact zig n l (by omega) nl G ((2^n-1:Nat):Int) i 0 (by omega) _ _ (by simp only [go_sem,Int.natCast_zero,z1w]<;>rfl)
    clear hg
    obtain ⟨rfl,⟨er,rfl,e0,e6,e7,e9,e27,e28,e29,e30⟩ | ⟨er,rfl,e4,e5⟩⟩:=h2
    ·rw [if_neg (by simpa using er)]
     obtain ⟨v,hv,rfl⟩:=hmask hne (hse.trans er)
     have h105:=fun st=>c105 v (by omega) st
     have h106: ∀st,run L 106 [E8 v,I 0] st=some (B (v.testBit 0),st):=fun st=>c106 v (by omega) st
     have hmv:maskL (memb v)=v:=zk0 hv (by omega)
     rw [hmv]
     have hxo:=xor8 v (2^n-1) (by omega) (by omega)
     have hsl:=z32 hv
     have hsd:smlN n v=if v.testBit 0=true then v^^^(2^n-1) else v:=rfl
     have h122:=fun st=>c122 true [] (by simp) (smlN n v) st
     rw [show sl 1 true (([]:List Nat).map E8)=AV.v (.slice none 0 0) from rfl] at h122
     have hfr:=fun st=>zkt (smlN n v) st
     have happ:=zhc (smlN n v) [[u8 (smlN n v)]] []
     clear hse hx hll hne hmask
     cases hb:v.testBit 0 with
     |true=>
      rw [hb] at h106
      rw [hb,if_pos rfl] at hsd
      rw [←hsd] at hxo
      generalize smlN n v=w at*
      by_cases hz:w=0
      ·rw [if_pos hz]
       have hz:((w:Int)=0)=True:=eT (by omega)
       simp only [go_sem,lp70_1,e0,e6,e7,e9,e27,e28,e29,h105,h106,hxo,hz]
       exact ⟨by decide,[[w]],by simp,rfl⟩
      ·rw [if_neg hz]
       have hz:((w:Int)=0)=False:=eF (by omega)
       have hni:w ∉ ([]:List Nat):=by simp
       rw [if_neg hni]
       rw [decide_eq_false hni] at h122
       simp only [go_sem,lp70_1,e0,e6,e7,e9,e27,e28,e29,h105,h106,hxo,hz,hfr,h122,z2l,happ,hs]
       refine ⟨(i+1,[w]),by simp only [go_sem,z3,z4,z5,e0,e6,e7,e27,e28,e29,e30,zha,zh9,compact,compactW,refsEnv,refsV,refsL,refsStore,refsAt,mapEnv,mapL,mapLs,newName,posOf,mapStore,pickStore,namesOk,z2k,z4l,List.contains_nil,List.contains_cons,Option.getD_some,hasKey]<;>rfl,?_,?_,fun x en s hq=> ?_⟩
       ·dsimp only;exact ⟨by omega,by simp,by intro x hx;rw [List.mem_singleton] at hx;omega⟩
       ·dsimp only;omega
       ·exact hq
     |false=>
      rw [hb] at h106
      rw [hb,if_neg (by simp)] at hsd
      generalize smlN n v=w at*
      subst hsd
      by_cases hz:w=0
      ·rw [if_pos hz]
       have hz:((w:Int)=0)=True:=eT (by omega)
       simp only [go_sem,lp70_1,e0,e6,e7,e9,e27,e28,e29,h105,h106,hz]
       exact ⟨by decide,[[w]],by simp,rfl⟩
      ·rw [if_neg hz]
       have hz:((w:Int)=0)=False:=eF (by omega)
       have hni:w ∉ ([]:List Nat):=by simp
       rw [if_neg hni]
       rw [decide_eq_false hni] at h122
       simp only [go_sem,lp70_1,e0,e6,e7,e9,e27,e28,e29,h105,h106,hz,hfr,h122,z2l,happ,hs]
       refine ⟨(i+1,[w]),by simp only [go_sem,z3,z4,z5,e0,e6,e7,e27,e28,e29,e30,zha,zh9,compact,compactW,refsEnv,refsV,refsL,refsStore,refsAt,mapEnv,mapL,mapLs,newName,posOf,mapStore,pickStore,namesOk,z2k,z4l,List.contains_nil,List.contains_cons,Option.getD_some,hasKey]<;>rfl,?_,?_,fun x en s hq=> ?_⟩
       ·dsimp only;exact ⟨by omega,by simp,by intro x hx;rw [List.mem_singleton] at hx;omega⟩
       ·dsimp only;omega
       ·exact hq
    ·rw [if_pos (by simpa using er)]
     simp only [go_sem,lp70_1,e4,e5]
     exact ⟨er,[],by simp,rfl⟩
  ·have eA:=zik he
   have eS:=zf5 he
   have hpos:1≤ss.length:=List.length_pos_iff.2 he
   rw [eA,eS]
   by_cases hne:l=[]
   ·have hll:=hll0 hne
    rw [if_pos (by unfold sideE;rw [if_pos hne];decide)]
    have hse:sideE n l=4:=by unfold sideE;rw [if_pos hne]
    rw [hse]
    simp only [go_sem,lp70_1,hlt,hx,hll]
    exact ⟨by decide,[ss],by simp,rfl⟩
   ·have hl0:((l.length:Int)=0)=False:=eF (by have:=List.length_pos_iff.2 hne;omega)
    have hgm:=zks b hne
    rw [hgm] at hx
    have hll:lenAV (tAV l)=some (J l.length):=zn I true l
    have hse:sideE n l=rowAt n l 0:=by unfold sideE rowAt;rw [if_neg hne,if_pos rfl,List.drop_zero]
    rw [hse]
    simp only [go_sem,lp70_1,hlt,hx,hll,hl0]
    generalize hg:lim (headed pure (run L) true _ lp70_0 _ _) _ _=o
    obtain ⟨x,en,s,rfl,h2⟩: ∃x en s,o=some (x,en,s)∧_:=by rw [←hg];exact zih n l (by omega) nl G ((2^n-1:Nat):Int) ss i 0 (by omega) _ _ (by simp only [go_sem,Int.natCast_zero,z0x,zp,z1w]<;>rfl)
    clear hg
    obtain ⟨rfl,⟨er,rfl,e0,e6,e7,e9,e27,e28,e29,e30⟩ | ⟨er,rfl,e4,e5⟩⟩:=h2
    ·rw [if_neg (by simpa using er)]
     obtain ⟨v,hv,rfl⟩:=hmask hne (hse.trans er)
     have h105:=fun st=>c105 v (by omega) st
     have h106: ∀st,run L 106 [E8 v,I 0] st=some (B (v.testBit 0),st):=fun st=>c106 v (by omega) st
     have hmv:maskL (memb v)=v:=zk0 hv (by omega)
     rw [hmv]
     have hxo:=xor8 v (2^n-1) (by omega) (by omega)
     have hsl:=z32 hv
     have hsd:smlN n v=if v.testBit 0=true then v^^^(2^n-1) else v:=rfl
     have h122:=fun st=>c122 true ss (by omega) (smlN n v) st
     obtain ⟨S2,hfr⟩:=znx he (smlN n v) [u8 (smlN n v)] []
     have happ:=zkl [u8 (smlN n v)] ss (smlN n v) [] hpos (by omega)
     clear hse hx hll hne hmask
     cases hb:v.testBit 0 with
     |true=>
      rw [hb] at h106
      rw [hb,if_pos rfl] at hsd
      rw [←hsd] at hxo
      generalize smlN n v=w at*
      by_cases hz:w=0
      ·rw [if_pos hz]
       have hz:((w:Int)=0)=True:=eT (by omega)
       simp only [go_sem,lp70_1,e0,e6,e7,e9,e27,e28,e29,h105,h106,hxo,hz]
       exact ⟨by decide,[ss,[w]],by simp,rfl⟩
      ·rw [if_neg hz]
       have hz:((w:Int)=0)=False:=eF (by omega)
       by_cases hni:w∈ss
       ·rw [if_pos hni]
        rw [decide_eq_true hni] at h122
        simp only [go_sem,lp70_1,e0,e6,e7,e9,e27,e28,e29,h105,h106,hxo,hz,hfr,h122,z2l]
        exact ⟨by decide,[ss,[w]],by simp,rfl⟩
       ·rw [if_neg hni]
        rw [decide_eq_false hni] at h122
        simp only [go_sem,lp70_1,e0,e6,e7,e9,e27,e28,e29,h105,h106,hxo,hz,hfr,h122,z2l,happ,hs]
        refine ⟨(i+1,ss++ [w]),by simp only [go_sem,z3,z4,z5,e0,e6,e7,e27,e28,e29,e30,zdy,zdx,zdh,zdv,z0x,zp,compact,compactW,refsEnv,refsV,refsL,refsStore,refsAt,mapEnv,mapL,mapLs,newName,posOf,mapStore,pickStore,namesOk,z2k,z4l,List.contains_nil,List.contains_cons,Option.getD_some,hasKey]<;>rfl,?_,?_,fun x en s hq=> ?_⟩
        ·dsimp only;exact ⟨by omega,by rw [List.length_append,List.length_singleton];omega,by intro x hx;rcases List.mem_append.1 hx with hx|hx;exact h3 x hx;rw [List.mem_singleton] at hx;omega⟩
        ·dsimp only;omega
        ·exact hq
     |false=>
      rw [hb] at h106
      rw [hb,if_neg (by simp)] at hsd
      generalize smlN n v=w at*
      subst hsd
      by_cases hz:w=0
      ·rw [if_pos hz]
       have hz:((w:Int)=0)=True:=eT (by omega)
       simp only [go_sem,lp70_1,e0,e6,e7,e9,e27,e28,e29,h105,h106,hz]
       exact ⟨by decide,[ss,[w]],by simp,rfl⟩
      ·rw [if_neg hz]
       have hz:((w:Int)=0)=False:=eF (by omega)
       by_cases hni:w∈ss
       ·rw [if_pos hni]
        rw [decide_eq_true hni] at h122
        simp only [go_sem,lp70_1,e0,e6,e7,e9,e27,e28,e29,h105,h106,hz,hfr,h122,z2l]
        exact ⟨by decide,[ss,[w]],by simp,rfl⟩
       ·rw [if_neg hni]
        rw [decide_eq_false hni] at h122
        simp only [go_sem,lp70_1,e0,e6,e7,e9,e27,e28,e29,h105,h106,hz,hfr,h122,z2l,happ,hs]
        refine ⟨(i+1,ss++ [w]),by simp only [go_sem,z3,z4,z5,e0,e6,e7,e27,e28,e29,e30,zdy,zdx,zdh,zdv,z0x,zp,compact,compactW,refsEnv,refsV,refsL,refsStore,refsAt,mapEnv,mapL,mapLs,newName,posOf,mapStore,pickStore,namesOk,z2k,z4l,List.contains_nil,List.contains_cons,Option.getD_some,hasKey]<;>rfl,?_,?_,fun x en s hq=> ?_⟩
        ·dsimp only;exact ⟨by omega,by rw [List.length_append,List.length_singleton];omega,by intro x hx;rcases List.mem_append.1 hx with hx|hx;exact h3 x hx;rw [List.mem_singleton] at hx;omega⟩
        ·dsimp only;omega
        ·exact hq
    ·rw [if_pos (by simpa using er)]
     simp only [go_sem,lp70_1,e4,e5]
     exact ⟨er,[ss],by simp,rfl⟩
 ·have e:G.drop i=[]:=List.drop_eq_nil_of_le (by omega)
  have hlt:((i:Int)<(G.length:Int))=False:=eF (by omega)
  rw [e,show openS n [] ss=(0,ss) from rfl]
  simp only [go_sem,lp70_1,hlt]
theorem c70G (n:Int)(nl:Bool)(G:List GS)(hG: ∀p∈G,p.2.length<1000)(hGl:G.length<1000):
  ((openG n G).1=0∧run L 70 [I n,sl 1 nl (G.map gM)] ⟨[],[]⟩=some (.tup [kA (openG n G).2,I 0],⟨kS (openG n G).2,[]⟩))∨
  ((openG n G).1≠0∧∃N:List (List Nat),N.length≤2∧run L 70 [I n,sl 1 nl (G.map gM)] ⟨[],[]⟩=some (.tup [.v (.slice none 0 0),I (openG n G).1],⟨N.map (fun l=>l.map u8),[]⟩)):=by
 rw [zc (fn:=ir70) rfl rfl]
 unfold openG
 by_cases q1:n<2
 ·rw [if_pos (.inl q1)]
  right
  refine ⟨by decide,[],by simp,?_⟩
  simp only [ir70,go_sem,q1]
 ·by_cases q2:8<n
  ·rw [if_pos (.inr q2)]
   right
   refine ⟨by decide,[],by simp,?_⟩
   simp only [ir70,go_sem,q1,q2]
  ·rw [if_neg (not_or.2 ⟨q1,q2⟩)]
   obtain ⟨m,rfl⟩:=Int.eq_ofNat_of_zero_le (show 0≤n by omega)
   by_cases q3:13<G.length
   ·rw [if_pos q3]
    right
    refine ⟨by decide,[],by simp,?_⟩
    have q3:((13:Int)<(G.length:Int))=True:=eT (by omega)
    simp only [ir70,go_sem,lm_,q1,q2,q3]
   ·rw [if_neg q3]
    have q3:((13:Int)<(G.length:Int))=False:=eF (by omega)
    obtain ⟨r,hsh,hsu⟩:=shl8n m (by omega)
    have hto:((m:Int)).toNat=m:=rfl
    rw [hto]
    simp only [ir70,go_sem,lm_,q1,q2,q3,hsh,hsu]
    generalize hg:lim (headed pure (run L) true _ lp70_1 _ _) _ _=o
    obtain ⟨x,en,s,rfl,h2⟩: ∃x en s,o=some (x,en,s)∧_:=by rw [←hg];exact zk6 m (by omega) (by omega) nl G hG (by omega) 0 [] ⟨by omega,by simp,by simp⟩ _ _ (by simp only [go_sem,Int.natCast_zero,kA,kS,compact,compactW,refsEnv,refsV,refsL,refsStore,refsAt,mapEnv,mapL,mapLs,newName,posOf,mapStore,pickStore,namesOk,z2k,z4l,List.contains_nil,List.contains_cons,Option.getD_some,hasKey]<;>rfl)
    clear hg
    rw [List.drop_zero] at h2
    rcases h2 with ⟨h0,rfl,e7,rfl⟩ | ⟨h0,rfl,e4,e5,N,hN,rfl⟩
    ·left
     refine ⟨h0,?_⟩
     simp only [go_sem,e7]
    ·right
     refine ⟨h0,N,hN,?_⟩
     simp only [go_sem,e4,e5]
end Go.Proofs.YtdnmhlfjafjkbaaGreatDoor.Vm
