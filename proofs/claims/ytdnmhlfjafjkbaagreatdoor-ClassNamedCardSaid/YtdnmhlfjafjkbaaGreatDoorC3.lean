/- What is proved: what each function of this program computes, as equations on the evaluator. No condition. -/
import Derived.Test.YtdnmhlfjafjkbaaGreatDoorC2
import Derived.KernelRfl
import Derived.Test.YtdnmhlfjafjkbaaGreatDoorT0
set_option linter.all false
namespace Go.Proofs.YtdnmhlfjafjkbaaGreatDoor.Vm
open Go Go.Ev
set_option maxRecDepth 100000
set_option maxHeartbeats 4000000
attribute [local go_sem] m_ x_ l_ k_ o_ t_ a_ s_ q_ b_ c_ u_ g_ z30 z09 z48 z12 z2v z04 z44 z0m z1d zw z23 z11 z2u z03 z43 z15 z2y z07 z46 z0n z1e zx z24 z0l z1c zu z21 z14 z2x z06 z1x z4o z0k z5k z16 z2z z08 z47 z17 z1k z0a z49 z10 z2t z02 z42 z13 z2w z05 z45 z22 z19 z1s z5t z5r z5s z4c z29 z2c z2b z2a z2m z2n z3n z4e z5y z0d z31 z1z z0r z27 z2p z2r z4l z4m z4k z2s z1b z0o z41 z1y z1a z0s zz z1f z0t z26 z5m z4a z0y z0i z0z pubs pub z5h params z1t z00 z0w z1u z2d z2o z5u untips untip z40 wantedAV setElems withO z5v z2j z2g z2f z4g z2i z2e z4f z2h List.replicate_succ List.replicate_zero opAV valAV aval avals ofVal Env.get setD canon gcAV renAll renEnv renStore renCells z52 cutSt okEnv okStore okRefs okRef z3m z62 z4p z61 z5z z60 z63 cellsEq cellEq isShift intOp boolOp z5o z5p z64 bne resAV tupAV z4d z72 z56 fins zam z5w z5x z55 z7i storeAV readCells putCells z4n z1w z0j fieldAddrAV z6w goI List.getElem?_cons_zero List.getElem?_cons_succ List.getElem?_nil Option.bind_some Option.map_some List.length_cons List.length_nil List.all_cons List.all_nil Bool.and_true Bool.true_and Bool.and_false Bool.false_and and_true true_and and_false false_and Bool.false_eq_true List.set_cons_zero List.set_cons_succ List.append_nil List.nil_append List.cons_append List.take_zero List.take_succ_cons List.take_nil List.drop_zero List.drop_succ_cons List.map_cons List.map_nil decide_true decide_false beq_self_eq_true Bool.not_true Bool.not_false or_true true_or or_false false_or Nat.zero_add Nat.add_zero Nat.le_refl Nat.lt_irrefl decide_eq_true_eq eq_self_iff_true not_true_eq_false not_false_eq_true List.getD_cons_zero z2q Nat.zero_le Nat.not_lt_zero Bool.true_beq Bool.false_beq beq_true beq_false ge_iff_le gt_iff_lt keepR keepT ownTop zan pus Option.map_none z1h z1g z4i z2k z4h Int.cast_ofNat_Int Nat.mul_one Nat.zero_mul Int.toNat_natCast Int.toNat_zero setParts withO2 hasKey z4j z4b z2l z28 z0q z0p zy z0v zl1 z3g z3y z3o z6p z6r z8k z59 z3t z38 z1o z5c z3v z3r z32 z3z z37 z5a z3u z33 z1m z5d z3w z5f z35 z36 z3x z1l z57 z3q z3p z58 Option.bind_none Bool.not_eq_true' decide_eq_false_iff_not Bool.and_eq_true Bool.or_eq_true Option.some.injEq Int.not_lt Int.not_le
attribute [local go_sem_proc] reduceIte Nat.reduceEqDiff Nat.reduceAdd Nat.reduceSub Nat.reduceLeDiff Nat.reduceLT reduceCtorEq Int.reduceLT Int.reduceLE Int.reduceEq Int.reduceBEq Int.reduceSub Int.reduceAdd Int.reduceMul Int.reduceNeg Int.reduceToNat Nat.reduceMul Nat.reduceBEq
attribute [local go_sem] m_ x_ l_ k_ o_ t_ a_ s_ q_ b_ c_ u_ g_ zd zf zi z8 zh
def tl140:IC:=(.seq (.seq (.ops [⟨(some 81),none,.move (.tmp 1)⟩,⟨(some 82),none,.bin .gtr none (.tmp 81) (.const (.int .i64 0))⟩,⟨(some 83),none,.move (.tmp 82)⟩,⟨(some 84),(some (83,true)),.move (.tmp 4)⟩,⟨(some 85),(some (83,true)),.move (.tmp 0)⟩,⟨(some 86),(some (83,true)),.move (.tmp 1)⟩,⟨(some 87),(some (83,true)),.bin .sub none (.tmp 86) (.const (.int .i64 1))⟩,⟨(some 88),(some (83,true)),.indexS 1 (.tmp 85) (.tmp 87)⟩,⟨(some 89),(some (83,true)),.load 1 false (.tmp 88)⟩,⟨(some 90),(some (83,true)),.move (.tmp 0)⟩,⟨(some 91),(some (83,true)),.move (.tmp 13)⟩,⟨(some 92),(some (83,true)),.indexS 1 (.tmp 90) (.tmp 91)⟩,⟨(some 93),(some (83,true)),.load 1 false (.tmp 92)⟩,⟨(some 94),(some (83,true)),.callv false (.tmp 84) [(.tmp 89),(.tmp 93)]⟩,⟨(some 95),(some (83,true)),.bin .lss none (.tmp 94) (.const (.int .i64 0))⟩,⟨(some 96),(some (83,true)),.not (.tmp 95)⟩,⟨(some 97),none,.pick (.tmp 83) (.tmp 96) (.const (.bool false))⟩])
 (.cond (.tmp 97) (.seq (.ops [⟨(some 98),none,.move (.tmp 0)⟩,⟨(some 99),none,.move (.tmp 1)⟩,⟨(some 100),none,.move (.tmp 2)⟩,⟨(some 101),none,.move (.tmp 13)⟩,⟨(some 102),none,.move (.tmp 4)⟩,⟨(some 103),none,.call false 179 [(.tmp 98),(.tmp 99),(.tmp 100),(.tmp 101),(.tmp 102)]⟩,⟨(some 15),none,.move (.tmp 103)⟩])
  (.seq (.ops [⟨(some 104),none,.move (.tmp 15)⟩,⟨(some 1),none,.move (.tmp 104)⟩])
  (.exit 1)))
 .skip))
 (.seq (.ops [⟨(some 106),none,.move (.tmp 0)⟩,⟨(some 107),none,.move (.tmp 1)⟩,⟨(some 108),none,.move (.tmp 2)⟩,⟨(some 109),none,.move (.tmp 13)⟩,⟨(some 110),none,.move (.tmp 4)⟩,⟨(some 111),none,.call false 180 [(.tmp 106),(.tmp 107),(.tmp 108),(.tmp 109),(.tmp 110)]⟩,⟨(some 105),none,.move (.tmp 111)⟩,⟨(some 112),none,.extract 0 (.tmp 105)⟩,⟨(some 113),none,.extract 1 (.tmp 105)⟩,⟨(some 16),none,.move (.tmp 112)⟩,⟨(some 17),none,.move (.tmp 113)⟩])
 (.seq (.ops [⟨(some 114),none,.move (.tmp 17)⟩,⟨(some 11),none,.move (.tmp 114)⟩])
 (.seq (.ops [⟨(some 115),none,.move (.tmp 16)⟩,⟨(some 116),none,.move (.tmp 1)⟩,⟨(some 117),none,.bin .sub none (.tmp 115) (.tmp 116)⟩,⟨(some 118),none,.move (.tmp 2)⟩,⟨(some 119),none,.move (.tmp 16)⟩,⟨(some 120),none,.bin .sub none (.tmp 118) (.tmp 119)⟩,⟨(some 18),none,.move (.tmp 117)⟩,⟨(some 19),none,.move (.tmp 120)⟩])
 (.seq (.ops [⟨(some 121),none,.move (.tmp 12)⟩,⟨(some 122),none,.bin .quo none (.tmp 121) (.const (.int .i64 8))⟩,⟨(some 20),none,.move (.tmp 122)⟩])
 (.seq (.ops [⟨(some 123),none,.move (.tmp 18)⟩,⟨(some 124),none,.move (.tmp 19)⟩,⟨(some 125),none,.bin .lss none (.tmp 123) (.tmp 124)⟩])
 (.cond (.tmp 125) (.seq (.ops [⟨(some 126),none,.move (.tmp 18)⟩,⟨(some 127),none,.move (.tmp 20)⟩,⟨(some 128),none,.bin .geq none (.tmp 126) (.tmp 127)⟩,⟨(some 10),none,.move (.tmp 128)⟩])
  (.seq (.ops [⟨(some 129),none,.move (.tmp 0)⟩,⟨(some 130),none,.move (.tmp 1)⟩,⟨(some 131),none,.move (.tmp 16)⟩,⟨(some 132),none,.move (.tmp 3)⟩,⟨(some 133),none,.move (.tmp 4)⟩,⟨(some 134),none,.call false 140 [(.tmp 129),(.tmp 130),(.tmp 131),(.tmp 132),(.tmp 133)]⟩])
  (.ops [⟨(some 135),none,.move (.tmp 16)⟩,⟨(some 136),none,.bin .add none (.tmp 135) (.const (.int .i64 1))⟩,⟨(some 1),none,.move (.tmp 136)⟩])))
 (.seq (.ops [⟨(some 137),none,.move (.tmp 19)⟩,⟨(some 138),none,.move (.tmp 20)⟩,⟨(some 139),none,.bin .geq none (.tmp 137) (.tmp 138)⟩,⟨(some 10),none,.move (.tmp 139)⟩])
  (.seq (.ops [⟨(some 140),none,.move (.tmp 0)⟩,⟨(some 141),none,.move (.tmp 16)⟩,⟨(some 142),none,.bin .add none (.tmp 141) (.const (.int .i64 1))⟩,⟨(some 143),none,.move (.tmp 2)⟩,⟨(some 144),none,.move (.tmp 3)⟩,⟨(some 145),none,.move (.tmp 4)⟩,⟨(some 146),none,.call false 140 [(.tmp 140),(.tmp 142),(.tmp 143),(.tmp 144),(.tmp 145)]⟩])
  (.ops [⟨(some 147),none,.move (.tmp 16)⟩,⟨(some 2),none,.move (.tmp 147)⟩]))))))))))
theorem zlv:lp140_0=(.block 1 (.seq (.ops [⟨(some 21),none,.move (.tmp 2)⟩,⟨(some 22),none,.move (.tmp 1)⟩,⟨(some 23),none,.bin .sub none (.tmp 21) (.tmp 22)⟩,⟨(some 12),none,.move (.tmp 23)⟩])
 (.seq (.seq (.ops [⟨(some 24),none,.move (.tmp 12)⟩,⟨(some 25),none,.bin .leq none (.tmp 24) (.const (.int .i64 12))⟩])
 (.cond (.tmp 25) (.seq (.ops [⟨(some 26),none,.move (.tmp 0)⟩,⟨(some 27),none,.move (.tmp 1)⟩,⟨(some 28),none,.move (.tmp 2)⟩,⟨(some 29),none,.move (.tmp 4)⟩,⟨(some 30),none,.call false 173 [(.tmp 26),(.tmp 27),(.tmp 28),(.tmp 29)]⟩])
  .ret)
 .skip))
 (.seq (.seq (.ops [⟨(some 31),none,.move (.tmp 3)⟩,⟨(some 32),none,.bin .eql none (.tmp 31) (.const (.int .i64 0))⟩])
 (.cond (.tmp 32) (.seq (.ops [⟨(some 33),none,.move (.tmp 0)⟩,⟨(some 34),none,.move (.tmp 1)⟩,⟨(some 35),none,.move (.tmp 2)⟩,⟨(some 36),none,.move (.tmp 4)⟩,⟨(some 37),none,.call false 174 [(.tmp 33),(.tmp 34),(.tmp 35),(.tmp 36)]⟩])
  .ret)
 .skip))
 (.seq (.seq (.ops [⟨(some 38),none,.move (.tmp 10)⟩,⟨(some 39),none,.not (.tmp 38)⟩])
 (.cond (.tmp 39) (.seq (.ops [⟨(some 40),none,.move (.tmp 0)⟩,⟨(some 41),none,.move (.tmp 1)⟩,⟨(some 42),none,.move (.tmp 2)⟩,⟨(some 43),none,.move (.tmp 4)⟩,⟨(some 44),none,.call false 175 [(.tmp 40),(.tmp 41),(.tmp 42),(.tmp 43)]⟩])
  (.ops [⟨(some 45),none,.move (.tmp 3)⟩,⟨(some 46),none,.bin .sub none (.tmp 45) (.const (.int .i64 1))⟩,⟨(some 3),none,.move (.tmp 46)⟩]))
 .skip))
 (.seq (.ops [⟨(some 48),none,.move (.tmp 0)⟩,⟨(some 49),none,.move (.tmp 1)⟩,⟨(some 50),none,.move (.tmp 2)⟩,⟨(some 51),none,.move (.tmp 4)⟩,⟨(some 52),none,.call false 176 [(.tmp 48),(.tmp 49),(.tmp 50),(.tmp 51)]⟩,⟨(some 47),none,.move (.tmp 52)⟩,⟨(some 53),none,.extract 0 (.tmp 47)⟩,⟨(some 54),none,.extract 1 (.tmp 47)⟩,⟨(some 13),none,.move (.tmp 53)⟩,⟨(some 14),none,.move (.tmp 54)⟩])
 (.seq (.seq (.ops [⟨(some 55),none,.move (.tmp 14)⟩,⟨(some 56),none,.bin .eql none (.tmp 55) (.const (.int .i64 2))⟩])
 (.cond (.tmp 56) (.seq (.ops [⟨(some 57),none,.move (.tmp 0)⟩,⟨(some 58),none,.move (.tmp 1)⟩,⟨(some 59),none,.move (.tmp 2)⟩,⟨(some 60),none,.move (.tmp 4)⟩,⟨(some 61),none,.call false 177 [(.tmp 57),(.tmp 58),(.tmp 59),(.tmp 60)]⟩])
  (.seq (.ops [⟨(some 62),none,.move (.tmp 2)⟩,⟨(some 63),none,.bin .sub none (.tmp 62) (.const (.int .i64 1))⟩,⟨(some 64),none,.move (.tmp 13)⟩,⟨(some 65),none,.move (.tmp 1)⟩,⟨(some 66),none,.bin .sub none (.tmp 64) (.tmp 65)⟩,⟨(some 67),none,.bin .sub none (.tmp 63) (.tmp 66)⟩,⟨(some 13),none,.move (.tmp 67)⟩])
  (.ops [⟨(some 14),none,.move (.const (.int .i64 1))⟩])))
 .skip))
 (.seq (.seq (.ops [⟨(some 68),none,.move (.tmp 10)⟩,⟨(some 69),none,.move (.tmp 68)⟩,⟨(some 70),(some (69,true)),.move (.tmp 11)⟩,⟨(some 71),none,.pick (.tmp 69) (.tmp 70) (.const (.bool false))⟩,⟨(some 72),none,.move (.tmp 71)⟩,⟨(some 73),(some (72,true)),.move (.tmp 14)⟩,⟨(some 74),(some (72,true)),.bin .eql none (.tmp 73) (.const (.int .i64 1))⟩,⟨(some 75),none,.pick (.tmp 72) (.tmp 74) (.const (.bool false))⟩])
 (.cond (.tmp 75) (.seq (.ops [⟨(some 76),none,.move (.tmp 0)⟩,⟨(some 77),none,.move (.tmp 1)⟩,⟨(some 78),none,.move (.tmp 2)⟩,⟨(some 79),none,.move (.tmp 4)⟩,⟨(some 80),none,.call false 178 [(.tmp 76),(.tmp 77),(.tmp 78),(.tmp 79)]⟩])
  (.cond (.tmp 80) .ret
  .skip))
 .skip))
 tl140)))))))):=rfl
def endsl (k:Nat) (caps:List AV) (l n:Nat) (ag:Bool) (en:Env) (a b li:Nat) (wb wp:Bool):Prop:=
 en.get 0=.rsl l 0 n n 1 ag∧en.get 1=J a∧en.get 2=J b∧en.get 3=J li∧en.get 4=.fn (.func k) [] caps∧en.get 10=B wb∧en.get 11=B wp
section
variable (S0:List (List AV)) (T:List Nat) (l:Nat) (hl:l<S0.length) (n:Nat) (hn:n≤1000) (ag:Bool) (k:Nat) (hk:pure k=false) (caps:List AV) (c:LI→LI→Int) (lt:LI→LI→Bool) (hlt: ∀x y,lt x y=decide (c x y<0)) (hc: ∀x y X E,run L k (fL x::fL y::caps) ⟨put S0 l X E,T⟩=some (I (c x y),⟨put S0 l X E,T⟩))
include S0 T l hl n hn ag k hk caps c lt hlt hc
theorem zde (N:Nat)(ih:(∀(a b li:Nat) (d:Array (LI)) (X0:List (List AV)),a≤b→b≤n→d.size=n→li<1000→b-a<N→(Go.Sort.pdq lt d a b li true true).size=n∧∃X1,(PL X0→PL X1)∧run L 140 [.rsl l 0 n n 1 ag,J a,J b,J li,.fn (.func k) [] caps] ⟨put S0 l (Dm fL d) X0,T⟩=some (.tup [],⟨put S0 l (Dm fL (Go.Sort.pdq lt d a b li true true)) X1,T⟩)))
  (X0:List (List AV)) (en:Env) (a b li p:Nat) (wb wp:Bool) (d:Array (LI)) (hsz:d.size=n) (hab:a+13≤b) (hb:b≤n) (hN:b-a≤N) (hp1:a≤p) (hp2:p<b) (hli:li<1000)
  (e0:en.get 0=.rsl l 0 n n 1 ag) (e1:en.get 1=J a) (e2:en.get 2=J b) (e3:en.get 3=J li) (e4:en.get 4=.fn (.func k) [] caps) (e10:en.get 10=B wb) (e11:en.get 11=B wp) (e12:en.get 12=J (b-a)) (e13:en.get 13=J p)
  (NN:Env→St→Prop) (QQ:X→Env→St→Prop)
  (hnext: ∀en' a' b' wb' wp' (d':Array (LI)) X1,endsl k caps l n ag en' a' b' li wb' wp'→(PL X0→PL X1)→a'≤b'→b'≤n→b'-a'<b-a→d'.size=n→pdqT lt d a b p li wb wp=Go.Sort.pdq lt d' a' b' li wb' wp'→NN en' ⟨put S0 l (Dm fL d') X1,T⟩):
  Then (blockK 1 (codeAV pure (run L) lim tl140 en ⟨put S0 l (Dm fL d) X0,T⟩)) NN QQ:=by
 have hpo:=z7t lt d (a:=a) (b:=b) (p:=p) (by omega)
 have hpe:=z53 lt d (a:=a) (b:=b) (p:=p) (by omega)
 have hrp:=parl S0 T l hl n hn ag k hk caps c lt hlt hc X0 d hsz a b p (by omega) hb (by omega)
 have hre:=peql S0 T l hl n hn ag k hk caps c lt hlt hc X0 d hsz a b p (by omega) hb (by omega)
 have hT:pdqT lt d a b p li wb wp=if (decide (a>0)&& !lt d[a-1]! d[p]!)=true then Go.Sort.pdq lt (Go.Sort.partitionEqual lt d a b p).2 (Go.Sort.partitionEqual lt d a b p).1 b li wb wp
  else if (Go.Sort.partition lt d a b p).1-a<b-(Go.Sort.partition lt d a b p).1 then
   Go.Sort.pdq lt (Go.Sort.pdq lt (Go.Sort.partition lt d a b p).2.2 a (Go.Sort.partition lt d a b p).1 li true true) ((Go.Sort.partition lt d a b p).1+1) b li (decide ((b-a) / 8≤(Go.Sort.partition lt d a b p).1-a)) (Go.Sort.partition lt d a b p).2.1
  else
   Go.Sort.pdq lt (Go.Sort.pdq lt (Go.Sort.partition lt d a b p).2.2 ((Go.Sort.partition lt d a b p).1+1) b li true true) a (Go.Sort.partition lt d a b p).1 li (decide ((b-a) / 8≤b-(Go.Sort.partition lt d a b p).1)) (Go.Sort.partition lt d a b p).2.1:=rfl
 rw [hT] at hnext
 generalize Go.Sort.partition lt d a b p=q at*
 generalize Go.Sort.partitionEqual lt d a b p=qe at*
 obtain ⟨mid,ap,d4⟩:=q
 obtain ⟨mid2,d5⟩:=qe
 dsimp only at*
 have hget:=fun C E=>zk hl C E
 have hpset:=fun C C' E=>zj hl C C' E
 have hlenD:(Dm fL d).length=n:=by rw [zr,hsz]
 have r10:(((p:Nat):Int)<(n:Int))=True:=eT (by omega)
 have r11:((p:Nat)<n)=True:=eT (by omega)
 have r12:((p:Nat)+1≤n)=True:=eT (by omega)
 have r13:(Dm fL d)[p]? =some (fL d[p]!):=zn fL d (by omega)
 have hq8:IntKind.i64.wrap (Int.tdiv ((b-a:Nat):Int) 8)=(((b-a) / 8:Nat):Int):=zl2 (b-a) 8 (by omega) (by omega)
 have hml:=z9p mid a (by omega) (by omega)
 have hmr:=z9p b mid (by omega) (by omega)
 have hm1:=ze mid (by omega)
 have b1:((((b-a) / 8:Nat):Int)≤((mid-a:Nat):Int))=((b-a) / 8≤mid-a):=propext (by omega)
 have b2:((((b-a) / 8:Nat):Int)≤((b-mid:Nat):Int))=((b-a) / 8≤b-mid):=propext (by omega)
 have dd: ∀(P:Prop) [Decidable P] (v:Bool),v=decide P→decide P=v:=fun _ _ _ h=>h.symm
 have i1:=ih a mid li d4 X0 (by omega) (by omega) (by omega) hli (by omega)
 have i2:=ih (mid+1) b li d4 X0 (by omega) (by omega) (by omega) hli (by omega)
 obtain ⟨z1,Y1,y1,i1⟩:=i1
 obtain ⟨z2,Y2,y2,i2⟩:=i2
 generalize Go.Sort.pdq lt d4 a mid li true true=d6 at*
 generalize Go.Sort.pdq lt d4 (mid+1) b li true true=d7 at*
 generalize (b-a) / 8=bal at*
 by_cases h0:a=0
 ·have q0:((0:Int)<(a:Int))=False:=eF (by omega)
  rw [show decide (a>0)=false from decide_eq_false (by omega),Bool.false_and,if_neg (by simp)] at hnext
  by_cases hc2:mid-a<b-mid
  ·have q1:(((mid-a:Nat):Int)<((b-mid:Nat):Int))=True:=eT (by omega)
   rw [if_pos hc2] at hnext
   simp only [go_sem,tl140,e0,e1,e2,e3,e4,e10,e11,e12,e13,q0,hrp,hml,hmr,hq8,q1,b1,i1,hm1]
   exact hnext _ _ _ _ _ _ _ ⟨by simp only [go_sem,e0],by simp only [go_sem],by simp only [go_sem,e2],by simp only [go_sem,e3],by simp only [go_sem,e4],by simp only [go_sem],by simp only [go_sem]⟩ y1 (by omega) hb (by omega) z1 rfl
  ·have q1:(((mid-a:Nat):Int)<((b-mid:Nat):Int))=False:=eF (by omega)
   rw [if_neg hc2] at hnext
   simp only [go_sem,tl140,e0,e1,e2,e3,e4,e10,e11,e12,e13,q0,hrp,hml,hmr,hq8,q1,b2,i2,hm1]
   exact hnext _ _ _ _ _ _ _ ⟨by simp only [go_sem,e0],by simp only [go_sem,e1],by simp only [go_sem],by simp only [go_sem,e3],by simp only [go_sem,e4],by simp only [go_sem],by simp only [go_sem]⟩ y2 (by omega) (by omega) (by omega) z2 rfl
 ·have q0:((0:Int)<(a:Int))=True:=eT (by omega)
  have hw:=z0c a (by omega) (by omega)
  have r20:(((a-1:Nat):Int)<(n:Int))=True:=eT (by omega)
  have r21:((a-1:Nat)<n)=True:=eT (by omega)
  have r22:((a-1:Nat)+1≤n)=True:=eT (by omega)
  have r23:(Dm fL d)[a-1]? =some (fL d[a-1]!):=zn fL d (by omega)
  rw [show decide (a>0)=true from decide_eq_true (by omega),Bool.true_and] at hnext
  cases hcc:lt d[a-1]! d[p]! with
  |true=>
   have hk0:(c d[a-1]! d[p]! <0)=True:=by rw [hlt] at hcc;simpa using hcc
   rw [hcc,if_neg (by simp)] at hnext
   generalize d[a-1]! =x at*
   generalize d[p]! =y at*
   by_cases hc2:mid-a<b-mid
   ·have q1:(((mid-a:Nat):Int)<((b-mid:Nat):Int))=True:=eT (by omega)
    rw [if_pos hc2] at hnext
    simp only [go_sem,tl140,e0,e1,e2,e3,e4,e10,e11,e12,e13,q0,hw,r10,r11,r12,r13,r20,r21,r22,r23,hc,hk,hk0,hrp,hml,hmr,hq8,q1,b1,i1,hm1,hget,hpset,hlenD,nn_,lm_,List.length_set]
    exact hnext _ _ _ _ _ _ _ ⟨by simp only [go_sem,e0],by simp only [go_sem],by simp only [go_sem,e2],by simp only [go_sem,e3],by simp only [go_sem,e4],by simp only [go_sem],by simp only [go_sem]⟩ y1 (by omega) hb (by omega) z1 rfl
   ·have q1:(((mid-a:Nat):Int)<((b-mid:Nat):Int))=False:=eF (by omega)
    rw [if_neg hc2] at hnext
    simp only [go_sem,tl140,e0,e1,e2,e3,e4,e10,e11,e12,e13,q0,hw,r10,r11,r12,r13,r20,r21,r22,r23,hc,hk,hk0,hrp,hml,hmr,hq8,q1,b2,i2,hm1,hget,hpset,hlenD,nn_,lm_,List.length_set]
    exact hnext _ _ _ _ _ _ _ ⟨by simp only [go_sem,e0],by simp only [go_sem,e1],by simp only [go_sem],by simp only [go_sem,e3],by simp only [go_sem,e4],by simp only [go_sem],by simp only [go_sem]⟩ y2 (by omega) (by omega) (by omega) z2 rfl
  |false=>
   have hk0:(c d[a-1]! d[p]! <0)=False:=by rw [hlt] at hcc;simpa using hcc
   rw [hcc,if_pos (show (!false)=true from rfl)] at hnext
   generalize d[a-1]! =x at*
   generalize d[p]! =y at*
   simp only [go_sem,tl140,e0,e1,e2,e3,e4,e10,e11,e12,e13,q0,hw,r10,r11,r12,r13,r20,r21,r22,r23,hc,hk,hk0,hre,hget,hpset,hlenD,nn_,lm_,List.length_set]
   exact hnext _ _ _ _ _ _ _ ⟨by simp only [go_sem,e0],by simp only [go_sem],by simp only [go_sem,e2],by simp only [go_sem,e3],by simp only [go_sem,e4],by simp only [go_sem,e10],by simp only [go_sem,e11]⟩ id (by omega) hb (by omega) (by rw [hpe.1,hsz]) rfl
theorem pdq0l (hn2:n<256)(N:Nat)(ih:(∀(a b li:Nat) (d:Array (LI)) (X0:List (List AV)),a≤b→b≤n→d.size=n→li<1000→b-a<N→(Go.Sort.pdq lt d a b li true true).size=n∧∃X1,(PL X0→PL X1)∧run L 140 [.rsl l 0 n n 1 ag,J a,J b,J li,.fn (.func k) [] caps] ⟨put S0 l (Dm fL d) X0,T⟩=some (.tup [],⟨put S0 l (Dm fL (Go.Sort.pdq lt d a b li true true)) X1,T⟩)))(lo hi2:Nat)(a:Nat)(b:Nat)(li:Nat)(wb:Bool)(wp:Bool)(d:Array (LI))(X0:List (List AV))(hok:a≤b∧b≤n∧d.size=n∧li<1000∧b-a≤N)(env:Env)(st:St)
  (hg:gcAV false lo hi2 (canon env [0,1,2,3,4,10,11]) st=([(0,.rsl l 0 n n 1 ag),(1,J a),(2,J b),(3,J li),(4,.fn (.func k) [] caps),(10,B wb),(11,B wp)],⟨put S0 l (Dm fL d) X0,T⟩)):
  ∃x_1 en s,lim (headed pure (run L) false [0,1,2,3,4,10,11] lp140_0 lo hi2) env st=some (x_1,en,s)∧(x_1=.ret∧(Go.Sort.pdq lt d a b li wb wp).size=n∧∃X1,(PL X0→PL X1)∧s=⟨put S0 l (Dm fL (Go.Sort.pdq lt d a b li wb wp)) X1,T⟩):=by
 refine z9 (α:=Nat×Nat×Nat×Bool×Bool×Array (LI)×List (List AV)) (fun ⟨a,b,li,wb,wp,d,X0⟩=>b-a) (fun ⟨a,b,li,wb,wp,d,X0⟩=>a≤b∧b≤n∧d.size=n∧li<1000∧b-a≤N) (fun ⟨a,b,li,wb,wp,d,X0⟩=>([(0,.rsl l 0 n n 1 ag),(1,J a),(2,J b),(3,J li),(4,.fn (.func k) [] caps),(10,B wb),(11,B wp)],⟨put S0 l (Dm fL d) X0,T⟩)) (fun ⟨a,b,li,wb,wp,d,X0⟩ x_1 en s=>x_1=.ret∧(Go.Sort.pdq lt d a b li wb wp).size=n∧∃X1,(PL X0→PL X1)∧s=⟨put S0 l (Dm fL (Go.Sort.pdq lt d a b li wb wp)) X1,T⟩) (fun ⟨a,b,li,wb,wp,d,X0⟩ hok=> ?_) ⟨a,b,li,wb,wp,d,X0⟩ hok env st hg
 simp only at hok
 obtain ⟨h1,h2,hsz,hli,hN⟩:=hok
 dsimp only at h1 h2 hsz hli hN⊢
 have hw:=z9p b a h1 (by omega)
 rw [zlv]
 by_cases h12:b-a≤12
 ·have q12:(((b-a:Nat):Int)≤12)=True:=eT (by omega)
  have e:Go.Sort.pdq lt d a b li wb wp=Go.Sort.insertionSort lt d a b:=by rw [Go.Sort.pdq,if_pos h12]
  rw [e]
  have hi:=insl S0 T l hl n hn ag k hk caps c lt hlt hc X0 a b (by omega) h2 d hsz
  simp only [go_sem,lp140_0,hw,q12,hi]
  exact ⟨by rw [z6m,hsz],_,id,rfl⟩
 ·have q12:(((b-a:Nat):Int)≤12)=False:=eF (by omega)
  by_cases hl0:li=0
  ·have ql:((li:Int)=0)=True:=eT (by omega)
   have e:Go.Sort.pdq lt d a b li wb wp=Go.Sort.heapSort lt d a b:=by rw [Go.Sort.pdq,if_neg h12,if_pos hl0]
   rw [e]
   have hh:=heapl S0 T l hl n hn ag k hk caps c lt hlt hc X0 d hsz a b (by omega) h2
   simp only [go_sem,lp140_0,hw,q12,ql,hh]
   exact ⟨by rw [z9h,hsz],_,id,rfl⟩
  ·have ql:((li:Int)=0)=False:=eF (by omega)
   have hb1:=z0c b (by omega) (by omega)
   cases wb with
   |false=>
    obtain ⟨BB,hbr⟩:=brkl S0 T l hl n hn ag k caps X0 d hsz a b (by omega) h2 (by omega)
    have hz1:(Go.Sort.breakPatterns d a b).size=n:=by rw [z6n,hsz]
    have hpl:=z0c li (by omega) (by omega)
    generalize hd1:Go.Sort.breakPatterns d a b=d1 at*
    obtain ⟨B2,hpv⟩:=pivl S0 T l hl n hn ag k hk caps c lt hlt hc (X0++ [[U BB]]) d1 hz1 a b (by omega) h2
    have hpr:=Go.Sort.choosePivot_holds lt d1 a b (by omega)
    generalize hcc:Go.Sort.choosePivot lt d1 a b=cc at*
    obtain ⟨pv,hint⟩:=cc
    dsimp only at hpr hpv
    cases hint with
    |unknown=>
     have hpv:run L 176 [.rsl l 0 n n 1 ag,J a,J b,.fn (.func k) [] caps] ⟨put S0 l (Dm fL d1) (X0++ [[U BB]]),T⟩=some (.tup [J pv,I 0],⟨put S0 l (Dm fL d1) ((X0++ [[U BB]])++ [[J B2]]),T⟩):=hpv
     have e:Go.Sort.pdq lt d a b li false wp=pdqT lt d1 a b pv (li-1) false wp:=by rw [z01 lt d false wp (by omega) hl0];simp [hd1,hcc]
     rw [e]
     simp only [go_sem,lp140_0,hw,q12,ql,hbr,hpl,hpv]
     refine zde S0 T l hl n hn ag k hk caps c lt hlt hc N ih _ _ a b (li-1) pv false wp d1 hz1 (by omega) h2 hN (by omega) (by omega) (by omega) (by simp only [go_sem]) (by simp only [go_sem]) (by simp only [go_sem]) (by simp only [go_sem]) (by simp only [go_sem]) (by simp only [go_sem]) (by simp only [go_sem]) (by simp only [go_sem]) (by simp only [go_sem]) _ _ (fun en2 a2 b2 wb2 wp2 d9 X9 he gx g1 g2 g3 g4 g5=> ?_)
     obtain ⟨f0,f1,f2,f3,f4,f10,f11⟩:=he
     refine ⟨(a2,b2,(li-1),wb2,wp2,d9,X9),by simp only [go_sem,f0,f1,f2,f3,f4,f10,f11],?_,?_,fun x en s hq=> ?_⟩
     ·dsimp only;exact ⟨g1,g2,g4,by omega,by omega⟩
     ·dsimp only;exact g3
     ·dsimp only at hq
      rw [g5]
      obtain ⟨hq1,hq2,X8,hx8,hq3⟩:=hq
      exact ⟨hq1,hq2,X8,fun h0=>hx8 (gx ((h0.snoc _ _).snoc _ _)),hq3⟩
    |increasing=>
     have hpv:run L 176 [.rsl l 0 n n 1 ag,J a,J b,.fn (.func k) [] caps] ⟨put S0 l (Dm fL d1) (X0++ [[U BB]]),T⟩=some (.tup [J pv,I 1],⟨put S0 l (Dm fL d1) ((X0++ [[U BB]])++ [[J B2]]),T⟩):=hpv
     have e:Go.Sort.pdq lt d a b li false wp=pdqT lt d1 a b pv (li-1) false wp:=by rw [z01 lt d false wp (by omega) hl0];simp [hd1,hcc]
     rw [e]
     simp only [go_sem,lp140_0,hw,q12,ql,hbr,hpl,hpv]
     refine zde S0 T l hl n hn ag k hk caps c lt hlt hc N ih _ _ a b (li-1) pv false wp d1 hz1 (by omega) h2 hN (by omega) (by omega) (by omega) (by simp only [go_sem]) (by simp only [go_sem]) (by simp only [go_sem]) (by simp only [go_sem]) (by simp only [go_sem]) (by simp only [go_sem]) (by simp only [go_sem]) (by simp only [go_sem]) (by simp only [go_sem]) _ _ (fun en2 a2 b2 wb2 wp2 d9 X9 he gx g1 g2 g3 g4 g5=> ?_)
     obtain ⟨f0,f1,f2,f3,f4,f10,f11⟩:=he
     refine ⟨(a2,b2,(li-1),wb2,wp2,d9,X9),by simp only [go_sem,f0,f1,f2,f3,f4,f10,f11],?_,?_,fun x en s hq=> ?_⟩
     ·dsimp only;exact ⟨g1,g2,g4,by omega,by omega⟩
     ·dsimp only;exact g3
     ·dsimp only at hq
      rw [g5]
      obtain ⟨hq1,hq2,X8,hx8,hq3⟩:=hq
      exact ⟨hq1,hq2,X8,fun h0=>hx8 (gx ((h0.snoc _ _).snoc _ _)),hq3⟩
    |decreasing=>
     have hpv:run L 176 [.rsl l 0 n n 1 ag,J a,J b,.fn (.func k) [] caps] ⟨put S0 l (Dm fL d1) (X0++ [[U BB]]),T⟩=some (.tup [J pv,I 2],⟨put S0 l (Dm fL d1) ((X0++ [[U BB]])++ [[J B2]]),T⟩):=hpv
     have hrv:=revl S0 T l hl n hn ag k caps ((X0++ [[U BB]])++ [[J B2]]) d1 hz1 a b (by omega) h2
     have hz2:(Go.Sort.reverseRange d1 a b).size=n:=by rw [z3l,hz1]
     have hpa:=z9p pv a (by omega) (by omega)
     have hpb:=z9p (b-1) (pv-a) (by omega) (by omega)
     generalize hd2:Go.Sort.reverseRange d1 a b=d2 at*
     have e:Go.Sort.pdq lt d a b li false wp=pdqT lt d2 a b (b-1-(pv-a)) (li-1) false wp:=by rw [z01 lt d false wp (by omega) hl0];simp [hd1,hcc,hd2]
     rw [e]
     simp only [go_sem,lp140_0,hw,q12,ql,hbr,hpl,hpv,hrv,hb1,hpa,hpb]
     refine zde S0 T l hl n hn ag k hk caps c lt hlt hc N ih _ _ a b (li-1) (b-1-(pv-a)) false wp d2 hz2 (by omega) h2 hN (by omega) (by omega) (by omega) (by simp only [go_sem]) (by simp only [go_sem]) (by simp only [go_sem]) (by simp only [go_sem]) (by simp only [go_sem]) (by simp only [go_sem]) (by simp only [go_sem]) (by simp only [go_sem]) (by simp only [go_sem]) _ _ (fun en2 a2 b2 wb2 wp2 d9 X9 he gx g1 g2 g3 g4 g5=> ?_)
     obtain ⟨f0,f1,f2,f3,f4,f10,f11⟩:=he
     refine ⟨(a2,b2,(li-1),wb2,wp2,d9,X9),by simp only [go_sem,f0,f1,f2,f3,f4,f10,f11],?_,?_,fun x en s hq=> ?_⟩
     ·dsimp only;exact ⟨g1,g2,g4,by omega,by omega⟩
     ·dsimp only;exact g3
     ·dsimp only at hq
      rw [g5]
      obtain ⟨hq1,hq2,X8,hx8,hq3⟩:=hq
      exact ⟨hq1,hq2,X8,fun h0=>hx8 (gx ((h0.snoc _ _).snoc _ _)),hq3⟩
   |true=>
    obtain ⟨B2,hpv⟩:=pivl S0 T l hl n hn ag k hk caps c lt hlt hc X0 d hsz a b (by omega) h2
    have hpr:=Go.Sort.choosePivot_holds lt d a b (by omega)
    generalize hcc:Go.Sort.choosePivot lt d a b=cc at*
    obtain ⟨pv,hint⟩:=cc
    dsimp only at hpr hpv
    cases hint with
    |unknown=>
     have hpv:run L 176 [.rsl l 0 n n 1 ag,J a,J b,.fn (.func k) [] caps] ⟨put S0 l (Dm fL d) X0,T⟩=some (.tup [J pv,I 0],⟨put S0 l (Dm fL d) (X0++ [[J B2]]),T⟩):=hpv
     have e:Go.Sort.pdq lt d a b li true wp=pdqT lt d a b pv li true wp:=by rw [z01 lt d true wp (by omega) hl0];simp [hcc]
     rw [e]
     cases wp with
     |false=>
      simp only [go_sem,lp140_0,hw,q12,ql,hpv]
      refine zde S0 T l hl n hn ag k hk caps c lt hlt hc N ih _ _ a b li pv true false d hsz (by omega) h2 hN (by omega) (by omega) (by omega) (by simp only [go_sem]) (by simp only [go_sem]) (by simp only [go_sem]) (by simp only [go_sem]) (by simp only [go_sem]) (by simp only [go_sem]) (by simp only [go_sem]) (by simp only [go_sem]) (by simp only [go_sem]) _ _ (fun en2 a2 b2 wb2 wp2 d9 X9 he gx g1 g2 g3 g4 g5=> ?_)
      obtain ⟨f0,f1,f2,f3,f4,f10,f11⟩:=he
      refine ⟨(a2,b2,li,wb2,wp2,d9,X9),by simp only [go_sem,f0,f1,f2,f3,f4,f10,f11],?_,?_,fun x en s hq=> ?_⟩
      ·dsimp only;exact ⟨g1,g2,g4,by omega,by omega⟩
      ·dsimp only;exact g3
      ·dsimp only at hq
       rw [g5]
       obtain ⟨hq1,hq2,X8,hx8,hq3⟩:=hq
       exact ⟨hq1,hq2,X8,fun h0=>hx8 (gx (h0.snoc _ _)),hq3⟩
     |true=>
      simp only [go_sem,lp140_0,hw,q12,ql,hpv]
      refine zde S0 T l hl n hn ag k hk caps c lt hlt hc N ih _ _ a b li pv true true d hsz (by omega) h2 hN (by omega) (by omega) (by omega) (by simp only [go_sem]) (by simp only [go_sem]) (by simp only [go_sem]) (by simp only [go_sem]) (by simp only [go_sem]) (by simp only [go_sem]) (by simp only [go_sem]) (by simp only [go_sem]) (by simp only [go_sem]) _ _ (fun en2 a2 b2 wb2 wp2 d9 X9 he gx g1 g2 g3 g4 g5=> ?_)
      obtain ⟨f0,f1,f2,f3,f4,f10,f11⟩:=he
      refine ⟨(a2,b2,li,wb2,wp2,d9,X9),by simp only [go_sem,f0,f1,f2,f3,f4,f10,f11],?_,?_,fun x en s hq=> ?_⟩
      ·dsimp only;exact ⟨g1,g2,g4,by omega,by omega⟩
      ·dsimp only;exact g3
      ·dsimp only at hq
       rw [g5]
       obtain ⟨hq1,hq2,X8,hx8,hq3⟩:=hq
       exact ⟨hq1,hq2,X8,fun h0=>hx8 (gx (h0.snoc _ _)),hq3⟩
    |increasing=>
     have hpv:run L 176 [.rsl l 0 n n 1 ag,J a,J b,.fn (.func k) [] caps] ⟨put S0 l (Dm fL d) X0,T⟩=some (.tup [J pv,I 1],⟨put S0 l (Dm fL d) (X0++ [[J B2]]),T⟩):=hpv
     cases wp with
     |false=>
      have e:Go.Sort.pdq lt d a b li true false=pdqT lt d a b pv li true false:=by rw [z01 lt d true false (by omega) hl0];simp [hcc]
      rw [e]
      simp only [go_sem,lp140_0,hw,q12,ql,hpv]
      refine zde S0 T l hl n hn ag k hk caps c lt hlt hc N ih _ _ a b li pv true false d hsz (by omega) h2 hN (by omega) (by omega) (by omega) (by simp only [go_sem]) (by simp only [go_sem]) (by simp only [go_sem]) (by simp only [go_sem]) (by simp only [go_sem]) (by simp only [go_sem]) (by simp only [go_sem]) (by simp only [go_sem]) (by simp only [go_sem]) _ _ (fun en2 a2 b2 wb2 wp2 d9 X9 he gx g1 g2 g3 g4 g5=> ?_)
      obtain ⟨f0,f1,f2,f3,f4,f10,f11⟩:=he
      refine ⟨(a2,b2,li,wb2,wp2,d9,X9),by simp only [go_sem,f0,f1,f2,f3,f4,f10,f11],?_,?_,fun x en s hq=> ?_⟩
      ·dsimp only;exact ⟨g1,g2,g4,by omega,by omega⟩
      ·dsimp only;exact g3
      ·dsimp only at hq
       rw [g5]
       obtain ⟨hq1,hq2,X8,hx8,hq3⟩:=hq
       exact ⟨hq1,hq2,X8,fun h0=>hx8 (gx (h0.snoc _ _)),hq3⟩
     |true=>
      have hpi:=pisl S0 T l hl n hn ag k hk caps c lt hlt hc (X0++ [[J B2]]) d hsz a b (by omega) h2
      have hz3:(Go.Sort.partialInsertionSort lt d a b).1.size=n:=by unfold Go.Sort.partialInsertionSort;rw [z3f,hsz]
      generalize hpe:Go.Sort.partialInsertionSort lt d a b=pi at*
      obtain ⟨d3,ok⟩:=pi
      dsimp only at hpi hz3
      cases ok with
      |true=>
       have e:Go.Sort.pdq lt d a b li true true=d3:=by rw [z01 lt d true true (by omega) hl0];simp [hcc,hpe]
       rw [e]
       simp only [go_sem,lp140_0,hw,q12,ql,hpv,hpi]
       exact ⟨hz3,_,fun h0=>(h0.snoc _ _),rfl⟩
      |false=>
       have e:Go.Sort.pdq lt d a b li true true=pdqT lt d3 a b pv li true true:=by rw [z01 lt d true true (by omega) hl0];simp [hcc,hpe]
       rw [e]
       simp only [go_sem,lp140_0,hw,q12,ql,hpv,hpi]
       refine zde S0 T l hl n hn ag k hk caps c lt hlt hc N ih _ _ a b li pv true true d3 hz3 (by omega) h2 hN (by omega) (by omega) (by omega) (by simp only [go_sem]) (by simp only [go_sem]) (by simp only [go_sem]) (by simp only [go_sem]) (by simp only [go_sem]) (by simp only [go_sem]) (by simp only [go_sem]) (by simp only [go_sem]) (by simp only [go_sem]) _ _ (fun en2 a2 b2 wb2 wp2 d9 X9 he gx g1 g2 g3 g4 g5=> ?_)
       obtain ⟨f0,f1,f2,f3,f4,f10,f11⟩:=he
       refine ⟨(a2,b2,li,wb2,wp2,d9,X9),by simp only [go_sem,f0,f1,f2,f3,f4,f10,f11],?_,?_,fun x en s hq=> ?_⟩
       ·dsimp only;exact ⟨g1,g2,g4,by omega,by omega⟩
       ·dsimp only;exact g3
       ·dsimp only at hq
        rw [g5]
        obtain ⟨hq1,hq2,X8,hx8,hq3⟩:=hq
        exact ⟨hq1,hq2,X8,fun h0=>hx8 (gx (h0.snoc _ _)),hq3⟩
    |decreasing=>
     have hpv:run L 176 [.rsl l 0 n n 1 ag,J a,J b,.fn (.func k) [] caps] ⟨put S0 l (Dm fL d) X0,T⟩=some (.tup [J pv,I 2],⟨put S0 l (Dm fL d) (X0++ [[J B2]]),T⟩):=hpv
     have hrv:=revl S0 T l hl n hn ag k caps (X0++ [[J B2]]) d hsz a b (by omega) h2
     have hz2:(Go.Sort.reverseRange d a b).size=n:=by rw [z3l,hsz]
     have hpa:=z9p pv a (by omega) (by omega)
     have hpb:=z9p (b-1) (pv-a) (by omega) (by omega)
     generalize hd2:Go.Sort.reverseRange d a b=d2 at*
     cases wp with
     |false=>
      have e:Go.Sort.pdq lt d a b li true false=pdqT lt d2 a b (b-1-(pv-a)) li true false:=by rw [z01 lt d true false (by omega) hl0];simp [hcc,hd2]
      rw [e]
      simp only [go_sem,lp140_0,hw,q12,ql,hpv,hrv,hb1,hpa,hpb]
      refine zde S0 T l hl n hn ag k hk caps c lt hlt hc N ih _ _ a b li (b-1-(pv-a)) true false d2 hz2 (by omega) h2 hN (by omega) (by omega) (by omega) (by simp only [go_sem]) (by simp only [go_sem]) (by simp only [go_sem]) (by simp only [go_sem]) (by simp only [go_sem]) (by simp only [go_sem]) (by simp only [go_sem]) (by simp only [go_sem]) (by simp only [go_sem]) _ _ (fun en2 a2 b2 wb2 wp2 d9 X9 he gx g1 g2 g3 g4 g5=> ?_)
      obtain ⟨f0,f1,f2,f3,f4,f10,f11⟩:=he
      refine ⟨(a2,b2,li,wb2,wp2,d9,X9),by simp only [go_sem,f0,f1,f2,f3,f4,f10,f11],?_,?_,fun x en s hq=> ?_⟩
      ·dsimp only;exact ⟨g1,g2,g4,by omega,by omega⟩
      ·dsimp only;exact g3
      ·dsimp only at hq
       rw [g5]
       obtain ⟨hq1,hq2,X8,hx8,hq3⟩:=hq
       exact ⟨hq1,hq2,X8,fun h0=>hx8 (gx (h0.snoc _ _)),hq3⟩
     |true=>
      have hpi:=pisl S0 T l hl n hn ag k hk caps c lt hlt hc (X0++ [[J B2]]) d2 hz2 a b (by omega) h2
      have hz3:(Go.Sort.partialInsertionSort lt d2 a b).1.size=n:=by unfold Go.Sort.partialInsertionSort;rw [z3f,hz2]
      generalize hpe:Go.Sort.partialInsertionSort lt d2 a b=pi at*
      obtain ⟨d3,ok⟩:=pi
      dsimp only at hpi hz3
      cases ok with
      |true=>
       have e:Go.Sort.pdq lt d a b li true true=d3:=by rw [z01 lt d true true (by omega) hl0];simp [hcc,hd2,hpe]
       rw [e]
       simp only [go_sem,lp140_0,hw,q12,ql,hpv,hrv,hb1,hpa,hpb,hpi]
       exact ⟨hz3,_,fun h0=>(h0.snoc _ _),rfl⟩
      |false=>
       have e:Go.Sort.pdq lt d a b li true true=pdqT lt d3 a b (b-1-(pv-a)) li true true:=by rw [z01 lt d true true (by omega) hl0];simp [hcc,hd2,hpe]
       rw [e]
       simp only [go_sem,lp140_0,hw,q12,ql,hpv,hrv,hb1,hpa,hpb,hpi]
       refine zde S0 T l hl n hn ag k hk caps c lt hlt hc N ih _ _ a b li (b-1-(pv-a)) true true d3 hz3 (by omega) h2 hN (by omega) (by omega) (by omega) (by simp only [go_sem]) (by simp only [go_sem]) (by simp only [go_sem]) (by simp only [go_sem]) (by simp only [go_sem]) (by simp only [go_sem]) (by simp only [go_sem]) (by simp only [go_sem]) (by simp only [go_sem]) _ _ (fun en2 a2 b2 wb2 wp2 d9 X9 he gx g1 g2 g3 g4 g5=> ?_)
       obtain ⟨f0,f1,f2,f3,f4,f10,f11⟩:=he
       refine ⟨(a2,b2,li,wb2,wp2,d9,X9),by simp only [go_sem,f0,f1,f2,f3,f4,f10,f11],?_,?_,fun x en s hq=> ?_⟩
       ·dsimp only;exact ⟨g1,g2,g4,by omega,by omega⟩
       ·dsimp only;exact g3
       ·dsimp only at hq
        rw [g5]
        obtain ⟨hq1,hq2,X8,hx8,hq3⟩:=hq
        exact ⟨hq1,hq2,X8,fun h0=>hx8 (gx (h0.snoc _ _)),hq3⟩
end
theorem pdql (S0:List (List AV))(T:List Nat)(l:Nat)(hl:l<S0.length)(n:Nat)(hn:n≤1000)(ag:Bool)(k:Nat)(hk:pure k=false)(caps:List AV)(c:LI→LI→Int)(lt:LI→LI→Bool)(hlt: ∀x y,lt x y=decide (c x y<0))(hc: ∀x y X E,run L k (fL x::fL y::caps) ⟨put S0 l X E,T⟩=some (I (c x y),⟨put S0 l X E,T⟩))(hn2:n<256): ∀(N a b li:Nat) (d:Array (LI)) (X0:List (List AV)),a≤b→b≤n→d.size=n→li<1000→b-a<N→(Go.Sort.pdq lt d a b li true true).size=n∧∃X1,(PL X0→PL X1)∧run L 140 [.rsl l 0 n n 1 ag,J a,J b,J li,.fn (.func k) [] caps] ⟨put S0 l (Dm fL d) X0,T⟩=some (.tup [],⟨put S0 l (Dm fL (Go.Sort.pdq lt d a b li true true)) X1,T⟩)
 |0,_,_,_,_,_,_,_,_,_,h=>by omega
 |N+1,a,b,li,d,X0,h1,h2,hsz,hli,hN=>by
  have ih:=pdql S0 T l hl n hn ag k hk caps c lt hlt hc hn2 N
  rw [z6 (fn:=ir140) rfl rfl]
  simp only [ir140,go_sem]
  generalize hg:lim (headed pure (run L) false _ lp140_0 _ _) _ _=o
  obtain ⟨x,en,s,rfl,h2⟩: ∃x en s,o=some (x,en,s)∧_:=by rw [←hg];exact pdq0l S0 T l hl n hn ag k hk caps c lt hlt hc hn2 N ih _ _ a b li true true d X0 ⟨h1,h2,hsz,hli,by omega⟩ _ _ (by simp only [go_sem]<;>rfl)
  clear hg
  obtain ⟨rfl,hz,X1,hX1,rfl⟩:=h2
  refine ⟨hz,X1,hX1,?_⟩
  simp only [go_sem]
section
variable (S0:List (List AV)) (T:List Nat) (l:Nat) (hl:l<S0.length) (n:Nat) (hn:n≤1000) (ag:Bool) (k:Nat) (hk:pure k=false) (caps:List AV) (c:LI→LI→Int) (lt:LI→LI→Bool) (hlt: ∀x y,lt x y=decide (c x y<0)) (hc: ∀x y X E,run L k (fL x::fL y::caps) ⟨put S0 l X E,T⟩=some (I (c x y),⟨put S0 l X E,T⟩))
include S0 T l hl n hn ag k hk caps c lt hlt hc
theorem sortl (hn2:n<256)(d:Array (LI))(hsz:d.size=n)(X0:List (List AV)):
  ∃X1,(PL X0→PL X1)∧run L 113 [.rsl l 0 n n 1 ag,.fn (.func k) [] caps] ⟨put S0 l (Dm fL d) X0,T⟩=some (.tup [],⟨put S0 l (Dm fL (Go.Sort.sort lt d)) X1,T⟩):=by
 rw [z6 (fn:=ir113) rfl rfl]
 have hcv:=z8i n (by omega)
 have h115:=fun st=>c115 n hn2 st
 have hbl:Go.Sort.bitsLen n<1000:=by
  have:=(Go.Sort.bitsLen_le_iff n 8).2 (by omega)
  omega
 obtain ⟨hz,X1,hX1,h⟩:=pdql S0 T l hl n hn ag k hk caps c lt hlt hc hn2 (n+1) 0 n (Go.Sort.bitsLen n) d X0 (by omega) (by omega) hsz hbl (by omega)
 refine ⟨X1,hX1,?_⟩
 have e:Go.Sort.sort lt d=Go.Sort.pdq lt d 0 n (Go.Sort.bitsLen n) true true:=by unfold Go.Sort.sort;rw [hsz]
 rw [e]
 have h:run L 140 [.rsl l 0 n n 1 ag,I 0,J n,J (Go.Sort.bitsLen n),.fn (.func k) [] caps] ⟨put S0 l (Dm fL d) X0,T⟩=_:=h
 simp only [ir113,go_sem,hcv,h115,h]
end
attribute [local go_sem] m_ x_ l_ k_ o_ t_ a_ s_ q_ b_ c_ u_ g_ zd zf zi z8 zh
theorem zlt {a b:Nat} (ha:a<512)(hb:b<512)(h:memb a=memb b):a=b:=by
 apply Nat.eq_of_testBit_eq;intro i
 have h1:=z69 ha (i:Int)
 have h2:=z69 hb (i:Int)
 rw [h] at h1
 have h3:(∃j:Nat,(i:Int)=j∧a.testBit j=true)↔(∃j:Nat,(i:Int)=j∧b.testBit j=true):=h1.symm.trans h2
 cases ha':a.testBit i
 ·cases hb':b.testBit i
  ·rfl
  ·obtain ⟨j,hj,hj2⟩:=h3.2 ⟨i,rfl,hb'⟩
   have:i=j:=by omega
   subst this
   rw [ha'] at hj2;cases hj2
 ·obtain ⟨j,hj,hj2⟩:=h3.1 ⟨i,rfl,ha'⟩
  have:i=j:=by omega
  subst this
  exact hj2.symm
theorem zdf {α:Type} (f:α→List Int):Go.Sort.SWO (fun x y=>lexLt (f x) (f y)) where
 irrefl x:=zcr _
 trans x y z:=zbl _ _ _
 ntrans x y z h1 h2:=lex_le h2 h1
def sortA {α:Type} [Inhabited α] (lt:α→α→Bool) (l:List α):List α:=(Go.Sort.sort lt l.toArray).toList
theorem zcg {α:Type} [Inhabited α] {lt:α→α→Bool} (h:Go.Sort.SWO lt)(l:List α):(sortA lt l).Perm l:=by
 have h1:=(Go.Sort.sort_sorts lt h l.toArray).1
 have h2:=h1.2.2
 have hs:(Go.Sort.sort lt l.toArray).size=l.toArray.size:=h1.1
 rw [Go.Sort.extract_toList _ _ _ (by rw [hs];exact Nat.le_refl _),Go.Sort.extract_toList _ _ _ (Nat.le_refl _)] at h2
 have key: ∀(d:Array α),(List.range' 0 (d.size-0)).map (fun i=>d[i]!)=d.toList:=by
  intro d
  apply List.ext_getElem
  ·simp
  ·intro i h1 h2
   simp at h1 h2⊢
   exact getElem!_pos d i h2
 have e1:=key (Go.Sort.sort lt l.toArray)
 rw [hs] at e1
 rw [e1,key] at h2
 exact h2
theorem za8 {α:Type} [Inhabited α] {lt:α→α→Bool} (h:Go.Sort.SWO lt)(l:List α):(sortA lt l).Pairwise (fun x y=>lt y x=false):=by
 have h1:=Go.Sort.sort_sorts lt h l.toArray
 have hs:(Go.Sort.sort lt l.toArray).size=l.toArray.size:=h1.1.1
 rw [List.pairwise_iff_getElem]
 intro i j hi hj hij
 unfold sortA at hi hj⊢
 simp only [Array.length_toList] at hi hj
 have:=h1.2 i j (Nat.zero_le _) hij (by rw [←hs];exact hj)
 rw [getElem!_pos _ i hi,getElem!_pos _ j hj] at this
 simpa using this
theorem z8s {α:Type} {R:α→α→Prop} (hR: ∀x y,R x y→R y x→x=y): ∀(l m:List α),l.Perm m→l.Pairwise R→m.Pairwise R→l=m
 | [],m,h,_,_=>(List.Perm.nil_eq h)
 |x::l,m,h,h1,h2=>by
  cases m with
  |nil=>exact absurd h.length_eq (by simp)
  |cons y m=>
   have hx:x∈y::m:=h.mem_iff.1 (by simp)
   have hy:y∈x::l:=h.mem_iff.2 (by simp)
   rw [List.pairwise_cons] at h1 h2
   have e:x=y:=by
    rw [List.mem_cons] at hx hy
    rcases hx with e|hx
    ·exact e
    ·rcases hy with e|hy
     ·exact e.symm
     ·exact hR _ _ (h1.1 y hy) (h2.1 x hx)
   subst e
   rw [z8s hR l m (List.Perm.cons_inv h) h1.2 h2.2]
def lt8 (x y:Fin 256):Bool:=lexLt (memb x.val) (memb y.val)
def fin8 (ss:List Nat):List (Fin 256):=ss.map fun x=>⟨x % 256,Nat.mod_lt _ (by decide)⟩
theorem zh3 {ss:List Nat} (h: ∀s∈ss,s<256):(fin8 ss).map (fun x=>x.val)=ss:=by
 unfold fin8
 rw [List.map_map]
 conv=>rhs;rw [←List.map_id ss]
 apply List.map_congr_left
 intro x hx
 exact Nat.mod_eq_of_lt (h x hx)
def srt (ss:List Nat):List Nat:=(sortA lt8 (fin8 ss)).map (fun x=>x.val)
theorem zmp (ss:List Nat): ∀s∈srt ss,s<256:=by
 intro s hs
 unfold srt at hs
 rw [List.mem_map] at hs
 obtain ⟨x,_,rfl⟩:=hs
 exact x.isLt
theorem z82 {ss:List Nat} (h: ∀s∈ss,s<256):(srt ss).Perm ss:=by
 have:=(zcg (zdf (fun x:Fin 256=>memb x.val)) (fin8 ss)).map (fun x=>x.val)
 rw [zh3 h] at this
 exact this
def LexLe (a b:Nat):Prop:=lexLt (memb b) (memb a)=false
theorem LexLe.anti {a b:Nat} (ha:a<512)(hb:b<512)(h1:LexLe a b)(h2:LexLe b a):a=b:=zlt ha hb (z9e _ _ h2 h1)
theorem z9u (ss:List Nat):(srt ss).Pairwise LexLe:=by
 unfold srt
 rw [List.pairwise_map]
 exact za8 (zdf (fun x:Fin 256=>memb x.val)) (fin8 ss)
theorem zfq {ss:List Nat} (h: ∀s∈ss,s<256):(srt ss).length=ss.length:=(z82 h).length_eq
theorem zl6 {ss ts:List Nat} (h: ∀s∈ss,s<256)(hp:ts.Perm ss)(hs:ts.Pairwise LexLe):ts=srt ss:=by
 have h2: ∀s∈ts,s<256:=fun s hs=>h s (hp.mem_iff.1 hs)
 have key: ∀(l m:List Nat),(∀s∈l,s<256)→(∀s∈m,s<256)→l.Perm m→l.Pairwise LexLe→m.Pairwise LexLe→l=m:=by
  intro l m hl hm hpm h1 h2
  refine z8s (R:=fun a b=>a<256∧b<256∧LexLe a b) (fun x y hx hy=>hx.2.2.anti (by omega) (by omega) hy.2.2) l m hpm ?_ ?_
  ·exact h1.imp_of_mem (fun ha hb hab=>⟨hl _ ha,hl _ hb,hab⟩)
  ·exact h2.imp_of_mem (fun ha hb hab=>⟨hm _ ha,hm _ hb,hab⟩)
 exact key _ _ h2 (zmp ss) (hp.trans (z82 h).symm) hs (z9u ss)
theorem zip {ss ts:List Nat} (h: ∀s∈ss,s<256)(hp:ts.Perm ss):srt ts=srt ss:=
 zl6 h ((z82 (fun s hs=>h s (hp.mem_iff.1 hs))).trans hp) (z9u ts)
theorem c81 (a b:Nat)(ha:a<256)(hb:b<256)(st:St):run L 81 [E8 a,E8 b] st=some (I (cmpN (memb a) (memb b)),st):=by
 rw [run_pure (fn:=ir81) rfl rfl]
 have h1:=fun st=>c94 a ha st
 have h2:=fun st=>c94 b hb st
 have hm:=z6a a
 have h3: ∀st,run L 42 [tAV (memb a),tAV (memb b)] st=some (I (cmpN (memb a) (memb b)),st):=fun st=>c42 true true (memb a) (memb b) (by omega) st
 simp only [ir81,go_sem,h1,h2,h3]
attribute [local go_sem] m_ x_ l_ k_ o_ t_ a_ s_ q_ b_ c_ u_ g_ zp zb zm zq z3b z25 zd zf zi z8 zh z3e
theorem zp7 {X:List (List AV)} (h:PL X)(n:Nat):okStore n X=true:=by
 induction X with
 |nil=>rfl
 |cons B r ih=>
  obtain ⟨k,i,rfl⟩:=h B (by simp)
  simp only [okStore,ih (fun C hC=>h C (by simp [hC])),okRefs,okRef,Bool.and_self]
theorem zl0 {X:List (List AV)} (h:PL X)(n:Nat)(T:List Nat)(acc:List (Nat×Nat)):renStore n T acc X=(X,acc):=by
 induction X generalizing acc with
 |nil=>rfl
 |cons B r ih=>
  obtain ⟨k,i,rfl⟩:=h B (by simp)
  simp only [renStore,renCells,ren1,ih (fun C hC=>h C (by simp [hC]))]
theorem zky {α:Type} (X:List α)(c:α):(X++ [c])[X.length]? =some c:=by simp
theorem zgk {α:Type} (X:List α)(c d:α):(X++ [c]).set X.length d=X++ [d]:=by simp
theorem zil {α:Type} (X:List α)(c:α):(X++ [c]).take X.length=X:=by simp
abbrev cmpS:AV:=.fn (.func 81) [] []
theorem zp9 {ss:List Nat} (h: ∀s∈ss,s<256):Dm gS (fin8 ss).toArray=ss.map u8:=by
 unfold Dm
 show (fin8 ss).map (fun x=>u8 x.val)=ss.map u8
 rw [show (fun x:Fin 256=>u8 x.val)=u8∘(fun x:Fin 256=>x.val) from rfl,←List.map_map,zh3 h]
theorem Dm_srt (ss:List Nat):Dm gS (Go.Sort.sort lt8 (fin8 ss).toArray)=(srt ss).map u8:=by
 unfold Dm srt sortA
 rw [List.map_map];rfl
theorem c80 (S0:List (List AV))(T:List Nat)(l:Nat)(hl:l<S0.length)(ag:Bool)(ss:List Nat)(h: ∀s∈ss,s<256)(hn:ss.length<256):
  ∃X1,PL X1∧run L 80 [.rsl l 0 ss.length ss.length 1 ag,cmpS] ⟨S0.set l (ss.map u8),T⟩=some (.tup [],⟨S0.set l ((srt ss).map u8)++X1,T⟩):=by
 obtain ⟨X1,h1,h2⟩:=sorts S0 T l hl ss.length (by omega) ag 81 rfl [] (fun x y=>cmpN (memb x.val) (memb y.val)) lt8 (fun x y=>(ze5 _ _).symm)
  (fun x y X E=>c81 x.val y.val x.isLt y.isLt _) hn (fin8 ss).toArray (by simp [fin8]) []
 rw [zp9 h,Dm_srt] at h2
 unfold put at h2
 rw [List.append_nil] at h2
 exact ⟨X1,h1 PL.nil,h2⟩
theorem ins1n (st0:St)(lo hi:Nat)(i:Nat)(hok:True)(env:Env)(st:St)
  (hg:gcAV false lo hi (canon env [0,1,2,3,8]) st=([(0,.v (.slice none 0 0)),(1,I 0),(2,I 0),(3,cmpS),(8,J i)],st0)):
  ∃x_1 en s,lim (headed pure (run L) false [0,1,2,3,8] lp161_1 lo hi) env st=some (x_1,en,s)∧(x_1=.exit 0∧s=st0):=by
 refine z9 (α:=Nat) (fun i=>0) (fun i=>True) (fun i=>([(0,.v (.slice none 0 0)),(1,I 0),(2,I 0),(3,cmpS),(8,J i)],st0)) (fun i x_1 en s=>x_1=.exit 0∧s=st0) (fun i hok=> ?_) i hok env st hg
 have hlt:((i:Int)<0)=False:=eF (by omega)
 simp only [go_sem,lp161_1,hlt]
theorem c161n (st:St):run L 161 [.v (.slice none 0 0),I 0,I 0,cmpS] st=some (.tup [],st):=by
 rw [z6 (fn:=ir161) rfl rfl]
 have h1:IntKind.i64.wrap 1=1:=by decide
 simp only [ir161,go_sem,h1]
 generalize hg:lim (headed pure (run L) false _ lp161_1 _ _) _ _=o
 obtain ⟨x,en,s,rfl,h2⟩: ∃x en s,o=some (x,en,s)∧_:=by rw [←hg];exact ins1n st _ _ 1 trivial _ _ (by simp only [go_sem,show I 1=J 1 from rfl]<;>rfl)
 clear hg
 obtain ⟨rfl,rfl⟩:=h2
 simp only [go_sem]
theorem pdqn (st0:St)(lo hi:Nat)(i:Nat)(hok:True)(env:Env)(st:St)
  (hg:gcAV false lo hi (canon env [0,1,2,3,4,10,11]) st=([(0,.v (.slice none 0 0)),(1,I 0),(2,I 0),(3,J i),(4,cmpS),(10,B true),(11,B true)],st0)):
  ∃x_1 en s,lim (headed pure (run L) false [0,1,2,3,4,10,11] lp129_0 lo hi) env st=some (x_1,en,s)∧(x_1=.ret∧s=st0):=by
 refine z9 (α:=Nat) (fun i=>0) (fun i=>True) (fun i=>([(0,.v (.slice none 0 0)),(1,I 0),(2,I 0),(3,J i),(4,cmpS),(10,B true),(11,B true)],st0)) (fun i x_1 en s=>x_1=.ret∧s=st0) (fun i hok=> ?_) i hok env st hg
 have h1:IntKind.i64.wrap 0=0:=by decide
 have h2:((0:Int)≤12)=True:=eT (by omega)
 simp only [go_sem,lp129_0,h1,h2,c161n]
theorem c80n (st:St):run L 80 [.v (.slice none 0 0),cmpS] st=some (.tup [],st):=by
 have h129: ∀i:Nat,run L 129 [.v (.slice none 0 0),I 0,I 0,J i,cmpS] st=some (.tup [],st):=by
  intro i
  rw [z6 (fn:=ir129) rfl rfl]
  simp only [ir129,go_sem]
  generalize hg:lim (headed pure (run L) false _ lp129_0 _ _) _ _=o
  obtain ⟨x,en,s,rfl,h2⟩: ∃x en s,o=some (x,en,s)∧_:=by rw [←hg];exact pdqn st _ _ i trivial _ _ (by simp only [go_sem]<;>rfl)
  clear hg
  obtain ⟨rfl,rfl⟩:=h2
  simp only [go_sem]
 rw [z6 (fn:=ir80) rfl rfl]
 have h115: ∀st,run L 115 [.v (.int .u64 0)] st=some (J (Go.Sort.bitsLen 0),st):=fun st=>c115 0 (by omega) st
 have hcv:IntKind.u64.wrap 0=0:=by decide
 simp only [ir80,go_sem,hcv,h115,h129]
theorem zio:srt []=[]:=List.Perm.eq_nil (z82 (by simp))
attribute [local go_sem] m_ x_ l_ k_ o_ t_ a_ s_ q_ b_ c_ u_ g_ zp zb zm zq z3b z25 zd zf zi z8 zh z3e
theorem u8s_E (ss:List Nat):u8s (ss.map E8)=some (ss.map fun (s:Nat)=>(s:Int)):=by
 induction ss with
 |nil=>rfl
 |cons s r ih=>simp only [List.map_cons,u8s,ih,Option.map_some]
theorem zku (nl:Bool)(ss:List Nat)(hk:ss.length≤1000)(st:St):bytesOf st (sl 1 nl (ss.map E8))=some (ss.map fun (s:Nat)=>(s:Int)):=by
 unfold bytesOf
 rw [z3n]
 simp only [Option.bind_some,u8s_E,lm_,if_pos hk]
theorem c130 (x:AV)(ss:List Nat)(hx: ∀st,bytesOf st x=some (ss.map fun (s:Nat)=>(s:Int)))(h: ∀s∈ss,s<256)(hk:ss.length<256):
  (ss=[]→run L 130 [.fn (.func 170) [] [.ptr 0 0],cmpS] ⟨[[x]],[]⟩=some (.v (.slice none 0 0),⟨[[x]],[]⟩))∧
  (ss≠[]→∃X1,PL X1∧run L 130 [.fn (.func 170) [] [.ptr 0 0],cmpS] ⟨[[x]],[]⟩=some (.rsl 1 0 ss.length ss.length 1 true,⟨[[x],(srt ss).map u8]++X1,[]⟩)):=by
 rw [z6 (fn:=ir130) rfl rfl]
 have hb:=hx ⟨[[x]],[]⟩
 have h169: ∀r st',primSeq 192 170 192 [.v (.slice none 0 0),.fn (.func 170) [] [.ptr 0 0]] ⟨[[x]],[]⟩=some (r,st')→1≤st'.store.length→
   run L 192 [.v (.slice none 0 0),.fn (.func 170) [] [.ptr 0 0]] ⟨[[x]],[]⟩=some (r,st'):=by
  intro r st' hp h1
  exact zlc rfl rfl hp h1 (Nat.zero_le _)
 refine ⟨fun he=> ?_,fun he=> ?_⟩
 ·rw [he,List.map_nil] at hb
  have h192:=h169 (.v (.slice none 0 0)) ⟨[[x]],[]⟩ (by
   simp only [primSeq,if_true,List.getElem?_cons_zero,hb]) (by simp)
  have h169:run L 169 [.fn (.func 170) [] [.ptr 0 0]] ⟨[[x]],[]⟩=some (.v (.slice none 0 0),⟨[[x]],[]⟩):=by
   rw [z6 (fn:=ir169) rfl rfl]
   simp only [ir169,go_sem,h192,show pure 192=false from rfl]
  simp only [ir130,go_sem,h169,c80n]
 ·obtain ⟨z,zs,rfl⟩: ∃z zs,ss=z::zs:=by cases ss with|nil=>exact absurd rfl he|cons z zs=>exact ⟨z,zs,rfl⟩
  generalize hss:z::zs=ss at*
  have h192:=h169 (.rsl 1 0 ss.length ss.length 1 true) ⟨[[x],ss.map u8],[]⟩ (by
   have e:(ss.map fun (s:Nat)=>(s:Int))=(z:Int)::zs.map fun (s:Nat)=>(s:Int):=by rw [←hss];rfl
   rw [e] at hb
   simp only [primSeq,if_true,List.getElem?_cons_zero,hb]
   have e1:((z:Int)::zs.map fun (s:Nat)=>(s:Int)).length=ss.length:=by rw [←hss];simp
   have e2:(((z:Int)::zs.map fun (s:Nat)=>(s:Int)).map fun z=>AV.v (.int .u8 z))=ss.map u8:=by rw [←hss];simp
   rw [e1,e2];rfl) (by simp)
  have h169:run L 169 [.fn (.func 170) [] [.ptr 0 0]] ⟨[[x]],[]⟩=some (.rsl 1 0 ss.length ss.length 1 true,⟨[[x],ss.map u8],[]⟩):=by
   rw [z6 (fn:=ir169) rfl rfl]
   simp only [ir169,go_sem,h192,show pure 192=false from rfl]
  obtain ⟨X1,hX1,h80⟩:=c80 [[x],ss.map u8] [] 1 (by simp) true ss h hk
  have h80:run L 80 [.rsl 1 0 ss.length ss.length 1 true,cmpS] ⟨[[x],ss.map u8],[]⟩=some (.tup [],⟨[[x],(srt ss).map u8]++X1,[]⟩):=h80
  refine ⟨X1,hX1,?_⟩
  simp only [ir130,go_sem,h169,h80]
theorem loop84 (C:List AV)(hC1: ∀n,okRefs n C=true)(hC2: ∀n T acc,renCells n T acc C=(C,acc))(X1:List (List AV))(hX:PL X1)(ss:List Nat)(h256: ∀s∈ss,s<256)(hk:ss.length<256)(i:Nat)(o:List Nat)(hok:i≤ss.length∧o.length≤i)(env:Env)(st:St)
  (hg:gcAV true (X1.length+1+1) 0 (canon env [3,8,9,10]) st=([(3,oA (o.map tM)),(8,.rsl 1 0 ss.length ss.length 1 true),(9,J ss.length),(10,J i)],⟨C::ss.map u8::X1,oT (o.map tM)⟩)):
  ∃x_1 en s,lim (headed pure (run L) true [3,8,9,10] lp84_0 (X1.length+1+1) 0) env st=some (x_1,en,s)∧(x_1=.exit 0∧en.get 3=oA ((o++ss.drop i).map tM)):=by
 refine z9 (α:=Nat×List Nat) (fun ⟨i,o⟩=>ss.length-i) (fun ⟨i,o⟩=>i≤ss.length∧o.length≤i) (fun ⟨i,o⟩=>([(3,oA (o.map tM)),(8,.rsl 1 0 ss.length ss.length 1 true),(9,J ss.length),(10,J i)],⟨C::ss.map u8::X1,oT (o.map tM)⟩)) (fun ⟨i,o⟩ x_1 en s=>x_1=.exit 0∧en.get 3=oA ((o++ss.drop i).map tM)) (fun ⟨i,o⟩ hok=> ?_) ⟨i,o⟩ hok env st hg
 simp only at hok
 obtain ⟨h1,h2⟩:=hok
 dsimp only at h1 h2⊢
 by_cases h:i<ss.length
 ·have hs:=ze i (by omega)
  have hlt:((i:Int)<(ss.length:Int))=True:=eT (by omega)
  have hd:ss.drop i=ss.getD i 0::ss.drop (i+1):=by
   rw [List.drop_eq_getElem_cons h];simp [List.getD_eq_getElem?_getD,h]
  have hb:ss.getD i 0<256:=by
   rw [List.getD_eq_getElem?_getD,List.getElem?_eq_getElem h];exact h256 _ (List.getElem_mem h)
  have hg:=zit ss i h
  have hil:(i+1≤ss.length)=True:=eT (by omega)
  have hin:((i:Int).toNat<ss.length)=True:=eT (by omega)
  rw [hd]
  generalize ss.getD i 0=v at*
  have h94:=fun st=>c94 v hb st
  have happ:=fun S=>z9o (o.map tM) (tM v) S (by rw [lm_];omega)
  have g1:=zky X1 [u8 v]
  have g2:=zgk X1 [u8 v] [u8 v]
  have g0:=zky X1 [u8 0]
  have g3:=zgk X1 [u8 0] [u8 v]
  have g4:=zil X1 [u8 v]
  have hl1:(1<X1.length+1+1)=True:=eT (by omega)
  simp only [go_sem,lp84_0,hlt,hs,hil,hin,hg,h94,happ,g0,g1,g2,g3,nn_,lm_,show AV.v (.int .u8 0)=u8 0 from rfl]
  refine ⟨(i+1,o++ [v]),by simp only [go_sem,z3,z4,z5,zeo,z9b,List.map_append,hC1,hC2,z4q,z0x,zp7 hX,zl0 hX,g4,hl1]<;>rfl,?_,?_,fun x en s hq=> ?_⟩
  ·dsimp only;exact ⟨by omega,by rw [List.length_append,List.length_singleton];omega⟩
  ·dsimp only;omega
  ·simp only [List.append_assoc,List.singleton_append] at hq;exact hq
 ·have hd:ss.drop i=[]:=List.drop_eq_nil_of_le (by omega)
  have hlt:((i:Int)<(ss.length:Int))=False:=eF (by omega)
  rw [hd,List.append_nil]
  simp only [go_sem,lp84_0,hlt]
theorem zoa (C:List AV)(hC1: ∀n,okRefs n C=true)(hC2: ∀n T acc,renCells n T acc C=(C,acc))(i:Nat)(hok:i=0)(env:Env)(st:St)
  (hg:gcAV true 1 0 (canon env [3,8,9,10]) st=([(3,.v (.slice none 0 0)),(8,.v (.slice none 0 0)),(9,I 0),(10,J i)],⟨[C],[]⟩)):
  ∃x_1 en s,lim (headed pure (run L) true [3,8,9,10] lp84_0 1 0) env st=some (x_1,en,s)∧(x_1=.exit 0∧en.get 3=.v (.slice none 0 0)):=by
 refine z9 (α:=Nat) (fun i=>i) (fun i=>i=0) (fun i=>([(3,.v (.slice none 0 0)),(8,.v (.slice none 0 0)),(9,I 0),(10,J i)],⟨[C],[]⟩)) (fun i x_1 en s=>x_1=.exit 0∧en.get 3=.v (.slice none 0 0)) (fun i hok=> ?_) i hok env st hg
 subst hok
 have hlt:(((0:Nat):Int)<0)=False:=eF (by omega)
 simp only [go_sem,lp84_0,hlt]
theorem c84 (nl:Bool)(ss:List Nat)(h: ∀s∈ss,s<256)(hk:ss.length<256)(st:St):run L 84 [sl 1 nl (ss.map E8)] st=some (sl 1 true ((srt ss).map tM),st):=by
 rw [run_pure (fn:=ir84) rfl rfl]
 have h131:run L 131 [sl 1 nl (ss.map E8)] ⟨[],[]⟩=some (.fn (.func 170) [] [.ptr 0 0],⟨[[sl 1 nl (ss.map E8)]],[]⟩):=by
  rw [z6 (fn:=ir131) rfl rfl]
  simp only [ir131,go_sem]
 have h130:=c130 (sl 1 nl (ss.map E8)) ss (fun st=>zku nl ss (by omega) st) h hk
 have hp:pub (sl 1 nl (ss.map E8))=sl 1 nl (ss.map E8):=z5h _ _ _
 have ho: ∀n,okRef n (sl 1 nl (ss.map E8))=true:=fun n=>z3m _ _ _ _
 have hr: ∀n T acc,ren1 n T acc (sl 1 nl (ss.map E8))=(sl 1 nl (ss.map E8),acc):=fun n T acc=>z52 _ _ _ _ _ _
 generalize sl 1 nl (ss.map E8)=x at*
 have hC1: ∀n,okRefs n [x]=true:=fun n=>by simp only [okRefs,ho,Bool.and_self]
 have hC2: ∀n T acc,renCells n T acc [x]=([x],acc):=fun n T acc=>by simp only [renCells,hr]
 by_cases he:ss=[]
 ·have h130:=h130.1 he
  have hz:srt ss=[]:=by rw [he,zio]
  rw [hz]
  simp only [ir84,go_sem,hp,h131,h130]
  generalize hg:lim (headed pure (run L) true _ lp84_0 _ _) _ _=o
  obtain ⟨x,en,s,rfl,h2⟩: ∃x en s,o=some (x,en,s)∧_:=by rw [←hg];exact zoa [x] hC1 hC2 0 rfl _ _ (by simp only [go_sem,ho,hr,Int.natCast_zero]<;>rfl)
  clear hg
  obtain ⟨rfl,e3⟩:=h2
  simp only [go_sem,e3]
  rfl
 ·obtain ⟨X1,hX1,h130⟩:=h130.2 he
  have hsl:=zfq h
  have hl1:(1<X1.length+1+1)=True:=eT (by omega)
  simp only [ir84,go_sem,hp,h131,h130]
  rw [←hsl]
  generalize hg:lim (headed pure (run L) true _ lp84_0 _ _) _ _=o
  obtain ⟨x,en,s,rfl,h2⟩: ∃x en s,o=some (x,en,s)∧_:=by rw [←hg];exact loop84 [x] hC1 hC2 X1 hX1 (srt ss) (zmp ss) (by omega) 0 [] ⟨by omega,by simp⟩ _ _ (by simp only [go_sem,ho,hr,z4q,z0x,zp7 hX1,zl0 hX1,hl1,Int.natCast_zero,List.map_nil,←zdm,zgt,List.take_length]<;>rfl)
  clear hg
  rw [List.drop_zero] at h2
  obtain ⟨rfl,e3⟩:=h2
  simp only [go_sem,e3]
attribute [local go_sem] m_ x_ l_ k_ o_ t_ a_ s_ q_ b_ c_ u_ g_ zp zb zm zq z3b z25 zd zf zi z8 zh z3e
theorem pp_get {α:Type} (A L:List α) {p:Nat} (hp:A.length=p)(k:Nat):(A++L)[p+k]? =L[k]? :=by
 subst hp;rw [List.getElem?_append_right (by omega)];simp
theorem znx {α:Type} (A L:List α) {p:Nat} (hp:A.length=p):(A++L)[p]? =L[0]? :=pp_get A L hp 0
theorem pp_set {α:Type} (A L:List α) {p:Nat} (hp:A.length=p)(k:Nat)(v:α):(A++L).set (p+k) v=A++L.set k v:=by
 subst hp;rw [List.set_append_right _ _ (by omega)];simp
theorem znw {α:Type} (A L:List α) {p:Nat} (hp:A.length=p)(v:α):(A++L).set p v=A++L.set 0 v:=pp_set A L hp 0 v
theorem pp_len {α:Type} (A L:List α) {p:Nat} (hp:A.length=p):(A++L).length=p+L.length:=by rw [List.length_append,hp]
structure Calm (A:List (List AV)):Prop where
 ok: ∀n,okStore n A=true
 ren: ∀n T acc,renStore n T acc A=(A,acc)
theorem Calm.okApp {A:List (List AV)} (h:Calm A)(n:Nat)(L:List (List AV)):okStore n (A++L)=okStore n L:=by
 have key: ∀(B:List (List AV)),okStore n (B++L)=(okStore n B&&okStore n L):=by
  intro B
  induction B with
  |nil=>rfl
  |cons b r ih=>simp only [List.cons_append,okStore,ih,Bool.and_assoc]
 rw [key,h.ok,Bool.true_and]
theorem Calm.renApp {A:List (List AV)} (h:Calm A)(n:Nat)(T:List Nat)(acc:List (Nat×Nat))(L:List (List AV)):renStore n T acc (A++L)=(A++(renStore n T acc L).1,(renStore n T acc L).2):=by
 have key: ∀(B:List (List AV)) (acc:List (Nat×Nat)),renStore n T acc (B++L)=((renStore n T acc B).1++(renStore n T (renStore n T acc B).2 L).1,(renStore n T (renStore n T acc B).2 L).2):=by
  intro B
  induction B with
  |nil=>intro acc;rfl
  |cons b r ih=>intro acc;simp only [List.cons_append,renStore,ih]
 rw [key,h.ren]
theorem PL.calm {X:List (List AV)} (h:PL X):Calm X:=⟨zp7 h,zl0 h⟩
theorem Calm.cons {A:List (List AV)} (h:Calm A) {C:List AV} (hC1: ∀n,okRefs n C=true)(hC2: ∀n T acc,renCells n T acc C=(C,acc)):Calm (C::A):=
 ⟨fun n=>by simp only [okStore,hC1,h.ok,Bool.and_self],fun n T acc=>by simp only [renStore,hC2,h.ren]⟩
theorem zfy (n:Nat)(xs:List Nat):okRefs n (xs.map J)=true:=z4s J n (fun _=>rfl) xs
theorem zbb (n:Nat)(tips:List Nat)(acc:List (Nat×Nat))(xs:List Nat):renCells n tips acc (xs.map J)=(xs.map J,acc):=z1v J n tips (fun _ _=>rfl) xs acc
def isP (l:Nat):AV→Bool
 | .ptr l' _=>l'==l
 |_=>false
def notP (l:Nat):AV→Bool
 | .ptr l' _=>l' !=l
 |_=>true
theorem onB1 (env:Env)(t:Tmp)(l o:Nat):onB env [t] (.ptr l o)=isP l (env.get t):=by
 show ([t].any fun t=>match env.get t with| .ptr l' _=>l'==l|_=>false)=_
 rw [List.any_cons,List.any_nil,Bool.or_false];rfl
theorem onB_e (env:Env)(ts:List Tmp)(e:AV)(o:Nat):onB env ts (.eptr e o)=true:=rfl
theorem offB1 (env:Env)(t:Tmp)(l o:Nat):offB env [t] (.ptr l o)=notP l (env.get t):=by
 show ([t].all fun t=>match env.get t with| .ptr l' _=>l' !=l|_=>true)=_
 rw [List.all_cons,List.all_nil,Bool.and_true];rfl
theorem zop (l l' o:Nat):isP l (.ptr l' o)=(l'==l):=rfl
theorem zlr (l l' o:Nat):notP l (.ptr l' o)=(l' !=l):=rfl
attribute [local go_sem] m_ x_ l_ k_ o_ t_ a_ s_ q_ b_ c_ u_ g_ zp zb zm zq z3b z25 zd zf zi z8 zh z3e
def lA (ss:List Nat):AV:=if ss=[] then .v (.slice none 0 0) else .rsl 0 0 ss.length ss.length 1 false
def lS (ss:List Nat):List (List AV):=if ss=[] then [] else [ss.map tM]
theorem zon {X:List Nat} (h:X≠[]):lA X=.rsl 0 0 X.length X.length 1 false:=by unfold lA;rw [if_neg h]
theorem zol {X:List Nat} (h:X≠[]):lS X=[X.map tM]:=by unfold lS;rw [if_neg h]
theorem lA_one (l:Nat):lA [l]=.rsl 0 0 1 1 1 false:=rfl
theorem lS_one (l:Nat):lS [l]=[[tM l]]:=rfl
theorem zom (X:List Nat)(l:Nat):lA (X++ [l])=.rsl 0 0 (X.length+1) (X.length+1) 1 false:=by rw [zon (by simp)];simp
theorem zok (X:List Nat)(l:Nat):lS (X++ [l])=[(X++ [l]).map tM]:=zol (by simp)
theorem zk4 (v:Nat)(S:List (List AV))(T:List Nat):appendmAV 1 false (.v (.slice none 0 0)) [tM v] ⟨S,T⟩=some (.rsl S.length 0 1 1 1 false,⟨S++ [[tM v]],T⟩):=by
 simp [appendmAV,newM,maxGrow,flatAV,zf]
theorem zmb (X:List Nat)(v:Nat)(T:List Nat)(h:1≤X.length)(h2:X.length≤1000):appendmAV 1 false (.rsl 0 0 X.length X.length 1 false) [tM v] ⟨[X.map tM],T⟩=some (.rsl 1 0 (X.length+1) (X.length+1) 1 false,⟨[[],(X++ [v]).map tM],T⟩):=by
 have htk:(X.map tM).take X.length=X.map tM:=List.take_of_length_le (by simp)
 simp only [appendmAV,List.getElem?_cons_succ,List.getElem?_cons_zero,List.length_cons,List.length_nil,lm_,Nat.mul_one,htk]
 rw [if_pos ⟨trivial,trivial,Nat.le_refl _,by omega,by omega⟩,if_neg (by omega),if_pos ⟨trivial,by unfold maxGrow;omega,by omega⟩]
 simp [flatAV,zf]
theorem zo1 (n:Nat)(xs:List Nat):okRefs n (xs.map tM)=true:=z4s tM n (fun _=>zh _ _) xs
theorem zj4 (n:Nat)(tips:List Nat)(acc:List (Nat×Nat))(xs:List Nat):renCells n tips acc (xs.map tM)=(xs.map tM,acc):=z1v tM n tips (fun _ _=>z3d _ _ _ _) xs acc
theorem zj7 (n:Nat): ∀(xs:List Nat) (acc:List Nat),refsL n acc (xs.map tM)=acc
 | [],acc=>rfl
 |x::r,acc=>by
  have:refsV n acc (tM x)=acc:=zt _ _ _ _ _
  simp only [List.map_cons,refsL,this,zj7 n r]
theorem zji (n:Nat)(M:List Nat): ∀(xs:List Nat),mapLs n M (xs.map tM)=xs.map tM
 | []=>rfl
 |x::r=>by
  have:mapL n M (tM x)=tM x:=z0g _ _ _ _ _
  simp only [List.map_cons,mapLs,this,zji n M r]
theorem znt (n:Nat)(acc:List Nat)(v:Nat):refsV n acc (tM v)=acc:=zt _ _ _ _ _
theorem mapL_M (n:Nat)(M:List Nat)(v:Nat):mapL n M (tM v)=tM v:=z0g _ _ _ _ _
theorem loop51 (nl:Bool)(ss:List Nat)(h256: ∀s∈ss,s<256)(hk:ss.length<256)(i:Nat)(X:List Nat)(hok:i≤ss.length∧X=ss.take i)(env:Env)(st:St)
  (hg:gcAV true 0 0 (canon env [3,6,7,8,3000000]) st=([(3,lA X),(6,sl 1 nl (ss.map U)),(7,J ss.length),(8,J i),(3000000,.any)],⟨lS X,[]⟩)):
  ∃x_1 en s,lim (headed pure (run L) true [3,6,7,8,3000000] lp51_0 0 0) env st=some (x_1,en,s)∧(x_1=.exit 0∧en.get 3=lA ss∧s=⟨lS ss,[]⟩):=by
 refine z9 (α:=Nat×List Nat) (fun ⟨i,X⟩=>ss.length-i) (fun ⟨i,X⟩=>i≤ss.length∧X=ss.take i) (fun ⟨i,X⟩=>([(3,lA X),(6,sl 1 nl (ss.map U)),(7,J ss.length),(8,J i),(3000000,.any)],⟨lS X,[]⟩)) (fun ⟨i,X⟩ x_1 en s=>x_1=.exit 0∧en.get 3=lA ss∧s=⟨lS ss,[]⟩) (fun ⟨i,X⟩ hok=> ?_) ⟨i,X⟩ hok env st hg
 simp only at hok
 obtain ⟨h1,h2⟩:=hok
 dsimp only at h1 h2⊢
 by_cases h:i<ss.length
 ·have hs:=ze i (by omega)
  have hlt:((i:Int)<(ss.length:Int))=True:=eT (by omega)
  have hx:=z6x U nl ss i h
  have hT:ss.take (i+1)=X++ [ss[i]]:=by rw [h2,List.take_succ,List.getElem?_eq_getElem h];rfl
  have hXl:X.length=i:=by rw [h2,List.length_take];omega
  have hb:=h256 ss[i] (List.getElem_mem h)
  generalize ss[i]=v at*
  have h40: ∀st,run L 40 [U v] st=some (tM v,st):=fun st=>c40 v (by omega) st
  by_cases he:X=[]
  ·subst he
   have eA:lA []=.v (.slice none 0 0):=rfl
   have eS:lS []=[]:=rfl
   rw [eA,eS]
   have happ:=zk4 v [] []
   simp only [go_sem,lp51_0,hlt,hx,hs,h40,happ]
   refine ⟨(i+1,[v]),by simp only [go_sem,z3,z4,z5,lA_one,lS_one,compact,compactW,refsEnv,refsV,refsL,refsStore,refsAt,mapEnv,mapL,mapLs,newName,posOf,mapStore,pickStore,namesOk,zt,z0g,znt,mapL_M,List.contains_nil,List.contains_cons,Option.getD_some,hasKey,z3d,renCells,okRefs]<;>rfl,?_,?_,fun x en s hq=> ?_⟩
   ·dsimp only;exact ⟨by omega,by rw [hT];rfl⟩
   ·dsimp only;omega
   ·exact hq
  ·have eA:=zon he
   have eS:=zol he
   have hpos:1≤X.length:=List.length_pos_iff.2 he
   rw [eA,eS]
   have happ:=zmb X v [] hpos (by omega)
   simp only [go_sem,lp51_0,hlt,hx,hs,h40,happ]
   refine ⟨(i+1,X++ [v]),by simp only [go_sem,z3,z4,z5,zom,zok,zj7,zji,zo1,zj4,compact,compactW,refsEnv,refsV,refsL,refsStore,refsAt,mapEnv,mapL,mapLs,newName,posOf,mapStore,pickStore,namesOk,zt,z0g,List.contains_nil,List.contains_cons,Option.getD_some,hasKey]<;>rfl,?_,?_,fun x en s hq=> ?_⟩
   ·dsimp only;exact ⟨by omega,by rw [hT]⟩
   ·dsimp only;omega
   ·exact hq
 ·have e:ss.take i=ss:=List.take_of_length_le (by omega)
  rw [e] at h2
  subst h2
  have hlt:((i:Int)<(X.length:Int))=False:=eF (by omega)
  simp only [go_sem,lp51_0,hlt]
abbrev cmpL:AV:=.fn (.func 42) [] []
def ltL (x y:LI):Bool:=lexLt x.val y.val
def finL (ss:List Nat):List LI:=ss.map fun x=>⟨memb x,by have:=z6a x;omega⟩
theorem zp8 (ss:List Nat):Dm fL (finL ss).toArray=ss.map tM:=by
 unfold Dm finL
 simp
theorem ziq {ss:List Nat} (h: ∀s∈ss,s<256):sortA ltL (finL ss)=finL (srt ss):=by
 have hp:=zcg (zdf (fun x:LI=>x.val)) (finL ss)
 have hs:=za8 (zdf (fun x:LI=>x.val)) (finL ss)
 refine z8s (R:=fun x y:LI=>lexLt y.val x.val=false) (fun x y h1 h2=>Subtype.ext (z9e _ _ h2 h1)) _ _ ?_ hs ?_
 ·exact hp.trans ((z82 h).symm.map _)
 ·unfold finL
  rw [List.pairwise_map]
  exact z9u ss
theorem c113 (ss:List Nat)(h: ∀s∈ss,s<256)(hn:ss.length<256)(he:ss≠[]):
  ∃X1,PL X1∧run L 113 [.rsl 0 0 ss.length ss.length 1 false,cmpL] ⟨[ss.map tM],[]⟩=some (.tup [],⟨(srt ss).map tM::X1,[]⟩):=by
 obtain ⟨X1,h1,h2⟩:=sortl [[]] [] 0 (by simp) ss.length (by omega) false 42 rfl [] (fun x y=>cmpN x.val y.val) ltL (fun x y=>(ze5 _ _).symm)
  (fun x y X E=>c42 true true x.val y.val x.property _) hn (finL ss).toArray (by simp [finL]) []
 have e1:Dm fL (Go.Sort.sort ltL (finL ss).toArray)=(srt ss).map tM:=by
  have:=ziq h
  unfold sortA at this
  unfold Dm
  rw [this]
  unfold finL
  simp
 rw [zp8,e1] at h2
 exact ⟨X1,h1 PL.nil,h2⟩
theorem insLn (st0:St)(lo hi:Nat)(i:Nat)(hok:True)(env:Env)(st:St)
  (hg:gcAV false lo hi (canon env [0,1,2,3,8]) st=([(0,.v (.slice none 0 0)),(1,I 0),(2,I 0),(3,cmpL),(8,J i)],st0)):
  ∃x_1 en s,lim (headed pure (run L) false [0,1,2,3,8] lp173_1 lo hi) env st=some (x_1,en,s)∧(x_1=.exit 0∧s=st0):=by
 refine z9 (α:=Nat) (fun i=>0) (fun i=>True) (fun i=>([(0,.v (.slice none 0 0)),(1,I 0),(2,I 0),(3,cmpL),(8,J i)],st0)) (fun i x_1 en s=>x_1=.exit 0∧s=st0) (fun i hok=> ?_) i hok env st hg
 have hlt:((i:Int)<0)=False:=eF (by omega)
 simp only [go_sem,lp173_1,hlt]
theorem c173n (st:St):run L 173 [.v (.slice none 0 0),I 0,I 0,cmpL] st=some (.tup [],st):=by
 rw [z6 (fn:=ir173) rfl rfl]
 have h1:IntKind.i64.wrap 1=1:=by decide
 simp only [ir173,go_sem,h1]
 generalize hg:lim (headed pure (run L) false _ lp173_1 _ _) _ _=o
 obtain ⟨x,en,s,rfl,h2⟩: ∃x en s,o=some (x,en,s)∧_:=by rw [←hg];exact insLn st _ _ 1 trivial _ _ (by simp only [go_sem,show I 1=J 1 from rfl]<;>rfl)
 clear hg
 obtain ⟨rfl,rfl⟩:=h2
 simp only [go_sem]
theorem pdqLn (st0:St)(lo hi:Nat)(i:Nat)(hok:True)(env:Env)(st:St)
  (hg:gcAV false lo hi (canon env [0,1,2,3,4,10,11]) st=([(0,.v (.slice none 0 0)),(1,I 0),(2,I 0),(3,J i),(4,cmpL),(10,B true),(11,B true)],st0)):
  ∃x_1 en s,lim (headed pure (run L) false [0,1,2,3,4,10,11] lp140_0 lo hi) env st=some (x_1,en,s)∧(x_1=.ret∧s=st0):=by
 refine z9 (α:=Nat) (fun i=>0) (fun i=>True) (fun i=>([(0,.v (.slice none 0 0)),(1,I 0),(2,I 0),(3,J i),(4,cmpL),(10,B true),(11,B true)],st0)) (fun i x_1 en s=>x_1=.ret∧s=st0) (fun i hok=> ?_) i hok env st hg
 have h1:IntKind.i64.wrap 0=0:=by decide
 have h2:((0:Int)≤12)=True:=eT (by omega)
 simp only [go_sem,lp140_0,h1,h2,c173n]
theorem c113n (st:St):run L 113 [.v (.slice none 0 0),cmpL] st=some (.tup [],st):=by
 have h129: ∀i:Nat,run L 140 [.v (.slice none 0 0),I 0,I 0,J i,cmpL] st=some (.tup [],st):=by
  intro i
  rw [z6 (fn:=ir140) rfl rfl]
  simp only [ir140,go_sem]
  generalize hg:lim (headed pure (run L) false _ lp140_0 _ _) _ _=o
  obtain ⟨x,en,s,rfl,h2⟩: ∃x en s,o=some (x,en,s)∧_:=by rw [←hg];exact pdqLn st _ _ i trivial _ _ (by simp only [go_sem]<;>rfl)
  clear hg
  obtain ⟨rfl,rfl⟩:=h2
  simp only [go_sem]
 rw [z6 (fn:=ir113) rfl rfl]
 have h115: ∀st,run L 115 [.v (.int .u64 0)] st=some (J (Go.Sort.bitsLen 0),st):=fun st=>c115 0 (by omega) st
 have hcv:IntKind.u64.wrap 0=0:=by decide
 simp only [ir113,go_sem,hcv,h115,h129]
theorem pubsM (X:List Nat):pubs (X.map tM)=X.map tM:=zaq tM (fun _=>z3e _) X
theorem zks (v:Nat):cell1 (tM v)=tM v:=by unfold tM tAV sl;split<;>rfl
theorem zml (st:St)(l m:Nat)(X:List Nat)(hm:X.length=m)(hne:X≠[])(h:st.store[l]? =some (X.map tM)):fin st (.rsl l 0 m m 1 false)=sl 1 true (X.map tM):=by
 subst hm
 have e:fin st (.rsl l 0 X.length X.length 1 false)=.lst .any 1 (group false 1 X.length (pubs ((X.map tM).drop 0))):=by
  simp only [fin,h]
  rw [if_pos (by simp)]
 rw [e,List.drop_zero,pubsM,zcs tM zks,zb1 (by simpa using hne)]
theorem c51 (nl:Bool)(ss:List Nat)(h256: ∀s∈ss,s<256)(hk:ss.length<256)(st:St):run L 51 [sl 1 nl (ss.map U)] st=some (sl 1 true ((srt ss).map tM),st):=by
 rw [run_pure (fn:=ir51) rfl rfl]
 simp only [ir51,go_sem,lm_]
 generalize hg:lim (headed pure (run L) true _ lp51_0 _ _) _ _=o
 obtain ⟨x,en,s,rfl,h2⟩: ∃x en s,o=some (x,en,s)∧_:=by rw [←hg];exact loop51 nl ss h256 hk 0 [] ⟨by omega,by simp⟩ _ _ (by simp only [go_sem,Int.natCast_zero,lA,lS,compact,compactW,refsEnv,refsV,refsL,refsStore,refsAt,mapEnv,mapL,mapLs,newName,posOf,mapStore,pickStore,namesOk,zt,z0g,List.contains_nil,List.contains_cons,Option.getD_some,hasKey]<;>rfl)
 clear hg
 obtain ⟨rfl,e3,rfl⟩:=h2
 by_cases he:ss=[]
 ·subst he
  rw [zio]
  rw [show lA []=.v (.slice none 0 0) from rfl] at e3
  simp only [go_sem,e3,c113n]
  rfl
 ·rw [zon he] at e3
  rw [zol he]
  obtain ⟨X1,hX1,h113⟩:=c113 ss h256 hk he
  have hsl:=zfq h256
  have hse:srt ss≠[]:=fun e=>he (List.eq_nil_of_length_eq_zero (by rw [←hsl,e];rfl))
  have hf:=zml ⟨(srt ss).map tM::X1,[]⟩ 0 ss.length (srt ss) hsl hse rfl
  simp only [go_sem,e3,h113,hf]
attribute [local go_sem] m_ x_ l_ k_ o_ t_ a_ s_ q_ b_ c_ u_ g_ zp zb zm zq z3b z25 zd zf zi z8 zh z3e
theorem zls (l:Nat):notP l .any=true:=rfl
theorem frzL2s {a b cs:List AV} (hne:cs≠[])(T:List Nat)(env:Env):
  frzL 2 env ⟨[a,b,cs],T⟩=(frzEnv 2 cs env,⟨[frzVs 2 cs a,frzVs 2 cs b,[]],T⟩):=by
 cases cs with
 |nil=>exact absurd rfl hne
 |cons x r=>rfl
theorem zn0 (l:Nat)(X:List Nat)(h:X≠[]):frzV l (X.map u8) (.rsl l 0 X.length X.length 1 true)=sl 1 true (X.map E8):=by
 simp only [frzV,lm_,List.drop_zero]
 rw [if_pos ⟨trivial,by omega,.inl trivial,Nat.le_refl _⟩,znu,zk5,zb1 (by simpa using h)]
theorem frzEnv_get (l:Nat)(cs:List AV)(env:Env)(t:Tmp):(frzEnv l cs env).get t=frzV l cs (env.get t):=by
 induction env with
 |nil=>simp [frzEnv,Env.get,frzV]
 |cons x r ih=>
  obtain ⟨u,a⟩:=x
  simp only [frzEnv,Env.get]
  split
  ·rfl
  ·exact ih
theorem c89 (n:Nat)(h2:2≤n)(hn:n≤8)(nl:Bool)(X:List Nat)(hX: ∀v∈X,v<2^n∧v≠0∧v≠2^n-1)(hnd:(X.map (smlN n)).Nodup)(hl:X.length≤13)(i j:Nat)(hi:i<X.length)(hj:j<X.length)(st:St):
  run L 89 [J n,sl 1 nl (X.map tM),J i,J j] st=some (.tup [E8 ((X.map (smlN n)).getD i 0),E8 ((X.map (smlN n)).getD j 0),I 0],st):=by
 rw [run_pure (fn:=ir89) rfl rfl]
 have h70:=c70 n h2 hn nl X hX hnd (by omega)
 have hsl:(X.map (smlN n)).length=X.length:=List.length_map ..
 rw [←hsl] at hi hj hl
 clear hsl hX hnd
 generalize X.map (smlN n)=ss at*
 have he:ss≠[]:=by intro e;subst e;simp at hi
 rw [zk0 he,zjx he] at h70
 have hsv:=zgi 2 ss
 have hfz:=fun T env=>frzL2s (a:=[u8 0]) (b:=[u8 0]) (cs:=ss.map u8) (by simpa using he) T env
 have hfv:=zn0 2 ss he
 have q1:(min (i:Int) (j:Int)<0)=False:=eF (by omega)
 have q2:((ss.length:Int)≤max (i:Int) (j:Int))=False:=eF (by omega)
 have hxi:=z6x E8 true ss i hi
 have hxj:=z6x E8 true ss j hj
 have hgi:ss.getD i 0=ss[i]:=by rw [List.getD_eq_getElem?_getD,List.getElem?_eq_getElem hi];rfl
 have hgj:ss.getD j 0=ss[j]:=by rw [List.getD_eq_getElem?_getD,List.getElem?_eq_getElem hj];rfl
 have hll:=z78 E8 true ss
 rw [hgi,hgj]
 generalize ss[i]=a at*
 generalize ss[j]=b at*
 simp only [ir89,go_sem,h70,show pure 70=false from rfl,shStore,shV,shVs,hsv,z8h,frzAV,frzT,frzLs,rslsOf,hfz,frzEnv,frzEnv_get,zbu,zaw,z8u,zmh,zmg,frzVs,hfv,q1,q2,hll,hxi,hxj,onB1,onB_e,offB1,zop,zlr,zls,show AV.v (.int .u8 0)=u8 0 from rfl]
theorem loop23 (n1 n2:Bool)(xs ys:List (List Int))(hl:xs.length=ys.length)(hlen:xs.length<1000000)(hlx: ∀x∈xs,x.length<1000000)(i:Nat)(hok:i≤xs.length)(env:Env)(st:St)
  (hg:gcAV true 0 0 (canon env [0,1,5]) st=([(0,sl 1 n1 (xs.map tAV)),(1,sl 1 n2 (ys.map tAV)),(5,I i)],⟨[],[]⟩)):
  ∃x_1 en s,lim (headed pure (run L) true [0,1,5] lp23_0 0 0) env st=some (x_1,en,s)∧(if xs.drop i=ys.drop i then x_1=.exit 0 else x_1=.ret∧en.get 4=B false):=by
 refine z9 (α:=Nat) (fun i=>xs.length-i) (fun i=>i≤xs.length) (fun i=>([(0,sl 1 n1 (xs.map tAV)),(1,sl 1 n2 (ys.map tAV)),(5,I i)],⟨[],[]⟩)) (fun i x_1 en s=>if xs.drop i=ys.drop i then x_1=.exit 0 else x_1=.ret∧en.get 4=B false) (fun i hok=> ?_) i hok env st hg
 by_cases h:i<xs.length
 ·have hx:=z6x tAV n1 xs i h
  have hy:=z6x tAV n2 ys i (by omega)
  have hs:=ze i (by omega)
  have hd:xs.drop i=xs[i]::xs.drop (i+1):=List.drop_eq_getElem_cons h
  have hd2:ys.drop i=ys[i]::ys.drop (i+1):=List.drop_eq_getElem_cons (by omega)
  have hlt:((i:Int)<(xs.length:Int))=True:=eT (by omega)
  have ha:=hlx xs[i] (List.getElem_mem h)
  rw [hd,hd2]
  generalize xs[i]=a at*
  generalize ys[i]'(by omega)=b at*
  have h22: ∀st,run L 22 [tAV a,tAV b] st=some (B (decide (a=b)),st):=fun st=>c22 true true a b ha st
  by_cases p:a=b
  ·rw [decide_eq_true p] at h22
   simp only [go_sem,lp23_0,hx,hy,hlt,h22,hs,lm_]
   refine ⟨i+1,by simp only [go_sem,z3,z4,z5]<;>rfl,?_,?_,fun x en s hq=> ?_⟩
   ·omega
   ·omega
   ·simp only [List.cons.injEq,p,true_and];exact hq
  ·rw [decide_eq_false p] at h22
   simp only [go_sem,lp23_0,hx,hy,hlt,h22,lm_]
   rw [if_neg (by simp [p])];trivial
 ·have hd:xs.drop i=[]:=List.drop_eq_nil_of_le (by omega)
  have hd2:ys.drop i=[]:=List.drop_eq_nil_of_le (by omega)
  have hlt:((i:Int)<(xs.length:Int))=False:=eF (by omega)
  simp only [go_sem,lp23_0,hlt,lm_]
  rw [hd,hd2];simp
theorem c23 (n1 n2:Bool)(xs ys:List (List Int))(hlen:xs.length<1000000)(hlx: ∀x∈xs,x.length<1000000)(st:St):run L 23 [sl 1 n1 (xs.map tAV),sl 1 n2 (ys.map tAV)] st=some (B (decide (xs=ys)),st):=by
 rw [run_pure (fn:=ir23) rfl rfl]
 by_cases hl:xs.length=ys.length
 ·simp only [ir23,go_sem,lm_,hl]
  generalize hg:lim (headed pure (run L) true _ lp23_0 _ _) _ _=o
  obtain ⟨x,en,s,rfl,h2⟩: ∃x en s,o=some (x,en,s)∧_:=by rw [←hg];exact loop23 n1 n2 xs ys hl hlen hlx 0 (by omega) _ _ (by simp only [go_sem]<;>rfl)
  clear hg
  simp only [List.drop_zero] at h2
  by_cases h:xs=ys
  ·rw [if_pos h] at h2
   subst h2
   simp only [go_sem,h]
  ·rw [if_neg h] at h2
   obtain ⟨rfl,h3⟩:=h2
   simp only [go_sem,h3,h]
 ·have hl2:((xs.length:Int)=(ys.length:Int))=False:=eF (by omega)
  have hne: ¬xs=ys:=fun h=>hl (by rw [h])
  simp only [ir23,go_sem,lm_,hl2,hne]
theorem c23M (n1 n2:Bool)(xs ys:List Nat)(hlen:xs.length<1000000)(st:St):run L 23 [sl 1 n1 (xs.map tM),sl 1 n2 (ys.map tM)] st=some (B (decide (xs.map memb=ys.map memb)),st):=by
 have:=c23 n1 n2 (xs.map memb) (ys.map memb) (by simpa using hlen) (fun x hx=>by
  rw [List.mem_map] at hx
  obtain ⟨m,_,rfl⟩:=hx
  have:=z6a m
  omega) st
 rw [List.map_map,List.map_map] at this
 exact this
attribute [local go_sem] m_ x_ l_ k_ o_ t_ a_ s_ q_ b_ c_ u_ g_ zp zb zm zq z3b z25 zd zf zi z8 zh z3e
def walkO (U:List Nat) (a:Nat):Nat→Nat→List Nat→List Nat
 |0,_,out=>out
 |f+1,at',out=>if at'=0 then out else walkO U a f (upC U at') (out.set (at'-1) (out.getD (at'-1) 0|||2^a))
def outF (U:List Nat):Nat→List Nat→List Nat→List Nat
 |_,[],out=>out
 |a,w::r,out=>outF U (a+1) r (walkO U a U.length w out)
def outL (U W:List Nat):List Nat:=outF U 0 W (List.replicate U.length 0)
theorem zdr (U:List Nat)(t c:Nat):itC U (t+1) c=upC U (itC U t c):=by
 have:=z3h U t 1 c
 rw [this];rfl
theorem upC_le {U:List Nat} {m:Nat} (h: ∀u∈U,u≤m)(c:Nat):upC U c≤m:=by
 unfold upC
 split
 ·omega
 ·rw [List.getD_eq_getElem?_getD]
  cases hc:U[c-1]? with
  |none=>simp
  |some u=>exact h u (List.mem_of_getElem? hc)
theorem zk1 {U:List Nat} {m:Nat} (h: ∀u∈U,u≤m): ∀(t c:Nat),c≤m→itC U t c≤m
 |0,_,hc=>hc
 |t+1,c,_=>zk1 h t _ (upC_le h c)
attribute [local go_sem] m_ x_ l_ k_ o_ t_ a_ s_ q_ b_ c_ u_ g_ zp zb zm zq z3b z25 zd zf zi z8 zh z3e
theorem zgj (L:List Nat)(i v k:Nat):(L.set i v).getD k 0=if i=k∧k<L.length then v else L.getD k 0:=by
 rw [List.getD_eq_getElem?_getD,List.getD_eq_getElem?_getD,List.getElem?_set]
 by_cases h:i=k
 ·subst h
  by_cases h2:i<L.length
  ·simp [h2]
  ·rw [if_pos rfl,if_neg h2,if_neg (by simp [h2]),List.getElem?_eq_none (by omega)]
 ·rw [if_neg h,if_neg (by simp [h])]
attribute [local go_sem] m_ x_ l_ k_ o_ t_ a_ s_ q_ b_ c_ u_ g_ zp zb zm zq z3b z25 zd zf zi z8 zh z3e
theorem zd9 (U:List Nat)(a:Nat)(ha:a<8): ∀(f w:Nat) (O:List Nat),(∀k,O.getD k 0<256)→(walkO U a f w O).length=O.length∧∀k,(walkO U a f w O).getD k 0<256
 |0,_,_,h=>⟨rfl,h⟩
 |f+1,w,O,h=>by
  unfold walkO
  split
  ·exact ⟨rfl,h⟩
  ·have hb: ∀k,(O.set (w-1) (O.getD (w-1) 0|||2^a)).getD k 0<256:=by
    intro k
    rw [zgj]
    split
    ·exact Nat.or_lt_two_pow (n:=8) (h _) (Nat.pow_lt_pow_right (by omega) ha)
    ·exact h k
   have ih:=zd9 U a ha f (upC U w) _ hb
   exact ⟨by rw [ih.1,List.length_set],ih.2⟩
theorem zfw (U:List Nat): ∀(W:List Nat) (a:Nat) (O:List Nat),a+W.length≤8→(∀k,O.getD k 0<256)→(outF U a W O).length=O.length∧∀k,(outF U a W O).getD k 0<256
 | [],_,_,_,h=>⟨rfl,h⟩
 |w::r,a,O,hl,h=>by
  rw [List.length_cons] at hl
  have h1:=zd9 U a (by omega) U.length w O h
  have ih:=zfw U r (a+1) (walkO U a U.length w O) (by omega) h1.2
  exact ⟨ih.1.trans h1.1,ih.2⟩
attribute [local go_sem] m_ x_ l_ k_ o_ t_ a_ s_ q_ b_ c_ u_ g_ zp zb zm zq z3b z25 zd zf zi z8 zh z3e
theorem zhd (U:List Nat)(a f:Nat)(O:List Nat):walkO U a f 0 O=O:=by
 cases f with
 |zero=>rfl
 |succ f=>unfold walkO;rw [if_pos rfl]
theorem zo5 (m:Nat):(memb m).Nodup:=(zdn m).imp (fun h=>by omega)
theorem zee (U:List Nat)(a:Nat): ∀(f w:Nat) (O:List Nat),(∀t,itC U t w≤O.length)→∀k,k<O.length→∀b,
  ((walkO U a f w O).getD k 0).testBit b=((O.getD k 0).testBit b||(decide (b=a)&&decide (∃t,t<f∧itC U t w=k+1)))
 |0,w,O,_,k,hk,b=>by
  have: ¬ ∃t,t<0∧itC U t w=k+1:=fun ⟨t,h,_⟩=>by omega
  rw [decide_eq_false this,Bool.and_false,Bool.or_false];rfl
 |f+1,w,O,hle,k,hk,b=>by
  by_cases hw:w=0
  ·subst hw
   rw [zhd]
   have: ¬ ∃t,t<f+1∧itC U t 0=k+1:=fun ⟨t,_,h⟩=>by rw [z79] at h;omega
   rw [decide_eq_false this,Bool.and_false,Bool.or_false]
  ·have e:walkO U a (f+1) w O=walkO U a f (upC U w) (O.set (w-1) (O.getD (w-1) 0|||2^a)):=by
    show (if w=0 then O else _)=_
    rw [if_neg hw]
   have hw1:w≤O.length:=hle 0
   have ih:=zee U a f (upC U w) (O.set (w-1) (O.getD (w-1) 0|||2^a)) (fun t=>by rw [List.length_set];exact hle (t+1)) k (by rw [List.length_set];exact hk) b
   rw [e,ih,zgj]
   have hsplit:decide (∃t,t<f+1∧itC U t w=k+1)=(decide (w=k+1)||decide (∃t,t<f∧itC U t (upC U w)=k+1)):=by
    rw [Bool.eq_iff_iff]
    simp only [Bool.or_eq_true,decide_eq_true_eq]
    constructor
    ·rintro ⟨t,h1,h2⟩
     cases t with
     |zero=>exact .inl h2
     |succ t=>exact .inr ⟨t,by omega,h2⟩
    ·rintro (h| ⟨t,h1,h2⟩)
     ·exact ⟨0,by omega,h⟩
     ·exact ⟨t+1,by omega,h2⟩
   rw [hsplit]
   by_cases hk2:w=k+1
   ·rw [if_pos ⟨by omega,hk⟩,Nat.testBit_or,Nat.testBit_two_pow,decide_eq_true hk2,Bool.true_or,Bool.and_true]
    rw [show w-1=k by omega]
    have e3:decide (a=b)=decide (b=a):=by simp only [eq_comm]
    rw [e3]
    cases (O.getD k 0).testBit b<;>cases decide (b=a)<;>simp
   ·rw [if_neg (by omega),decide_eq_false hk2,Bool.false_or]
theorem zgr (U:List Nat)(m:Nat)(hU: ∀u∈U,u≤m): ∀(W:List Nat) (a:Nat) (O:List Nat),a+W.length≤8→O.length=m→(∀w∈W,w≤m)→(∀k,O.getD k 0<256)→∀k,k<m→∀b,
  ((outF U a W O).getD k 0).testBit b=((O.getD k 0).testBit b||(decide (a≤b∧b<a+W.length)&&decide (∃t,t<U.length∧itC U t (W.getD (b-a) 0)=k+1)))
 | [],a,O,_,_,_,_,k,hk,b=>by
  have: ¬(a≤b∧b<a+([]:List Nat).length):=by simp
  rw [decide_eq_false this,Bool.false_and,Bool.or_false];rfl
 |w::r,a,O,hl,hO,hW,hb,k,hk,b=>by
  rw [List.length_cons] at hl
  have hwo:=zd9 U a (by omega) U.length w O hb
  have hbit:=zee U a U.length w O (fun t=>by rw [hO];exact zk1 hU t w (hW w (by simp))) k (by rw [hO];exact hk) b
  have ih:=zgr U m hU r (a+1) (walkO U a U.length w O) (by omega) (by rw [hwo.1,hO]) (fun x hx=>hW x (by simp [hx])) hwo.2 k hk b
  show ((outF U (a+1) r (walkO U a U.length w O)).getD k 0).testBit b=_
  rw [ih,hbit]
  by_cases h1:b=a
  ·subst h1
   have e1: ¬(b+1≤b∧b<b+1+r.length):=by omega
   have e2:b≤b∧b<b+(w::r).length:=⟨Nat.le_refl _,by simp⟩
   rw [decide_eq_false e1,decide_eq_true e2,Nat.sub_self,List.getD_cons_zero]
   simp
  ·rw [decide_eq_false h1,Bool.false_and,Bool.or_false]
   by_cases h2:a+1≤b∧b<a+1+r.length
   ·have e2:a≤b∧b<a+(w::r).length:=⟨by omega,by rw [List.length_cons];omega⟩
    rw [decide_eq_true h2,decide_eq_true e2,show b-a=(b-(a+1))+1 by omega]
    rfl
   ·have e2: ¬(a≤b∧b<a+(w::r).length):=by rw [List.length_cons];omega
    rw [decide_eq_false h2,decide_eq_false e2]
    simp
theorem zlo {U W:List Nat} (hU: ∀u∈U,u≤U.length)(hW: ∀w∈W,w≤U.length)(hWl:W.length≤8) {k:Nat} (hk:k<U.length)(b:Nat):
  ((outL U W).getD k 0).testBit b=(decide (b<W.length)&&decide (∃t,t<U.length∧itC U t (W.getD b 0)=k+1)):=by
 have h:=zgr U U.length hU W 0 (List.replicate U.length 0) (by omega) (by simp) hW (fun k=>by simp [List.getD_eq_getElem?_getD,List.getElem?_replicate];split<;>simp) k hk b
 have e0:((List.replicate U.length 0).getD k 0).testBit b=false:=by
  simp [List.getD_eq_getElem?_getD,List.getElem?_replicate,hk]
 unfold outL
 rw [h,e0,Bool.false_or,Nat.zero_add,Nat.sub_zero]
 simp
attribute [local go_sem] m_ x_ l_ k_ o_ t_ a_ s_ q_ b_ c_ u_ g_ zp zb zm zq z3b z25 zd zf zi z8 zh z3e
theorem Lam.srt {n:Nat} {ss:List Nat} (h:Lam n ss)(hn:n≤8):Lam n (srt ss):=by
 have h8: ∀s∈ss,s<256:=fun s hs=>h.lt8 hn hs
 have hp:=z82 h8
 exact ⟨fun s hs=>h.lt s (hp.mem_iff.1 hs),fun s hs=>h.ne s (hp.mem_iff.1 hs),fun s hs=>h.even s (hp.mem_iff.1 hs),hp.nodup_iff.2 h.nd,fun s hs t ht=>h.ag s (hp.mem_iff.1 hs) t (hp.mem_iff.1 ht)⟩
attribute [local go_sem] m_ x_ l_ k_ o_ t_ a_ s_ q_ b_ c_ u_ g_ zp zb zm zq z3b z25 zd zf zi z8 zh z3e
def Num (A:List (List AV)):Prop:=∀C∈A,∃xs:List Value,C=xs.map AV.v
theorem Num.nil:Num []:=fun _ h=>by cases h
theorem Num.app {A B:List (List AV)} (h:Num A)(g:Num B):Num (A++B):=fun C hC=>(List.mem_append.1 hC).elim (h C) (g C)
theorem Num.one8 (ss:List Nat):Num [ss.map u8]:=fun C hC=>⟨ss.map fun (n:Nat)=>Value.int .u8 (n:Int),by rw [List.mem_singleton.1 hC,List.map_map];rfl⟩
theorem Num.kS (ss:List Nat):Num (kS ss):=by
 unfold Vm.kS;split
 ·exact Num.nil
 ·exact Num.one8 ss
theorem Num.refs {A:List (List AV)} (h:Num A)(n:Nat)(acc:List Nat):refsStore n acc A=acc:=by
 induction A generalizing acc with
 |nil=>rfl
 |cons C r ih=>
  obtain ⟨xs,rfl⟩:=h C (by simp)
  simp only [refsStore]
  rw [show refsL n acc (xs.map AV.v)=acc from z85 n (fun x=>x) xs acc]
  exact ih (fun D hD=>h D (by simp [hD])) acc
theorem Num.maps {A:List (List AV)} (h:Num A)(n:Nat)(M:List Nat):mapStore n M A=A:=by
 induction A with
 |nil=>rfl
 |cons C r ih=>
  obtain ⟨xs,rfl⟩:=h C (by simp)
  simp only [mapStore]
  rw [show mapLs n M (xs.map AV.v)=xs.map AV.v from z8b n M (fun x=>x) xs,ih (fun D hD=>h D (by simp [hD]))]
theorem Num.calm {A:List (List AV)} (h:Num A):Calm A:=by
 induction A with
 |nil=>exact ⟨fun _=>rfl,fun _ _ _=>rfl⟩
 |cons C r ih=>
  obtain ⟨xs,rfl⟩:=h C (by simp)
  exact (ih (fun D hD=>h D (by simp [hD]))).cons (fun n=>z4s (fun x=>AV.v x) n (fun _=>rfl) xs) (fun n T acc=>z1v (fun x=>AV.v x) n T (fun _ _=>rfl) xs acc)
theorem znb {α:Type} (A L:List α) {p:Nat} (hp:A.length=p):(A++L).take p=A:=by subst hp;simp
attribute [local go_sem] m_ x_ l_ k_ o_ t_ a_ s_ q_ b_ c_ u_ g_ zp zb zm zq z3b z25 zd zf zi z8 zh z3e
theorem zov {S:List (List AV)} {l:Nat} {cs:List AV} (h:S[l]? =some cs)(hne:cs≠[])(T:List Nat): ∃S',∀env,frzL l env ⟨S,T⟩=(frzEnv l cs env,⟨S',T⟩):=by
 cases cs with
 |nil=>exact absurd rfl hne
 |cons x r=>exact ⟨(frzStore l (x::r) S).set l [],fun env=>by simp only [frzL,h]⟩
attribute [local go_sem] m_ x_ l_ k_ o_ t_ a_ s_ q_ b_ c_ u_ g_ zp zb zm zq z3b z25 zd zf zi z8 zh z3e
theorem zid (a g:Nat)(zs:List Nat)(m w:Nat):Num [cutC a g zs m w]:=by
 intro C hC
 rw [List.mem_singleton.1 hC]
 have key: ∀l:List AV,l.all (fun x=>match x with| .v _=>true|_=>false)=true→∃xs:List Value,l=xs.map AV.v:=by
  intro l
  induction l with
  |nil=>intro _;exact ⟨[],rfl⟩
  |cons x r ih=>
   intro h
   rw [List.all_cons,Bool.and_eq_true] at h
   obtain ⟨xs,e⟩:=ih h.2
   cases x with
   |v y=>exact ⟨y::xs,by rw [e];rfl⟩
   |_=>simp at h
 refine key _ ?_
 simp only [cutC,List.all_cons,List.all_append,List.all_map,List.all_nil,Bool.and_true,Bool.true_and]
 rw [List.all_eq_true];intro x _;rfl
theorem zbk {U:List Nat} {w s:Nat} (hs:itC U (s+1) w=w): ∀(k:Nat),itC U (k*(s+1)) w=w
 |0=>by rw [Nat.zero_mul];rfl
 |k+1=>by rw [Nat.succ_mul,z3h,zbk hs k,hs]
def two (s w x y z:Nat):Bool:=s.testBit w==s.testBit x&&s.testBit y==s.testBit z&&s.testBit w !=s.testBit y
section
variable {n:Nat} {L U W:List Nat} (hn:n≤8) (hU: ∀u∈U,u≤U.length) (hW: ∀w∈W,w≤U.length) (hWl:W.length=n) (hul:U.length=L.length) (hend: ∀w,w≤U.length→itC U U.length w=0) (hout:outL U W=L)
include hn hU hW hWl hul hend hout
theorem z8y {k:Nat} (hk:k<L.length)(b:Nat):(L.getD k 0).testBit b=true↔b<n∧∃t,itC U t (W.getD b 0)=k+1:=by
 have h:=zlo hU hW (by omega) (k:=k) (by omega) b
 rw [hout] at h
 rw [h,hWl,Bool.and_eq_true,decide_eq_true_eq,decide_eq_true_eq]
 constructor
 ·rintro ⟨h1,t,_,h2⟩;exact ⟨h1,t,h2⟩
 ·rintro ⟨h1,t,h2⟩
  refine ⟨h1,t,?_,h2⟩
  apply Nat.lt_of_not_le;intro hle
  have hw:=hend (W.getD b 0) (hW _ (z9j (by omega)))
  rw [show t=U.length+(t-U.length) by omega,z3h,hw,z79] at h2
  omega
theorem z9x {i j t:Nat} (hi:i<L.length)(hj:j<L.length)(h:itC U t (i+1)=j+1):Sub (L.getD i 0) (L.getD j 0):=by
 intro b hb
 obtain ⟨h1,s,h2⟩:=(z8y hn hU hW hWl hul hend hout hi b).1 hb
 exact (z8y hn hU hW hWl hul hend hout hj b).2 ⟨h1,s+t,by rw [z3h,h2,h]⟩
theorem zl9 (h:Lam n L) {k:Nat} (hk:k<L.length):Abv L (L.getD k 0) (some k) (U.getD k 0):=by
 obtain ⟨a,ha⟩:=ne_bit (h.ne _ (z9j hk))
 obtain ⟨han,t0,e0⟩:=(z8y hn hU hW hWl hul hend hout hk a).1 ha
 have key: ∀j,j<L.length→j≠k→Sub (L.getD k 0) (L.getD j 0)→∃s,itC U s (U.getD k 0)=j+1:=by
  intro j hj hjk hsub
  obtain ⟨_,s,e⟩:=(z8y hn hU hW hWl hul hend hout hj a).1 (hsub a ha)
  rcases Nat.lt_trichotomy s t0 with h1|h1|h1
  ·exfalso
   have e2:itC U (t0-s) (j+1)=k+1:=by rw [←e,←z3h,show s+(t0-s)=t0 by omega,e0]
   have:=z9x hn hU hW hWl hul hend hout hj hk e2
   exact hjk (zo3 h.nd hj hk (this.anti hsub))
  ·subst h1;rw [e0] at e;omega
  ·refine ⟨s-t0-1,?_⟩
   have e2:itC U (s-t0) (k+1)=j+1:=by rw [←e0,←z3h,show t0+(s-t0)=s by omega,e]
   rw [show s-t0=(s-t0-1)+1 by omega] at e2
   have e3:itC U (s-t0-1) (upC U (k+1))=j+1:=e2
   rwa [zao] at e3
 by_cases h0:U.getD k 0=0
 ·left
  refine ⟨h0,fun j hj hjk hsub=> ?_⟩
  obtain ⟨s,e⟩:=key j hj (fun e=>hjk (by rw [e])) hsub
  rw [h0,z79] at e;omega
 ·right
  have hv:=hU _ (z9j (L:=U) (k:=k) (by omega))
  obtain ⟨i,hi⟩: ∃i,U.getD k 0=i+1:=⟨U.getD k 0-1,by omega⟩
  have hil:i<L.length:=by omega
  have hup:itC U 1 (k+1)=i+1:=by
   show upC U (k+1)=i+1
   rw [zao,hi]
  have hik:i≠k:=by
   rintro rfl
   have h1:=zbk (U:=U) (w:=i+1) (s:=0) hup U.length
   rw [Nat.zero_add,Nat.mul_one,hend _ (by omega)] at h1
   omega
  refine ⟨i,hi,hil,fun e=>hik (by simpa using e),z9x hn hU hW hWl hul hend hout hk hil hup,fun j hj hjk hsub=> ?_⟩
  obtain ⟨s,e⟩:=key j hj (fun e=>hjk (by rw [e])) hsub
  rw [hi] at e
  exact zja (z9x hn hU hW hWl hul hend hout hil hj e)
end
attribute [local go_sem] m_ x_ l_ k_ o_ t_ a_ s_ q_ b_ c_ u_ g_ zp zb zm zq z3b z25 zd zf zi z8 zh z3e
section
variable {α:Type} (lt:α→α→Bool)
def insR:List α→α→List α
 | [],x=> [x]
 |a::C,x=>if lt x a=true then a::insR C x else x::a::C
def insL (A:List α) (x:α):List α:=(insR lt A.reverse x).reverse
def sortL (l:List α):List α:=l.foldl (insL lt) []
theorem zm6 (x:α):insL lt [] x=[x]:=rfl
theorem zk2 (A:List α)(a x:α):insL lt (A++ [a]) x=if lt x a=true then insL lt A x++ [a] else A++ [a,x]:=by
 unfold insL
 rw [List.reverse_append,List.reverse_singleton,List.singleton_append]
 simp only [insR]
 split
 ·rw [List.reverse_cons]
 ·simp
theorem zbq: ∀(C:List α) (x:α),(insR lt C x).Perm (x::C)
 | [],_=>List.Perm.refl _
 |a::C,x=>by
  simp only [insR]
  split
  ·exact ((zbq C x).cons a).trans (List.Perm.swap x a C)
  ·exact List.Perm.refl _
theorem zf0 (A:List α)(x:α):(insL lt A x).Perm (A++ [x]):=by
 unfold insL
 refine (List.reverse_perm _).trans ((zbq lt _ x).trans ?_)
 refine ((List.reverse_perm A).cons x).trans ?_
 exact (List.perm_append_singleton x A).symm
theorem zm7 (A:List α)(x:α):(insL lt A x).length=A.length+1:=by
 rw [(zf0 lt A x).length_eq];simp
theorem zd2: ∀(l A:List α),(l.foldl (insL lt) A).Perm (A++l)
 | [],A=>by simp
 |x::l,A=>by
  rw [List.foldl_cons]
  refine (zd2 l _).trans ?_
  have:=(zf0 lt A x).append_right l
  rwa [List.append_assoc] at this
theorem z9v (l:List α):(sortL lt l).Perm l:=zd2 lt l []
theorem zhh (x:α)(l:List α):sortL lt (x::l)=l.foldl (insL lt) [x]:=rfl
variable (h1: ∀a b,lt a b=true→lt b a=false) (h2: ∀a b c,lt b a=false→lt c b=false→lt c a=false)
include h1 h2
theorem zbp: ∀(C:List α) (x:α),C.Pairwise (fun a b=>lt a b=false)→(insR lt C x).Pairwise fun a b=>lt a b=false
 | [],x,_=>by simp [insR]
 |a::C,x,h=>by
  rw [List.pairwise_cons] at h
  simp only [insR]
  split
  ·next hx=>
   rw [List.pairwise_cons]
   refine ⟨fun y hy=> ?_,zbp C x h.2⟩
   rcases List.mem_cons.1 ((zbq lt C x).mem_iff.1 hy) with rfl|hy
   ·exact h1 _ _ hx
   ·exact h.1 y hy
  ·next hx=>
   have hx:lt x a=false:=by simpa using hx
   rw [List.pairwise_cons]
   refine ⟨fun y hy=> ?_,List.pairwise_cons.2 h⟩
   rcases List.mem_cons.1 hy with rfl|hy
   ·exact hx
   ·exact h2 y a x (h.1 y hy) hx
theorem zg3 (A:List α)(x:α)(h:A.Pairwise fun a b=>lt b a=false):(insL lt A x).Pairwise fun a b=>lt b a=false:=by
 unfold insL
 rw [List.pairwise_reverse]
 exact zbp lt h1 h2 _ x (List.pairwise_reverse.2 h)
theorem zeg (l:List α):(sortL lt l).Pairwise fun a b=>lt b a=false:=by
 have key: ∀(l A:List α),A.Pairwise (fun a b=>lt b a=false)→(l.foldl (insL lt) A).Pairwise fun a b=>lt b a=false:=by
  intro l
  induction l with
  |nil=>intro A h;exact h
  |cons x l ih=>intro A h;rw [List.foldl_cons];exact ih _ (zg3 lt h1 h2 A x h)
 exact key l [] List.Pairwise.nil
omit h1 h2 in
end
theorem zla {α:Type} (S:List α)(l:Nat)(c:α)(h:S[l]? =some c):S.set l c=S:=by
 apply List.ext_getElem?
 intro i
 rw [List.getElem?_set]
 split
 ·next e=>subst e;rw [h];split<;>simp_all
 ·rfl
def ltI (a b:Int):Bool:=decide (a<b)
theorem c157 (a b:Int)(st:St):run L 157 [I a,I b] st=some (B (ltI a b),st):=by
 rw [run_pure (fn:=ir157) rfl rfl]
 unfold ltI
 by_cases h:a<b
 ·simp only [ir157,go_sem,c138,h]
 ·simp only [ir157,go_sem,c138,h]
theorem getII (X:List Int)(i:Nat)(x:Int)(h:X[i]? =some x):(X.map I)[i]? =some (I x):=by
 rw [List.getElem?_map,h];rfl
theorem zkx (A:List Int)(x:Int)(B:List Int):(A++x::B)[A.length]? =some x:=by simp
theorem zjs (S0:List (List AV))(T:List Nat)(l:Nat)(hl:l<S0.length)(n:Nat)(hn:n≤1000)(x:Int)(i:Nat)(lo hi:Nat)(j:Nat)(A:List Int)(C:List Int)(hok:A.length=j∧j+1+C.length=n)(env:Env)(st:St)
  (hg:gcAV false lo hi (canon env [0,1,2,6,7]) st=([(0,.rsl l 0 n n 1 false),(1,I 0),(2,I n),(6,I i),(7,I j)],⟨S0.set l ((A++x::C).map I),T⟩)):
  ∃x_1 en s,lim (headed pure (run L) false [0,1,2,6,7] lp151_0 lo hi) env st=some (x_1,en,s)∧(x_1=.exit 2∧en.get 0=.rsl l 0 n n 1 false∧en.get 1=I 0∧en.get 2=I n∧en.get 6=I i∧s=⟨S0.set l ((insL ltI A x++C).map I),T⟩):=by
 refine z9 (α:=Nat×List Int×List Int) (fun ⟨j,A,C⟩=>j) (fun ⟨j,A,C⟩=>A.length=j∧j+1+C.length=n) (fun ⟨j,A,C⟩=>([(0,.rsl l 0 n n 1 false),(1,I 0),(2,I n),(6,I i),(7,I j)],⟨S0.set l ((A++x::C).map I),T⟩)) (fun ⟨j,A,C⟩ x_1 en s=>x_1=.exit 2∧en.get 0=.rsl l 0 n n 1 false∧en.get 1=I 0∧en.get 2=I n∧en.get 6=I i∧s=⟨S0.set l ((insL ltI A x++C).map I),T⟩) (fun ⟨j,A,C⟩ hok=> ?_) ⟨j,A,C⟩ hok env st hg
 simp only at hok
 obtain ⟨h1,h2⟩:=hok
 dsimp only at h1 h2⊢
 have hget: ∀D:List AV,(S0.set l D)[l]? =some D:=fun D=>List.getElem?_set_self hl
 rcases List.eq_nil_or_concat A with rfl| ⟨A',a,rfl⟩
 ·have hj:j=0:=by simpa using h1.symm
  subst hj
  rw [zm6]
  simp only [go_sem,lp151_0,Int.natCast_zero]
 ·rw [List.concat_eq_append] at h1⊢
  obtain ⟨m,rfl⟩: ∃m,j=m+1:=⟨A'.length,by rw [←h1];simp⟩
  have hm:A'.length=m:=by simpa using h1
  have hk:=fun st=>c157 x a st
  have hg1:=getII ((A'++ [a])++x::C) (m+1) x (by
   have:=zkx (A'++ [a]) x C
   rwa [h1] at this)
  have hg2:=getII ((A'++ [a])++x::C) m a (by
   have:=zkx A' a (x::C)
   rw [hm] at this
   simpa using this)
  have hset:(((A'++ [a])++x::C).set (m+1) a).set m x=A'++x::a::C:=by
   subst hm
   simp
  have hset2:((((A'++ [a])++x::C).map I).set (m+1) (I a)).set m (I x)=(A'++x::a::C).map I:=by
   rw [←hset,List.map_set,List.map_set]
  have hlen:((A'++ [a])++x::C).length=n:=by simp;omega
  have hpos:((0:Int)<((m+1:Nat):Int))=True:=eT (by omega)
  have hw:IntKind.i64.wrap (((m+1:Nat):Int)-1)=((m:Nat):Int):=by rw [z0f]<;>omega
  have b0:((0:Int)≤((m+1:Nat):Int))=True:=eT (by omega)
  have b1:(((m+1:Nat):Int)<(n:Int))=True:=eT (by omega)
  have b2:((0:Int)≤((m:Nat):Int))=True:=eT (by omega)
  have b3:(((m:Nat):Int)<(n:Int))=True:=eT (by omega)
  have b4:(m+1<n)=True:=eT (by omega)
  have b5:(m<n)=True:=eT (by omega)
  have b6:(m+1+1≤n)=True:=eT (by omega)
  have b7:(m+1≤n)=True:=eT (by omega)
  rw [zk2]
  generalize hX:(A'++ [a])++x::C=X at*
  by_cases p:ltI x a=true
  ·rw [if_pos p]
   simp only [go_sem,lp151_0,hpos,hw,b0,b1,b2,b3,b4,b5,b6,b7,hg1,hg2,hk,p,hget,hlen,List.set_set,hset2,lm_,List.length_set]
   refine ⟨(m,A',a::C),by simp only [go_sem,z3,z4,z5,hset,hset2]<;>rfl,?_,?_,fun x en s hq=> ?_⟩
   ·dsimp only;exact ⟨hm,by rw [List.length_cons];omega⟩
   ·dsimp only;omega
   ·dsimp only at hq;rw [List.append_assoc,List.singleton_append];exact hq
  ·have hlt':ltI x a=false:=by simpa using p
   rw [if_neg p]
   have e:A'++ [a,x]++C=X:=by rw [←hX];simp
   rw [e]
   simp only [go_sem,lp151_0,hpos,hw,b0,b1,b2,b3,b4,b5,b6,b7,hg1,hg2,hk,hlt',hget,hlen,lm_]
theorem zjr (S0:List (List AV))(T:List Nat)(l:Nat)(hl:l<S0.length)(n:Nat)(hn:n≤1000)(lo hi:Nat)(i:Nat)(A:List Int)(C:List Int)(hok:A.length=i∧i+C.length=n)(env:Env)(st:St)
  (hg:gcAV false lo hi (canon env [0,1,2,6]) st=([(0,.rsl l 0 n n 1 false),(1,I 0),(2,I n),(6,I i)],⟨S0.set l ((A++C).map I),T⟩)):
  ∃x_1 en s,lim (headed pure (run L) false [0,1,2,6] lp151_1 lo hi) env st=some (x_1,en,s)∧(x_1=.exit 0∧s=⟨S0.set l ((C.foldl (insL ltI) A).map I),T⟩):=by
 refine z9 (α:=Nat×List Int×List Int) (fun ⟨i,A,C⟩=>C.length) (fun ⟨i,A,C⟩=>A.length=i∧i+C.length=n) (fun ⟨i,A,C⟩=>([(0,.rsl l 0 n n 1 false),(1,I 0),(2,I n),(6,I i)],⟨S0.set l ((A++C).map I),T⟩)) (fun ⟨i,A,C⟩ x_1 en s=>x_1=.exit 0∧s=⟨S0.set l ((C.foldl (insL ltI) A).map I),T⟩) (fun ⟨i,A,C⟩ hok=> ?_) ⟨i,A,C⟩ hok env st hg
 simp only at hok
 obtain ⟨h1,h2⟩:=hok
 dsimp only at h1 h2⊢
 cases C with
 |nil=>
  obtain rfl:i=n:=by simpa using h2
  rw [List.append_nil]
  simp only [go_sem,lp151_1,show ((i:Int)<(i:Int))=False from eF (by omega)]
  rfl
 |cons x C=>
  rw [List.length_cons] at h2
  have hs:=ze i (by omega)
  have hlt:((i:Int)<(n:Int))=True:=eT (by omega)
  rw [List.foldl_cons]
  simp only [go_sem,lp151_1,hlt,hs]
  generalize hg:lim (headed pure (run L) false _ lp151_0 _ _) _ _=o
  obtain ⟨x,en,s,rfl,h2⟩: ∃x en s,o=some (x,en,s)∧_:=by rw [←hg];exact zjs S0 T l hl n hn x i _ _ i A C ⟨h1,by omega⟩ _ _ (by simp only [go_sem]<;>rfl)
  clear hg
  obtain ⟨rfl,e0,e1,e2,e6,rfl⟩:=h2
  have hA:=zm7 ltI A x
  simp only [go_sem,lp151_1,e0,e1,e2,e6,hs]
  refine ⟨(i+1,insL ltI A x,C),by simp only [go_sem,z3,z4,z5,e0,e1,e2,e6]<;>rfl,?_,?_,fun x en s hq=> ?_⟩
  ·dsimp only;exact ⟨by omega,by omega⟩
  ·dsimp only;omega
  ·exact hq
theorem c151 (S:List (List AV))(T:List Nat)(l:Nat)(X:List Int)(h:S[l]? =some (X.map I))(h1:1≤X.length)(hn:X.length≤1000):
  run L 151 [.rsl l 0 X.length X.length 1 false,I 0,I X.length] ⟨S,T⟩=some (.tup [],⟨S.set l ((sortL ltI X).map I),T⟩):=by
 rw [z6 (fn:=ir151) rfl rfl]
 have hl:=(List.getElem?_eq_some_iff.1 h).1
 have hS:=zla S l _ h
 cases X with
 |nil=>simp at h1
 |cons x C=>
  have hw:IntKind.i64.wrap (0+1)=1:=by decide
  rw [zhh]
  generalize hk:(x::C).length=k at*
  rw [List.length_cons] at hk
  rw [←hS]
  simp only [ir151,go_sem,hw,List.set_set]
  generalize hg:lim (headed pure (run L) false _ lp151_1 _ _) _ _=o
  obtain ⟨x,en,s,rfl,h2⟩: ∃x en s,o=some (x,en,s)∧_:=by rw [←hg];exact zjr S T l hl k hn _ _ 1 [x] C ⟨rfl,by omega⟩ _ _ (by simp only [go_sem,show ((1:Nat):Int)=1 from rfl,show [x]++C=x::C from rfl]<;>rfl)
  clear hg
  obtain ⟨rfl,rfl⟩:=h2
  simp only [go_sem]
theorem zof (S:List (List AV))(T:List Nat)(l:Nat)(X:List Int)(h:S[l]? =some (X.map I))(h1:1≤X.length)(hn:X.length≤12)(lim0:Int)(lo hi:Nat)(u:Nat)(hok:True)(env:Env)(st:St)
  (hg:gcAV false lo hi (canon env [0,1,2,3,8,9]) st=([(0,.rsl l 0 X.length X.length 1 false),(1,I 0),(2,I X.length),(3,I lim0),(8,B true),(9,B true)],⟨S,T⟩)):
  ∃x_1 en s,lim (headed pure (run L) false [0,1,2,3,8,9] lp120_0 lo hi) env st=some (x_1,en,s)∧(x_1=.ret∧s=⟨S.set l ((sortL ltI X).map I),T⟩):=by
 refine z9 (α:=Nat) (fun u=>u) (fun u=>True) (fun u=>([(0,.rsl l 0 X.length X.length 1 false),(1,I 0),(2,I X.length),(3,I lim0),(8,B true),(9,B true)],⟨S,T⟩)) (fun u x_1 en s=>x_1=.ret∧s=⟨S.set l ((sortL ltI X).map I),T⟩) (fun u hok=> ?_) u hok env st hg
 have h109:=c151 S T l X h h1 (by omega)
 have hw:IntKind.i64.wrap ((X.length:Int)-0)=(X.length:Int):=by rw [z0f]<;>omega
 have q:((X.length:Int)≤12)=True:=eT (by omega)
 simp only [go_sem,lp120_0,hw,q,h109,show pure 151=false from rfl]
theorem c120 (S:List (List AV))(T:List Nat)(l:Nat)(X:List Int)(h:S[l]? =some (X.map I))(h1:1≤X.length)(hn:X.length≤12)(lim0:Int):
  run L 120 [.rsl l 0 X.length X.length 1 false,I 0,I X.length,I lim0] ⟨S,T⟩=some (.tup [],⟨S.set l ((sortL ltI X).map I),T⟩):=by
 rw [z6 (fn:=ir120) rfl rfl]
 simp only [ir120,go_sem]
 generalize hg:lim (headed pure (run L) false _ lp120_0 _ _) _ _=o
 obtain ⟨x,en,s,rfl,h2⟩: ∃x en s,o=some (x,en,s)∧_:=by rw [←hg];exact zof S T l X h h1 hn lim0 _ _ 0 trivial _ _ (by simp only [go_sem]<;>rfl)
 clear hg
 obtain ⟨rfl,rfl⟩:=h2
 simp only [go_sem]
theorem c63 (S:List (List AV))(T:List Nat)(l:Nat)(X:List Int)(h:S[l]? =some (X.map I))(h1:1≤X.length)(hn:X.length≤12):
  run L 63 [.rsl l 0 X.length X.length 1 false] ⟨S,T⟩=some (.tup [],⟨S.set l ((sortL ltI X).map I),T⟩):=by
 rw [z6 (fn:=ir63) rfl rfl]
 have hw:IntKind.u64.wrap (X.length:Int)=(X.length:Int):=by simp [IntKind.wrap,IntKind.bits,IntKind.signed];omega
 have h91:=fun st=>c115 X.length (by omega) st
 have h93:=c120 S T l X h h1 hn (Go.Sort.bitsLen X.length:Nat)
 simp only [ir63,go_sem,hw,h91,h93,show pure 120=false from rfl]
inductive GK
 |nil
 |lst
 |odd (a:Addr) (cap:Nat)
abbrev GS:=GK×List Int
def gK:GK→AV
 | .nil=> .v (.slice none 0 0)
 | .lst=> .lst .any 1 []
 | .odd a c=> .v (.slice (some a) 0 c)
def gM (p:GS):AV:=if p.2.length=0 then gK p.1 else .lst .any 1 (p.2.map I)
theorem zgf: ∀(l k:List Int),l.Pairwise (· < ·)→k.Pairwise (· < ·)→(∀a,a∈l↔a∈k)→l=k
 | [],[],_,_,_=>rfl
 | [],b::k,_,_,h=>by have:=(h b).2 (by simp);cases this
 |a::l,[],_,_,h=>by have:=(h a).1 (by simp);cases this
 |a::l,b::k,h1,h2,h=>by
  rw [List.pairwise_cons] at h1 h2
  have e:a=b:=by
   have ha:=(h a).1 (by simp)
   have hb:=(h b).2 (by simp)
   rw [List.mem_cons] at ha hb
   rcases ha with ha|ha
   ·exact ha
   ·rcases hb with hb|hb
    ·exact hb.symm
    ·have:=h2.1 a ha;have:=h1.1 b hb;omega
  subst e
  rw [zgf l k h1.2 h2.2 (fun c=>by
   constructor
   ·intro hc
    have:=(h c).1 (by simp [hc])
    rw [List.mem_cons] at this
    rcases this with rfl|this
    ·have:=h1.1 c hc;omega
    ·exact this
   ·intro hc
    have:=(h c).2 (by simp [hc])
    rw [List.mem_cons] at this
    rcases this with rfl|this
    ·have:=h2.1 c hc;omega
    ·exact this)]
attribute [local go_sem] m_ x_ l_ k_ o_ t_ a_ s_ q_ b_ c_ u_ g_ zp zb zm zq z3b z25 zd zf zi z8 zh z3e
theorem z8e (p:GS)(R:AV→Prop)(h1:R (.v (.slice none 0 0)))(h2: ∀xs,R (.lst .any 1 xs))(h3: ∀a c,R (.v (.slice (some a) 0 c))):R (gM p):=by
 unfold gM
 split
 ·unfold gK;split
  ·exact h1
  ·exact h2 _
  ·exact h3 _ _
 ·exact h2 _
theorem z8z (p:GS):(gM p).shaped=true:=z8e p (fun a=>a.shaped=true) rfl (fun _=>rfl) (fun _ _=>rfl)
theorem zax (p:GS):(gM p).cells=[gM p]:=z8e p (fun a=>a.cells=[a]) rfl (fun _=>rfl) (fun _ _=>rfl)
theorem zau (p:GS):Ev.isAgg (gM p)=false:=z8e p (fun a=>Ev.isAgg a=false) rfl (fun _=>rfl) (fun _ _=>rfl)
theorem z73 (p:GS):storable (gM p)=true:=z8e p (fun a=>storable a=true) rfl (fun _=>rfl) (fun _ _=>rfl)
theorem zas (n:Nat)(p:GS):okRef n (gM p)=true:=z8e p (fun a=>okRef n a=true) rfl (fun _=>rfl) (fun _ _=>rfl)
theorem zgq (p:GS):pub (gM p)=gM p:=z8e p (fun a=>pub a=a) rfl (fun xs=>z5h 1 false xs) (fun _ _=>rfl)
attribute [local go_sem] m_ x_ l_ k_ o_ t_ a_ s_ q_ b_ c_ u_ g_ z8z zax zau z73 zas zgq
attribute [local go_sem] m_ x_ l_ k_ o_ t_ a_ s_ q_ b_ c_ u_ g_ zp zb zm zq z3b z25 zd zf zi z8 zh z3e z8z zax zau z73 zas zgq
theorem z8v {n v:Nat} (hv:v<2^n)(i:Nat):(v^^^(2^n-1)).testBit i=(decide (i<n)&& !v.testBit i):=by
 rw [Nat.testBit_xor,z9k]
 by_cases h:i<n
 ·rw [decide_eq_true h];cases v.testBit i<;>rfl
 ·rw [decide_eq_false h,zik hv i (by omega)];rfl
def ag4 (n a b:Nat):Bool:=decide (a&&&b=0)||decide (a&&&(b^^^(2^n-1))=0)||decide ((a^^^(2^n-1))&&&b=0)||decide ((a^^^(2^n-1))&&&(b^^^(2^n-1))=0)
theorem zeb {n v:Nat}:(v^^^(2^n-1))^^^(2^n-1)=v:=by rw [Nat.xor_assoc,Nat.xor_self,Nat.xor_zero]
theorem ag4_l (n a b:Nat):ag4 n (a^^^(2^n-1)) b=ag4 n a b:=by
 unfold ag4
 rw [zeb]
 cases decide (a&&&b=0)<;>cases decide (a&&&(b^^^(2^n-1))=0)<;>cases decide ((a^^^(2^n-1))&&&b=0)<;>cases decide ((a^^^(2^n-1))&&&(b^^^(2^n-1))=0)<;>rfl
theorem ag4_r (n a b:Nat):ag4 n a (b^^^(2^n-1))=ag4 n a b:=by
 unfold ag4
 rw [zeb]
 cases decide (a&&&b=0)<;>cases decide (a&&&(b^^^(2^n-1))=0)<;>cases decide ((a^^^(2^n-1))&&&b=0)<;>cases decide ((a^^^(2^n-1))&&&(b^^^(2^n-1))=0)<;>rfl
theorem zp6 (n a b:Nat):ag4 n (smlN n a) (smlN n b)=ag4 n a b:=by
 unfold smlN
 split<;>split<;>simp only [ag4_l,ag4_r]
theorem zfm {n a b:Nat} (ha:a<2^n)(hb:b<2^n):a&&&(b^^^(2^n-1))=0↔Sub a b:=by
 rw [zea]
 constructor
 ·intro h i hi
  have:=h i hi
  rw [z8v hb] at this
  have hin:i<n:=by
   apply Nat.lt_of_not_le;intro h9
   rw [zik ha i h9] at hi;cases hi
  rw [decide_eq_true hin] at this
  simpa using this
 ·intro h i hi
  rw [z8v hb,h i hi];simp
theorem zhc {n a b:Nat} (h1:1≤n)(hn:n≤8)(ha:a<2^n)(hb:b<2^n)(ha0:a.testBit 0=false)(hb0:b.testBit 0=false):ag4 n a b=agN a b:=by
 have h2n:2^n≤256:=Nat.pow_le_pow_right (n:=2) (by decide) hn
 rw [Bool.eq_iff_iff,zn4 (by omega) (by omega)]
 unfold ag4
 simp only [Bool.or_eq_true,decide_eq_true_eq]
 rw [zfm ha hb,Nat.and_comm (a^^^(2^n-1)) b,zfm hb ha,zea]
 constructor
 ·rintro (((h|h)|h)|h)
  ·exact .inl h
  ·exact .inr (.inl h)
  ·exact .inr (.inr h)
  ·have hc:=congrArg (fun x=>x.testBit 0) h
   simp only [Nat.testBit_and,z8v ha,z8v hb,ha0,hb0,Nat.zero_testBit] at hc
   rw [decide_eq_true (show 0<n by omega)] at hc
   cases hc
 ·rintro (h|h|h)
  ·exact .inl (.inl (.inl h))
  ·exact .inl (.inl (.inr h))
  ·exact .inl (.inr h)
theorem zeh {n v:Nat} (h1:1≤n):(smlN n v).testBit 0=false:=by
 unfold smlN
 split
 ·rename_i h
  rw [Nat.testBit_xor,z9k,h,decide_eq_true (show 0<n by omega)];rfl
 ·rename_i h;simpa using h
attribute [local go_sem] m_ x_ l_ k_ o_ t_ a_ s_ q_ b_ c_ u_ g_ zp zb zm zq z3b z25 zd zf zi z8 zh z3e z8z zax zau z73 zas zgq
theorem zmq {n:Nat} (hn:n≤8) {X:List Nat} (hX: ∀v∈X,v<2^n∧v≠0∧v≠2^n-1): ∀s∈X.map (smlN n),s<256:=by
 intro x hx
 rw [List.mem_map] at hx
 obtain ⟨v,hv,rfl⟩:=hx
 exact Nat.lt_of_lt_of_le (zb0 (hX v hv).1) (Nat.pow_le_pow_right (n:=2) (by decide) hn)
theorem c43M (n:Nat)(h2:2≤n)(hn:n≤8)(nl:Bool)(X:List Nat)(hX: ∀v∈X,v<2^n∧v≠0∧v≠2^n-1)(hnd:(X.map (smlN n)).Nodup)(hl:X.length≤13)(st:St):
  run L 43 [J n,sl 1 nl (X.map tM)] st=some (.tup [sl 1 true ((srt (X.map (smlN n))).map tM),I 0],st):=by
 rw [run_pure (fn:=ir43) rfl rfl]
 have h70:=c70 n h2 hn nl X hX hnd hl
 have hss:=zmq hn hX
 have hk:(X.map (smlN n)).length≤13:=by rw [lm_];exact hl
 have h84:=fun st=>c84 true (X.map (smlN n)) hss (by omega) st
 generalize X.map (smlN n)=ss at*
 by_cases he:ss=[]
 ·subst he
  have eA:kA []=.v (.slice none 0 0):=rfl
  have eS:kS []=[]:=rfl
  rw [eA,eS] at h70
  rw [show sl 1 true (([]:List Nat).map E8)=AV.v (.slice none 0 0) from rfl] at h84
  simp only [ir43,go_sem,h70,show pure 70=false from rfl,shStore,shV,shVs,h84,z8h,frzAV,frzT,frzLs,rslsOf]
 ·rw [zk0 he,zjx he] at h70
  have hsv:=zgi 0 ss
  obtain ⟨S',hfz⟩:=zov (S:=[ss.map u8]) (l:=0) rfl (by simpa using he) []
  have hfv:=zn0 0 ss he
  simp only [ir43,go_sem,h70,show pure 70=false from rfl,shStore,shV,shVs,hsv,h84,z8h,frzAV,frzT,frzLs,rslsOf,hfz,frzEnv,frzEnv_get,zbu,hfv]
theorem zir {n:Nat} (hn:n≤8) {X:List Nat} (hX: ∀v∈X,v<2^n∧v≠0∧v≠2^n-1) {k:Nat} (hk:k<X.length):(X.map (smlN n)).getD k 0<256:=by
 exact zmq hn hX _ (z9j (by rw [lm_];exact hk))
theorem c45M (n:Nat)(h2:2≤n)(hn:n≤8)(nl:Bool)(X:List Nat)(hX: ∀v∈X,v<2^n∧v≠0∧v≠2^n-1)(hnd:(X.map (smlN n)).Nodup)(hl:X.length≤13)(i j:Nat)(hi:i<X.length)(hj:j<X.length)(st:St):
  run L 45 [J n,sl 1 nl (X.map tM),J i,J j] st=some (.tup [B (agN ((X.map (smlN n)).getD i 0) ((X.map (smlN n)).getD j 0)),I 0],st):=by
 rw [run_pure (fn:=ir45) rfl rfl]
 have h89:=fun st=>c89 n h2 hn nl X hX hnd hl i j hi hj st
 have ha:=zir hn hX hi
 have hb:=zir hn hX hj
 generalize (X.map (smlN n)).getD i 0=a at*
 generalize (X.map (smlN n)).getD j 0=b at*
 have h73:=fun st=>c73 a b ha hb st
 simp only [ir45,go_sem,h89,h73]
end Go.Proofs.YtdnmhlfjafjkbaaGreatDoor.Vm
namespace Go.Proofs.YtdnmhlfjafjkbaaGreatDoor.Vm
open Go Go.Ev Go.ChangeShapes Go.WideShapes Go.ChangeAt Go.RowKit
set_option maxRecDepth 100000
set_option maxHeartbeats 4000000
attribute [local go_sem] m_ x_ l_ k_ o_ t_ a_ s_ q_ b_ c_ u_ g_ z30 z09 z48 z12 z2v z04 z44 z0m z1d zw z23 z11 z2u z03 z43 z15 z2y z07 z46 z0n z1e zx z24 z0l z1c zu z21 z14 z2x z06 z1x z4o z0k z5k z16 z2z z08 z47 z17 z1k z0a z49 z10 z2t z02 z42 z13 z2w z05 z45 z22 z19 z1s z5t z5r z5s z4c z29 z2c z2b z2a z2m z2n z3n z4e z5y z0d z31 z1z z0r z27 z2p z2r z4l z4m z4k z2s z1b z0o z41 z1y z1a z0s zz z1f z0t z26 z5m z4a z0y z0i z0z pubs pub z5h params z1t z00 z0w z1u z2d z2o z5u untips untip z40 wantedAV setElems withO z5v z2j z2g z2f z4g z2i z2e z4f z2h List.replicate_succ List.replicate_zero opAV valAV aval avals ofVal Env.get setD canon gcAV renAll renEnv renStore renCells z52 cutSt okEnv okStore okRefs okRef z3m z62 z4p z61 z5z z60 z63 cellsEq cellEq isShift intOp boolOp z5o z5p z64 bne resAV tupAV z4d z72 z56 fins zam z5w z5x z55 z7i storeAV readCells putCells z4n z1w z0j fieldAddrAV z6w goI List.getElem?_cons_zero List.getElem?_cons_succ List.getElem?_nil Option.bind_some Option.map_some List.length_cons List.length_nil List.all_cons List.all_nil Bool.and_true Bool.true_and Bool.and_false Bool.false_and and_true true_and and_false false_and Bool.false_eq_true List.set_cons_zero List.set_cons_succ List.append_nil List.nil_append List.cons_append List.take_zero List.take_succ_cons List.take_nil List.drop_zero List.drop_succ_cons List.map_cons List.map_nil decide_true decide_false beq_self_eq_true Bool.not_true Bool.not_false or_true true_or or_false false_or Nat.zero_add Nat.add_zero Nat.le_refl Nat.lt_irrefl decide_eq_true_eq eq_self_iff_true not_true_eq_false not_false_eq_true List.getD_cons_zero z2q Nat.zero_le Nat.not_lt_zero Bool.true_beq Bool.false_beq beq_true beq_false ge_iff_le gt_iff_lt keepR keepT ownTop zan pus Option.map_none z1h z1g z4i z2k z4h Int.cast_ofNat_Int Nat.mul_one Nat.zero_mul Int.toNat_natCast Int.toNat_zero setParts withO2 hasKey z4j z4b z2l z28 z0q z0p zy z0v zl1 z3g z3y z3o z6p z6r z8k z59 z3t z38 z1o z5c z3v z3r z32 z3z z37 z5a z3u z33 z1m z5d z3w z5f z35 z36 z3x z1l z57 z3q z3p z58 Option.bind_none Bool.not_eq_true' decide_eq_false_iff_not Bool.and_eq_true Bool.or_eq_true Option.some.injEq Int.not_lt Int.not_le
attribute [local go_sem_proc] reduceIte Nat.reduceEqDiff Nat.reduceAdd Nat.reduceSub Nat.reduceLeDiff Nat.reduceLT reduceCtorEq Int.reduceLT Int.reduceLE Int.reduceEq Int.reduceBEq Int.reduceSub Int.reduceAdd Int.reduceMul Int.reduceNeg Int.reduceToNat Nat.reduceMul Nat.reduceBEq
theorem zoz:Tryz.prog.cellsOf 93=8:=by kernel_rfl
theorem sh_eight {a:AV} (h:ShV Tryz.prog 8 93 a): ∃zs:List Nat,a=.agg (zs.map u8)∧zs.length=8∧∀n∈zs,n<256:=by
 unfold ShV at h
 rw [if_pos (by unfold aggB;rw [Tryz.underlying93])] at h
 obtain ⟨cs,rfl,hs⟩:=h
 unfold Sh at hs
 simp only [Tryz.underlying93,zoz,zkq] at hs
 obtain ⟨zs,h1,h2,h3⟩:=zc6 8 cs (by omega) (fun i hi=>by
  have:=hs.2 i hi
  rw [Nat.mul_one] at this
  exact z9a this)
 exact ⟨zs,by rw [h1],h2,h3⟩
theorem sh_word {a:AV} (h:ShV Tryz.prog 8 56 a): ∃n:Nat,a=u16 n∧n<65536:=by
 unfold ShV at h
 rw [if_neg (by unfold aggB;rw [Tryz.underlying56];simp)] at h
 obtain ⟨n,h1,h2⟩:=zgs h
 simp only [List.cons.injEq,and_true] at h1
 exact ⟨n,h1,h2⟩
end Go.Proofs.YtdnmhlfjafjkbaaGreatDoor.Vm
namespace Go.Proofs.YtdnmhlfjafjkbaaGreatDoor.Vm
open Go Go.Ev
set_option maxRecDepth 100000
set_option maxHeartbeats 4000000
attribute [local go_sem] m_ x_ l_ k_ o_ t_ a_ s_ q_ b_ c_ u_ g_ z30 z09 z48 z12 z2v z04 z44 z0m z1d zw z23 z11 z2u z03 z43 z15 z2y z07 z46 z0n z1e zx z24 z0l z1c zu z21 z14 z2x z06 z1x z4o z0k z5k z16 z2z z08 z47 z17 z1k z0a z49 z10 z2t z02 z42 z13 z2w z05 z45 z22 z19 z1s z5t z5r z5s z4c z29 z2c z2b z2a z2m z2n z3n z4e z5y z0d z31 z1z z0r z27 z2p z2r z4l z4m z4k z2s z1b z0o z41 z1y z1a z0s zz z1f z0t z26 z5m z4a z0y z0i z0z pubs pub z5h params z1t z00 z0w z1u z2d z2o z5u untips untip z40 wantedAV setElems withO z5v z2j z2g z2f z4g z2i z2e z4f z2h List.replicate_succ List.replicate_zero opAV valAV aval avals ofVal Env.get setD canon gcAV renAll renEnv renStore renCells z52 cutSt okEnv okStore okRefs okRef z3m z62 z4p z61 z5z z60 z63 cellsEq cellEq isShift intOp boolOp z5o z5p z64 bne resAV tupAV z4d z72 z56 fins zam z5w z5x z55 z7i storeAV readCells putCells z4n z1w z0j fieldAddrAV z6w goI List.getElem?_cons_zero List.getElem?_cons_succ List.getElem?_nil Option.bind_some Option.map_some List.length_cons List.length_nil List.all_cons List.all_nil Bool.and_true Bool.true_and Bool.and_false Bool.false_and and_true true_and and_false false_and Bool.false_eq_true List.set_cons_zero List.set_cons_succ List.append_nil List.nil_append List.cons_append List.take_zero List.take_succ_cons List.take_nil List.drop_zero List.drop_succ_cons List.map_cons List.map_nil decide_true decide_false beq_self_eq_true Bool.not_true Bool.not_false or_true true_or or_false false_or Nat.zero_add Nat.add_zero Nat.le_refl Nat.lt_irrefl decide_eq_true_eq eq_self_iff_true not_true_eq_false not_false_eq_true List.getD_cons_zero z2q Nat.zero_le Nat.not_lt_zero Bool.true_beq Bool.false_beq beq_true beq_false ge_iff_le gt_iff_lt keepR keepT ownTop zan pus Option.map_none z1h z1g z4i z2k z4h Int.cast_ofNat_Int Nat.mul_one Nat.zero_mul Int.toNat_natCast Int.toNat_zero setParts withO2 hasKey z4j z4b z2l z28 z0q z0p zy z0v zl1 z3g z3y z3o z6p z6r z8k z59 z3t z38 z1o z5c z3v z3r z32 z3z z37 z5a z3u z33 z1m z5d z3w z5f z35 z36 z3x z1l z57 z3q z3p z58 Option.bind_none Bool.not_eq_true' decide_eq_false_iff_not Bool.and_eq_true Bool.or_eq_true Option.some.injEq Int.not_lt Int.not_le
attribute [local go_sem_proc] reduceIte Nat.reduceEqDiff Nat.reduceAdd Nat.reduceSub Nat.reduceLeDiff Nat.reduceLT reduceCtorEq Int.reduceLT Int.reduceLE Int.reduceEq Int.reduceBEq Int.reduceSub Int.reduceAdd Int.reduceMul Int.reduceNeg Int.reduceToNat Nat.reduceMul Nat.reduceBEq
section
variable {n:Nat} {U W:List Nat} (hn:n≤8) (hU: ∀u∈U,u≤U.length) (hW: ∀w∈W,w≤U.length) (hWl:W.length=n) (hend: ∀w,w≤U.length→itC U U.length w=0)
include hU hend in
theorem zfz {x s:Nat} (hx:x≤U.length)(h0:x≠0):itC U (s+1) x≠x:=by
 intro h
 have h2:=zbk (U:=U) (w:=x) (s:=s) h U.length
 have h3:U.length*(s+1)=U.length+U.length*s:=by rw [Nat.mul_succ,Nat.add_comm]
 rw [h3,z3h,hend x hx,z79] at h2
 exact h0 h2.symm
include hU hend in
theorem zlb {w p q x:Nat} (hx:x≤U.length)(h0:x≠0)(h1:itC U p w=x)(h2:itC U q w=x):p=q:=by
 rcases Nat.lt_trichotomy p q with h|h|h
 ·exfalso
  apply zfz (U:=U) hU hend (s:=q-p-1) hx h0
  rw [show q-p-1+1=q-p by omega,←h1,←z3h,show p+(q-p)=q by omega,h2,h1]
 ·exact h
 ·exfalso
  apply zfz (U:=U) hU hend (s:=p-q-1) hx h0
  rw [show p-q-1+1=p-q by omega,←h2,←z3h,show q+(p-q)=p by omega,h1,h2]
include hn hU hW hWl hend
theorem sb {k:Nat} (hk:k<U.length)(b:Nat):((outL U W).getD k 0).testBit b=true↔b<n∧∃t,itC U t (W.getD b 0)=k+1:=by
 have hoo:=zfw U W 0 (List.replicate U.length 0) (by omega) (fun k=>by simp [List.getD_eq_getElem?_getD,List.getElem?_replicate];split<;>simp)
 rw [show outF U 0 W (List.replicate U.length 0)=outL U W from rfl,List.length_replicate] at hoo
 exact z8y hn hU hW hWl hoo.1.symm hend rfl (by rw [hoo.1];exact hk) b
theorem zjb:(outL U W).length=U.length:=by
 have hoo:=zfw U W 0 (List.replicate U.length 0) (by omega) (fun k=>by simp [List.getD_eq_getElem?_getD,List.getElem?_replicate];split<;>simp)
 rw [show outF U 0 W (List.replicate U.length 0)=outL U W from rfl,List.length_replicate] at hoo
 exact hoo.1
variable (hlack: ∀c,c≤U.length→¬(min c 1+U.count c<3∧c ∉ W))
include hlack
theorem zei {c:Nat} (hc:c≤U.length)(h0:c≠0): ∀(d x t:Nat),x≤U.length→x≠0→itC U t x=c→t+d=U.length→∃a,a<n∧∃s,itC U s (W.getD a 0)=x
 |0,x,t,hx,_,h,e=>by
  have:t=U.length:=by omega
  subst this
  rw [hend x hx] at h
  exact absurd h.symm h0
 |d+1,x,t,hx,hx0,h,e=>by
  by_cases hin:x∈W
  ·obtain ⟨a,ha,he⟩:=List.getElem_of_mem hin
   refine ⟨a,by omega,0,?_⟩
   show W.getD a 0=x
   rw [List.getD_eq_getElem?_getD,List.getElem?_eq_getElem ha,←he];rfl
  ·have hl:=hlack x hx
   have hcnt:0<U.count x:=by
    apply Nat.pos_of_ne_zero;intro hz
    exact hl ⟨by rw [hz];omega,hin⟩
   have hm:=List.count_pos_iff.1 hcnt
   obtain ⟨k,hk,he⟩:=List.getElem_of_mem hm
   have hup:upC U (k+1)=x:=by rw [zao,List.getD_eq_getElem?_getD,List.getElem?_eq_getElem hk,←he];rfl
   obtain ⟨a,ha,s,hs⟩:=zei hc h0 d (k+1) (t+1) (by omega) (by omega) (by
    show itC U t (upC U (k+1))=c
    rw [hup,h]) (by omega)
   exact ⟨a,ha,s+1,by rw [zdr,hs,hup]⟩
theorem zfr {k:Nat} (hk:k<U.length): ∃a,a<n∧∃s,itC U s (W.getD a 0)=k+1:=
 zei hn hU hW hWl hend hlack (c:=k+1) (by omega) (by omega) U.length (k+1) 0 (by omega) (by omega) rfl (by omega)
theorem two_at {c:Nat} (h:2≤U.count c)(i:Nat): ∃k,k<U.length∧k≠i∧U.getD k 0=c:=by
 apply Classical.byContradiction
 intro hno
 have key: ∀k,k<U.length→U.getD k 0=c→k=i:=fun k hk e=>by
  apply Classical.byContradiction;intro hne
  exact hno ⟨k,hk,hne,e⟩
 have h1:U.count c≤1:=by
  by_cases hi:i<U.length
  ·have hs:U=U.take i++U[i]::U.drop (i+1):=by
    rw [List.getElem_cons_drop,List.take_append_drop]
   have z1:(U.take i).count c=0:=by
    rw [List.count_eq_zero];intro hm
    obtain ⟨k,hk,e⟩:=List.mem_take_iff_getElem.1 hm
    have:=key k (by omega) (by rw [List.getD_eq_getElem?_getD,List.getElem?_eq_getElem (by omega),e];rfl)
    omega
   have z2:(U.drop (i+1)).count c=0:=by
    rw [List.count_eq_zero];intro hm
    obtain ⟨k,hk,e⟩:=List.mem_drop_iff_getElem.1 hm
    have:=key (i+1+k) (by omega) (by rw [List.getD_eq_getElem?_getD,List.getElem?_eq_getElem (by omega),e];rfl)
    omega
   rw [hs,List.count_append,List.count_cons,z1,z2]
   split<;>omega
  ·have:U.count c=0:=by
    rw [List.count_eq_zero];intro hm
    obtain ⟨k,hk,e⟩:=List.getElem_of_mem hm
    have:=key k hk (by rw [List.getD_eq_getElem?_getD,List.getElem?_eq_getElem hk,e];rfl)
    omega
   omega
 omega
theorem zh8 {i j d:Nat} (hi:i<U.length)(hj:j<U.length)(hd:itC U (d+1) (i+1)=j+1): ∃b,((outL U W).getD j 0).testBit b=true∧((outL U W).getD i 0).testBit b=false:=by
 apply Classical.byContradiction
 intro hno
 have hsub: ∀b,b<n→(∃t,itC U t (W.getD b 0)=j+1)→∃t,itC U t (W.getD b 0)=i+1:=by
  intro b hb ht
  have h1:=(sb hn hU hW hWl hend hj b).2 ⟨hb,ht⟩
  cases hc:((outL U W).getD i 0).testBit b
  ·exact absurd ⟨b,h1,hc⟩ hno
  ·exact ((sb hn hU hW hWl hend hi b).1 hc).2
 have hjW:j+1 ∉ W:=by
  intro hm
  obtain ⟨b,hb,e⟩:=List.getElem_of_mem hm
  have e2:W.getD b 0=j+1:=by rw [List.getD_eq_getElem?_getD,List.getElem?_eq_getElem hb,e];rfl
  obtain ⟨t,ht⟩:=hsub b (by omega) ⟨0,e2⟩
  rw [e2] at ht
  apply zfz (U:=U) hU hend (x:=j+1) (s:=t+d) (by omega) (by omega)
  rw [show t+d+1=t+(d+1) by omega,z3h,ht,hd]
 have hc2:2≤U.count (j+1):=by
  apply Nat.le_of_not_lt;intro hlt
  exact hlack (j+1) (by omega) ⟨by omega,hjW⟩
 have hpar:upC U (itC U d (i+1))=j+1:=by rw [←zdr,hd]
 have hp0:itC U d (i+1)≠0:=fun h=>by rw [h] at hpar;simp [upC] at hpar
 have hpl:itC U d (i+1)≤U.length:=zk1 hU d (i+1) (by omega)
 obtain ⟨k,hk,hki,hku⟩:=two_at hn hU hW hWl hend hlack hc2 (itC U d (i+1)-1)
 obtain ⟨b,hb,p,hp⟩:=zfr hn hU hW hWl hend hlack hk
 have hpj:itC U (p+1) (W.getD b 0)=j+1:=by rw [zdr,hp,zao,hku]
 obtain ⟨q,hq⟩:=hsub b hb ⟨p+1,hpj⟩
 have hq2:itC U (q+d+1) (W.getD b 0)=j+1:=by rw [show q+d+1=q+(d+1) by omega,z3h,hq,hd]
 have:=zlb hU hend (x:=j+1) (by omega) (by omega) hpj hq2
 have hpq:p=q+d:=by omega
 rw [hpq,z3h,hq] at hp
 omega
theorem zl8 {i j:Nat} (hi:i<U.length)(hj:j<U.length)(hne:i≠j):(outL U W).getD i 0≠(outL U W).getD j 0:=by
 intro he
 obtain ⟨a,ha,s,hs⟩:=zfr hn hU hW hWl hend hlack hi
 have hb:=(sb hn hU hW hWl hend hi a).2 ⟨ha,s,hs⟩
 have hb2:=hb
 rw [he] at hb2
 obtain ⟨_,t,ht⟩:=(sb hn hU hW hWl hend hj a).1 hb2
 rcases Nat.lt_trichotomy s t with h|h|h
 ·obtain ⟨b,h1,h2⟩:=zh8 hn hU hW hWl hend hlack hi hj (d:=t-s-1) (by rw [show t-s-1+1=t-s by omega,←hs,←z3h,show s+(t-s)=t by omega,ht])
  rw [he,h1] at h2;cases h2
 ·subst h;rw [hs] at ht;omega
 ·obtain ⟨b,h1,h2⟩:=zh8 hn hU hW hWl hend hlack hj hi (d:=s-t-1) (by rw [show s-t-1+1=s-t by omega,←ht,←z3h,show t+(s-t)=s by omega,hs])
  rw [he,h2] at h1;cases h1
variable (h0W:W.getD 0 0=0) (h1n:1≤n)
include h0W h1n
theorem zig:Lam n (outL U W):=by
 have hl:=zjb hn hU hW hWl hend
 have mem: ∀s∈outL U W,∃k,k<U.length∧s=(outL U W).getD k 0:=by
  intro s hs
  obtain ⟨k,hk,e⟩:=List.getElem_of_mem hs
  exact ⟨k,by omega,by rw [List.getD_eq_getElem?_getD,List.getElem?_eq_getElem hk,←e];rfl⟩
 refine ⟨?_,?_,?_,?_,?_⟩
 ·intro s hs
  obtain ⟨k,hk,rfl⟩:=mem s hs
  apply Nat.lt_pow_two_of_testBit
  intro i hi
  cases hc:((outL U W).getD k 0).testBit i
  ·rfl
  ·have:=((sb hn hU hW hWl hend hk i).1 hc).1;omega
 ·intro s hs h
  obtain ⟨k,hk,rfl⟩:=mem s hs
  obtain ⟨a,ha,t,ht⟩:=zfr hn hU hW hWl hend hlack hk
  have:=(sb hn hU hW hWl hend hk a).2 ⟨ha,t,ht⟩
  rw [h,Nat.zero_testBit] at this;cases this
 ·intro s hs
  obtain ⟨k,hk,rfl⟩:=mem s hs
  cases hc:((outL U W).getD k 0).testBit 0
  ·rfl
  ·obtain ⟨_,t,ht⟩:=(sb hn hU hW hWl hend hk 0).1 hc
   rw [h0W,z79] at ht;omega
 ·unfold List.Nodup
  rw [List.pairwise_iff_getElem]
  intro i j hi hj hij he
  apply zl8 hn hU hW hWl hend hlack (i:=i) (j:=j) (by omega) (by omega) (by omega)
  rw [List.getD_eq_getElem?_getD,List.getD_eq_getElem?_getD,List.getElem?_eq_getElem hi,List.getElem?_eq_getElem hj]
  exact he
 ·have h8: ∀k,k<U.length→(outL U W).getD k 0<256:=by
   intro k hk
   have:(outL U W).getD k 0<2^n:=by
    apply Nat.lt_pow_two_of_testBit
    intro i hi
    cases hc:((outL U W).getD k 0).testBit i
    ·rfl
    ·have:=((sb hn hU hW hWl hend hk i).1 hc).1;omega
   exact Nat.lt_of_lt_of_le this (Nat.pow_le_pow_right (n:=2) (by decide) hn)
  intro s hs t ht
  obtain ⟨i,hi,rfl⟩:=mem s hs
  obtain ⟨j,hj,rfl⟩:=mem t ht
  rw [zn4 (h8 i hi) (h8 j hj)]
  by_cases hd: ∀b,((outL U W).getD i 0).testBit b=true→((outL U W).getD j 0).testBit b=false
  ·exact .inl hd
  ·right
   obtain ⟨a,ha⟩:=Classical.not_forall.1 hd
   rw [Classical.not_imp] at ha
   obtain ⟨h1,h2⟩:=ha
   have h2:((outL U W).getD j 0).testBit a=true:=by simpa using h2
   obtain ⟨_,p,hp⟩:=(sb hn hU hW hWl hend hi a).1 h1
   obtain ⟨_,q,hq⟩:=(sb hn hU hW hWl hend hj a).1 h2
   rcases Nat.le_total p q with h|h
   ·left
    exact z9x hn hU hW hWl hl.symm hend rfl (by omega) (by omega) (t:=q-p) (by rw [←hp,←z3h,show p+(q-p)=q by omega,hq])
   ·right
    exact z9x hn hU hW hWl hl.symm hend rfl (by omega) (by omega) (t:=p-q) (by rw [←hq,←z3h,show q+(p-q)=p by omega,hp])
theorem zhe:IsTree (outL U W) n U W:=by
 have hl:=zjb hn hU hW hWl hend
 have hlam:=zig hn hU hW hWl hend hlack h0W h1n
 refine ⟨hl.symm,hWl,fun k hk=>zl9 hn hU hW hWl hl.symm hend rfl hlam hk,fun a ha=> ?_⟩
 have hin:=hW (W.getD a 0) (z9j (by omega))
 by_cases h0:W.getD a 0=0
 ·left
  refine ⟨h0,fun j hj _ hs=> ?_⟩
  obtain ⟨_,t,ht⟩:=(sb hn hU hW hWl hend (by omega) a).1 (zim hs)
  rw [h0,z79] at ht;omega
 ·right
  refine ⟨W.getD a 0-1,by omega,by omega,by simp,?_,fun j hj _ hs=> ?_⟩
  ·exact zny ((sb hn hU hW hWl hend (by omega) a).2 ⟨ha,0,by show W.getD a 0=_;omega⟩)
  ·obtain ⟨_,t,ht⟩:=(sb hn hU hW hWl hend (by omega) a).1 (zim hs)
   exact zja (z9x hn hU hW hWl hl.symm hend rfl (by omega) (by omega) (t:=t) (by rw [show W.getD a 0-1+1=W.getD a 0 by omega,ht]))
end
attribute [local go_sem] m_ x_ l_ k_ o_ t_ a_ s_ q_ b_ c_ u_ g_ zp zb zm zq z3b z25 zd zf zi z8 zh z3e
structure Tree (n:Nat) (U W:List Nat):Prop where
 hU: ∀u∈U,u≤U.length
 hW: ∀w∈W,w≤U.length
 hWl:W.length=n
 hend: ∀w,w≤U.length→itC U U.length w=0
 h0:W.getD 0 0=0
 hlack: ∀c,c≤U.length→¬(min c 1+U.count c<3∧c ∉ W)
theorem Tree.is {n:Nat} {U W:List Nat} (h:Tree n U W)(hn:n≤8)(h1:1≤n):IsTree (outL U W) n U W:=zhe hn h.hU h.hW h.hWl h.hend h.hlack h.h0 h1
attribute [local go_sem] m_ x_ l_ k_ o_ t_ a_ s_ q_ b_ c_ u_ g_ zp zb zm zq z3b z25 zd zf zi z8 zh z3e z8z zax zau z73 zas zgq
def AbvTo (L:List Nat) (s:Nat) (but:Option Nat) (i r:Nat):Prop:=
 (r=0∧∀j,j<i→some j≠but→¬Sub s (L.getD j 0))∨
 (∃k,r=k+1∧k<i∧some k≠but∧Sub s (L.getD k 0)∧∀j,j<i→some j≠but→Sub s (L.getD j 0)→pc (L.getD k 0)≤pc (L.getD j 0))
theorem AbvTo.skip {L:List Nat} {s:Nat} {but:Option Nat} {i r:Nat} (h:AbvTo L s but i r)(hi:some i≠but→¬Sub s (L.getD i 0)∨(r≠0∧pc (L.getD (r-1) 0)≤pc (L.getD i 0))):AbvTo L s but (i+1) r:=by
 rcases h with ⟨rfl,h⟩ | ⟨k,rfl,h1,h2,h3,h4⟩
 ·left
  refine ⟨rfl,fun j hj hb=> ?_⟩
  by_cases e:j=i
  ·subst e
   rcases hi hb with h| ⟨h,_⟩
   ·exact h
   ·exact absurd rfl h
  ·exact h j (by omega) hb
 ·right
  refine ⟨k,rfl,by omega,h2,h3,fun j hj hb hs=> ?_⟩
  by_cases e:j=i
  ·subst e
   rcases hi hb with h| ⟨_,h⟩
   ·exact absurd hs h
   ·rw [Nat.add_sub_cancel] at h;exact h
  ·exact h4 j (by omega) hb hs
theorem AbvTo.take {L:List Nat} {s:Nat} {but:Option Nat} {i r:Nat} (h:AbvTo L s but i r)(hb:some i≠but)(hs:Sub s (L.getD i 0))(hr:r=0∨pc (L.getD i 0)<pc (L.getD (r-1) 0)):AbvTo L s but (i+1) (i+1):=by
 right
 refine ⟨i,rfl,by omega,hb,hs,fun j hj hjb hjs=> ?_⟩
 by_cases e:j=i
 ·subst e;exact Nat.le_refl _
 ·rcases h with ⟨rfl,h⟩ | ⟨k,rfl,h1,h2,h3,h4⟩
  ·exact absurd hjs (h j (by omega) hjb)
  ·have:=h4 j (by omega) hjb hjs
   rcases hr with hr|hr
   ·omega
   ·rw [Nat.add_sub_cancel] at hr;omega
attribute [local go_sem] m_ x_ l_ k_ o_ t_ a_ s_ q_ b_ c_ u_ g_ zp zb zm zq z3b z25 zd zf zi z8 zh z3e
def tzW (m:Nat):Nat:=((List.range 14).find? m.testBit).getD 64
theorem zn9:((List.range 8192).all fun m=>decide (m=0)||(decide (andN m (2^64-m)=2^tzW m)&&decide (tzW m<14)))=true:=by kernel_rfl
theorem negU (m:Nat)(h0:m≠0)(h:m<8192):IntKind.u64.wrap (-(m:Int))=((2^64-m:Nat):Int):=by
 simp only [IntKind.wrap,IntKind.bits,IntKind.signed]
 simp
 omega
theorem c137w (m:Nat)(h0:m≠0)(h:m<8192)(st:St):run L 137 [U m] st=some (J (tzW m),st):=by
 have ha:=List.all_eq_true.1 zn9 m (List.mem_range.2 h)
 rw [decide_eq_false h0,Bool.false_or,Bool.and_eq_true,decide_eq_true_eq,decide_eq_true_eq] at ha
 obtain ⟨h1,h2⟩:=ha
 rw [run_pure (fn:=ir137) rfl rfl]
 have q0:((m:Int)=0)=False:=eF (by omega)
 have hn:=negU m h0 h
 have hand:=zkz m (2^64-m)
 rw [h1] at hand
 generalize tzW m=t at*
 have hn':IntKind.u64.wrap (0-(m:Int))=((2^64-m:Nat):Int):=by rw [Int.zero_sub];exact hn
 simp only [ir137,go_sem,q0,hn',hand]
 clear hand hn hn' h1
 have key: ∀t:Fin 14,(IntKind.u64.wrap (((2^t.val:Nat):Int)*285870213051353865)).fdiv (2^min 58 64)=(([0,1,3,7,15,31,63,62,61,59,55,47,30,60][t.val]! :Nat):Int):=by decide
 have hk:=key ⟨t,h2⟩
 dsimp only at hk
 rw [hk]
 have hi: ∀t:Fin 14,[0,1,3,7,15,31,63,62,61,59,55,47,30,60][t.val]! <64:=by decide
 have hi:=hi ⟨t,h2⟩
 dsimp only at hi
 clear hk hi
 have h14:t=0∨t=1∨t=2∨t=3∨t=4∨t=5∨t=6∨t=7∨t=8∨t=9∨t=10∨t=11∨t=12∨t=13:=by omega
 rcases h14 with rfl|rfl|rfl|rfl|rfl|rfl|rfl|rfl|rfl|rfl|rfl|rfl|rfl|rfl<;>rfl
theorem c108w (m:Nat)(h0:m≠0)(h:m<8192)(st:St):run L 108 [U m] st=some (J (tzW m),st):=by
 rw [run_pure (fn:=ir108) rfl rfl]
 have h137:=fun st=>c137w m h0 h st
 simp only [ir108,go_sem,h137]
def membW (m:Nat):List Int:=((List.range 14).filter m.testBit).map fun (i:Nat)=>(i:Int)
theorem zbj (m:Nat):(membW m).length≤14:=by
 unfold membW;rw [lm_]
 exact Nat.le_trans (List.length_filter_le _ _) (by simp)
theorem z9c {m:Nat} (hm:m<8192)(a:Int):a∈membW m↔∃i:Nat,a=i∧m.testBit i=true:=by
 unfold membW
 rw [List.mem_map]
 constructor
 ·rintro ⟨i,hi,rfl⟩
  rw [List.mem_filter] at hi
  exact ⟨i,rfl,hi.2⟩
 ·rintro ⟨i,rfl,h⟩
  refine ⟨i,List.mem_filter.2 ⟨List.mem_range.2 ?_,h⟩,rfl⟩
  apply Nat.lt_of_not_le;intro h9
  rw [Nat.testBit_lt_two_pow (Nat.lt_of_lt_of_le hm (show 8192≤2^i from Nat.le_trans (by decide) (Nat.pow_le_pow_right (n:=2) (by decide) h9)))] at h
  cases h
theorem zey (m:Nat):(membW m).Pairwise (· < ·):=by
 unfold membW
 rw [List.pairwise_map]
 exact ((List.pairwise_lt_range (n:=14)).sublist List.filter_sublist).imp (fun h=>by omega)
theorem zn8:((List.range 8192).all fun m=>decide (m=0)||(decide (m&&&(m-1)=m^^^2^tzW m)&&(m.testBit (tzW m)&&decide (m % 2^tzW m=0))))=true:=by kernel_rfl
theorem zhw (m:Nat)(h:m<8192)(h0:m≠0):membW m=(tzW m:Int)::membW (m&&&(m-1)):=by
 have ha:=List.all_eq_true.1 zn8 m (List.mem_range.2 h)
 rw [decide_eq_false h0,Bool.false_or,Bool.and_eq_true,Bool.and_eq_true,decide_eq_true_eq,decide_eq_true_eq] at ha
 obtain ⟨h1,h2,h3⟩:=ha
 have hlt:m&&&(m-1)<8192:=Nat.lt_of_le_of_lt Nat.and_le_left h
 have hbit: ∀i,(m&&&(m-1)).testBit i=true↔m.testBit i=true∧i≠tzW m:=by
  intro i
  rw [h1,Nat.testBit_xor,Nat.testBit_two_pow]
  by_cases e:tzW m=i
  ·rw [decide_eq_true e,←e,h2];simp
  ·rw [decide_eq_false e]
   simp only [Bool.xor_false]
   exact ⟨fun h=>⟨h,fun h2=>e h2.symm⟩,fun h=>h.1⟩
 have hlow: ∀i,m.testBit i=true→tzW m≤i:=by
  intro i hi
  apply Nat.le_of_not_lt;intro hl
  have:=Nat.testBit_mod_two_pow m (tzW m) i
  rw [h3,Nat.zero_testBit,decide_eq_true hl,hi] at this
  cases this
 apply zgf _ _ (zey m)
 ·rw [List.pairwise_cons]
  refine ⟨fun a ha=> ?_,zey _⟩
  obtain ⟨i,rfl,hi⟩:=(z9c hlt a).1 ha
  rw [hbit] at hi
  have:=hlow i hi.1
  omega
 ·intro a
  rw [List.mem_cons,z9c h,z9c hlt]
  constructor
  ·rintro ⟨i,rfl,hi⟩
   by_cases e:i=tzW m
   ·left;rw [e]
   ·right;exact ⟨i,rfl,(hbit i).2 ⟨hi,e⟩⟩
  ·rintro (rfl| ⟨i,rfl,hi⟩)
   ·exact ⟨_,rfl,h2⟩
   ·exact ⟨i,rfl,((hbit i).1 hi).1⟩
theorem subUw (m:Nat)(h:m<8192)(h0:m≠0):IntKind.u64.wrap ((m:Int)-1)=((m-1:Nat):Int):=by
 have:=z8i (m-1) (by omega)
 rw [←this];congr 1;omega
theorem and_dw (a b:Nat)(ha:a<8192)(hb:b<8192):binAV .and none (.v (.int .u64 (a:Int))) (.v (.int .u64 (b:Int)))=some (.v (.int .u64 ((a&&&b:Nat):Int))):=by
 rw [zkz]
 unfold andN;rw [Nat.mod_eq_of_lt (by omega),Nat.mod_eq_of_lt (by omega)]
theorem zob (m0:Nat)(m:Nat)(o:List Int)(hok:m<8192∧o.length+(membW m).length≤14)(env:Env)(st:St)
  (hg:gcAV true 1 0 (canon env [3,4]) st=([(3,oA (o.map I)),(4,U m)],⟨[[u16 m0]],oT (o.map I)⟩)):
  ∃x_1 en s,lim (headed pure (run L) true [3,4] lp74_0 1 0) env st=some (x_1,en,s)∧(x_1=.exit 0∧en.get 3=oA ((o++membW m).map I)∧s=⟨[[u16 m0]],oT ((o++membW m).map I)⟩):=by
 refine z9 (α:=Nat×List Int) (fun ⟨m,o⟩=>m) (fun ⟨m,o⟩=>m<8192∧o.length+(membW m).length≤14) (fun ⟨m,o⟩=>([(3,oA (o.map I)),(4,U m)],⟨[[u16 m0]],oT (o.map I)⟩)) (fun ⟨m,o⟩ x_1 en s=>x_1=.exit 0∧en.get 3=oA ((o++membW m).map I)∧s=⟨[[u16 m0]],oT ((o++membW m).map I)⟩) (fun ⟨m,o⟩ hok=> ?_) ⟨m,o⟩ hok env st hg
 simp only at hok
 obtain ⟨h1,h2⟩:=hok
 dsimp only at h1 h2⊢
 by_cases h:m=0
 ·have e:membW 0=[]:=by decide
  subst h
  rw [e,List.append_nil]
  simp only [go_sem,lp74_0,Int.natCast_zero]
 ·have hne:((m:Int)=0)=False:=eF (by omega)
  have ht:=fun st=>c108w m h h1 st
  have hm:=zhw m h1 h
  have hlt:=zga m h
  have hs:=subUw m h1 h
  have ha:=and_dw m (m-1) h1 (by omega)
  rw [hm] at h2⊢
  rw [List.length_cons] at h2
  have happ:=fun S=>z9o (o.map I) (J (tzW m)) S (by rw [lm_];omega)
  simp only [go_sem,lp74_0,hne,ht,hs,ha,happ]
  refine ⟨(m&&&(m-1),o++ [(tzW m:Int)]),by simp only [go_sem,z3,z4,z5,zeo,z9b,List.map_append]<;>rfl,?_,?_,fun x en s hq=> ?_⟩
  ·dsimp only;exact ⟨by omega,by rw [List.length_append,List.length_singleton];omega⟩
  ·dsimp only;exact hlt
  ·simp only [List.append_assoc,List.singleton_append] at hq;exact hq
theorem c74w (m:Nat)(h:m<8192)(st:St):run L 74 [E16 m] st=some (tAV (membW m),st):=by
 rw [run_pure (fn:=ir74) rfl rfl]
 have hl:=zbj m
 have hw:=z8i m (by omega)
 simp only [ir74,go_sem,hw]
 generalize hg:lim (headed pure (run L) true _ lp74_0 _ _) _ _=o
 obtain ⟨x,en,s,rfl,h2⟩: ∃x en s,o=some (x,en,s)∧_:=by rw [←hg];exact zob m m [] ⟨h,by simpa using hl⟩ _ _ (by simp only [go_sem,List.map_nil,←zdm,zgt]<;>rfl)
 clear hg
 obtain ⟨rfl,h3,rfl⟩:=h2
 simp only [go_sem,h3]
 rfl
theorem zjq (ss:List Nat)(hss: ∀x∈ss,x<256)(hk:ss.length≤13)(A Z:List Nat)(hAZ:A.length+1+Z.length=ss.length)(a:Nat)(ha:a<256)(j:Nat)(x:Nat)(hok:j≤ss.length∧x=frTo ss a j)(env:Env)(st:St)
  (hg:gcAV true 4 0 (canon env [6,8,9,10,29,30,31,36,37,38]) st=([(6,.rsl 0 0 ss.length ss.length 1 true),(8,.ptr 2 0),(9,J A.length),(10,.ptr 3 0),(29,.rsl 0 0 ss.length ss.length 1 true),(30,J ss.length),(31,J A.length),(36,.rsl 0 0 ss.length ss.length 1 true),(37,J ss.length),(38,J j)],⟨[ss.map u8,(A++x::Z).map u16,[.rsl 1 0 ss.length ss.length 1 true],[u8 a]],[]⟩)):
  ∃x_1 en s,lim (headed pure (run L) true [6,8,9,10,29,30,31,36,37,38] lp18_0 4 0) env st=some (x_1,en,s)∧(x_1=.exit 2∧en.get 6=.rsl 0 0 ss.length ss.length 1 true∧en.get 8=.ptr 2 0∧en.get 29=.rsl 0 0 ss.length ss.length 1 true∧en.get 30=J ss.length∧en.get 31=J A.length∧s=⟨[ss.map u8,(A++frN ss a::Z).map u16,[.rsl 1 0 ss.length ss.length 1 true],[u8 a]],[]⟩):=by
 refine z9 (α:=Nat×Nat) (fun ⟨j,x⟩=>ss.length-j) (fun ⟨j,x⟩=>j≤ss.length∧x=frTo ss a j) (fun ⟨j,x⟩=>([(6,.rsl 0 0 ss.length ss.length 1 true),(8,.ptr 2 0),(9,J A.length),(10,.ptr 3 0),(29,.rsl 0 0 ss.length ss.length 1 true),(30,J ss.length),(31,J A.length),(36,.rsl 0 0 ss.length ss.length 1 true),(37,J ss.length),(38,J j)],⟨[ss.map u8,(A++x::Z).map u16,[.rsl 1 0 ss.length ss.length 1 true],[u8 a]],[]⟩)) (fun ⟨j,x⟩ x_1 en s=>x_1=.exit 2∧en.get 6=.rsl 0 0 ss.length ss.length 1 true∧en.get 8=.ptr 2 0∧en.get 29=.rsl 0 0 ss.length ss.length 1 true∧en.get 30=J ss.length∧en.get 31=J A.length∧s=⟨[ss.map u8,(A++frN ss a::Z).map u16,[.rsl 1 0 ss.length ss.length 1 true],[u8 a]],[]⟩) (fun ⟨j,x⟩ hok=> ?_) ⟨j,x⟩ hok env st hg
 simp only at hok
 obtain ⟨h1,h2⟩:=hok
 dsimp only at h1 h2⊢
 by_cases h:j<ss.length
 ·have hs:=ze j (by omega)
  have hlt:((j:Int)<(ss.length:Int))=True:=eT (by omega)
  have hg:=zit ss j h
  have hb:ss.getD j 0<256:=by
   rw [List.getD_eq_getElem?_getD,List.getElem?_eq_getElem h];exact hss _ (List.getElem_mem h)
  have hf:frTo ss a (j+1)=if agN a (ss.getD j 0)=true then frTo ss a j|||2^j else frTo ss a j:=rfl
  have hxl:x<2^13:=by rw [h2];exact Nat.lt_of_lt_of_le (zg9 ss a j) (Nat.pow_le_pow_right (by omega) (by omega))
  rw [←h2] at hf
  have h73:=fun st=>c73 a (ss.getD j 0) ha hb st
  generalize ss.getD j 0=b at*
  have hAl:(A++x::Z).length=ss.length:=by simp;omega
  have hget:((A++x::Z).map u16)[A.length]? =some (u16 x):=by rw [List.getElem?_map];simp
  have hjl:(j+1≤ss.length)=True:=eT (by omega)
  have hAl2:((A.length:Int)<(ss.length:Int))=True:=eT (by omega)
  have hAl3:(A.length+1≤ss.length)=True:=eT (by omega)
  have hjn:((j:Int).toNat<ss.length)=True:=eT (by omega)
  have hp2:2^j<2^13:=Nat.pow_lt_pow_right (by omega) (by omega)
  have hsh:=shl16 j (by omega)
  have hor:=or16 x (2^j) (by omega) (by omega)
  have hset: ∀y,(A++x::Z).set A.length y=A++y::Z:=by intro y;simp
  cases hc:agN a b with
  |true=>
   rw [hc] at h73
   rw [hc,if_pos rfl] at hf
   simp only [go_sem,lp18_0,hlt,hs,hg,h73,hAl,hget,hjl,hAl2,hAl3,hjn,hsh,hor,hset,nn_,lm_]
   refine ⟨(j+1,Nat.lor x (2^j)),by simp only [go_sem,z3,z4,z5,z4q,z0x,z4w,z1r,hset]<;>rfl,?_,?_,fun x en s hq=> ?_⟩
   ·dsimp only;exact ⟨by omega,hf.symm⟩
   ·dsimp only;omega
   ·exact hq
  |false=>
   rw [hc] at h73
   rw [hc,if_neg (by simp)] at hf
   simp only [go_sem,lp18_0,hlt,hs,hg,h73,hjl,hjn,nn_,lm_]
   refine ⟨(j+1,x),by simp only [go_sem,z3,z4,z5,z4q,z0x,z4w,z1r]<;>rfl,?_,?_,fun x en s hq=> ?_⟩
   ·dsimp only;exact ⟨by omega,hf.symm⟩
   ·dsimp only;omega
   ·exact hq
 ·have e:j=ss.length:=by omega
  subst e
  have hlt:((ss.length:Int)<(ss.length:Int))=False:=eF (by omega)
  have e2:frN ss a=x:=by rw [h2];rfl
  rw [e2]
  simp only [go_sem,lp18_0,hlt]
theorem zjp (ss:List Nat)(hss: ∀x∈ss,x<256)(hk:ss.length≤13)(i:Nat)(F:List Nat)(hok:i≤ss.length∧F=(ss.take i).map (frN ss)++List.replicate (ss.length-i) 0)(env:Env)(st:St)
  (hg:gcAV true 3 0 (canon env [6,8,29,30,31]) st=([(6,.rsl 0 0 ss.length ss.length 1 true),(8,.ptr 2 0),(29,.rsl 0 0 ss.length ss.length 1 true),(30,J ss.length),(31,J i)],⟨[ss.map u8,F.map u16,[.rsl 1 0 ss.length ss.length 1 true]],[]⟩)):
  ∃x_1 en s,lim (headed pure (run L) true [6,8,29,30,31] lp18_1 3 0) env st=some (x_1,en,s)∧(x_1=.exit 0∧en.get 6=.rsl 0 0 ss.length ss.length 1 true∧en.get 8=.ptr 2 0∧s=⟨[ss.map u8,(ss.map (frN ss)).map u16,[.rsl 1 0 ss.length ss.length 1 true]],[]⟩):=by
 refine z9 (α:=Nat×List Nat) (fun ⟨i,F⟩=>ss.length-i) (fun ⟨i,F⟩=>i≤ss.length∧F=(ss.take i).map (frN ss)++List.replicate (ss.length-i) 0) (fun ⟨i,F⟩=>([(6,.rsl 0 0 ss.length ss.length 1 true),(8,.ptr 2 0),(29,.rsl 0 0 ss.length ss.length 1 true),(30,J ss.length),(31,J i)],⟨[ss.map u8,F.map u16,[.rsl 1 0 ss.length ss.length 1 true]],[]⟩)) (fun ⟨i,F⟩ x_1 en s=>x_1=.exit 0∧en.get 6=.rsl 0 0 ss.length ss.length 1 true∧en.get 8=.ptr 2 0∧s=⟨[ss.map u8,(ss.map (frN ss)).map u16,[.rsl 1 0 ss.length ss.length 1 true]],[]⟩) (fun ⟨i,F⟩ hok=> ?_) ⟨i,F⟩ hok env st hg
 simp only at hok
 obtain ⟨h1,h2⟩:=hok
 dsimp only at h1 h2⊢
 by_cases h:i<ss.length
 ·have hs:=ze i (by omega)
  have hlt:((i:Int)<(ss.length:Int))=True:=eT (by omega)
  have hg:=zit ss i h
  have hb:ss.getD i 0<256:=by
   rw [List.getD_eq_getElem?_getD,List.getElem?_eq_getElem h];exact hss _ (List.getElem_mem h)
  have hsn:=frsnoc ss i h
  have hA:((ss.take i).map (frN ss)).length=i:=by rw [lm_,List.length_take];omega
  have hF:F=(ss.take i).map (frN ss)++0::List.replicate (ss.length-(i+1)) 0:=by
   rw [h2,show ss.length-i=(ss.length-(i+1))+1 by omega,List.replicate_succ]
  have hil:(i+1≤ss.length)=True:=eT (by omega)
  have hin:((i:Int).toNat<ss.length)=True:=eT (by omega)
  generalize ss.getD i 0=a at*
  generalize (ss.take i).map (frN ss)=A at*
  have hZ:(List.replicate (ss.length-(i+1)) 0).length=ss.length-(i+1):=by simp
  generalize hZe:List.replicate (ss.length-(i+1)) 0=Z at*
  subst hF
  subst hA
  simp only [go_sem,lp18_1,hlt,hs,hg,hil,hin,nn_,lm_]
  generalize hg:lim (headed pure (run L) true _ lp18_0 _ _) _ _=o
  obtain ⟨x,en,s,rfl,h2⟩: ∃x en s,o=some (x,en,s)∧_:=by rw [←hg];exact zjq ss hss hk A Z (by omega) a hb 0 0 ⟨by omega,rfl⟩ _ _ (by simp only [go_sem,z4q,z0x,z4w,z1r,Int.natCast_zero]<;>rfl)
  clear hg
  obtain ⟨rfl,e6,e8,e29,e30,e31,rfl⟩:=h2
  simp only [go_sem,lp18_1,e6,e8,e29,e30,e31,hs]
  refine ⟨(A.length+1,A++frN ss a::Z),by simp only [go_sem,z3,z4,z5,e6,e8,e29,e30,e31,z4q,z0x,z4w,z1r]<;>rfl,?_,?_,fun x en s hq=> ?_⟩
  ·dsimp only;exact ⟨by omega,by rw [hZe];exact hsn⟩
  ·dsimp only;omega
  ·exact hq
 ·have e:i=ss.length:=by omega
  subst e
  rw [List.take_length,Nat.sub_self,List.replicate_zero,List.append_nil] at h2
  subst h2
  have hlt:((ss.length:Int)<(ss.length:Int))=False:=eF (by omega)
  simp only [go_sem,lp18_1,hlt]
def stepB (F:List Nat) (best:List Int) (m:Nat):List Int:=
 if (membW m).length<best.length then best
 else if (membW m).any (fun i=> !wiN m (F.getD i.toNat 0))=true then best
 else if best.length<(membW m).length then membW m
 else if lexLt (membW m) best=true then membW m else best
def mostG (F:List Nat) (k:Nat):List Int:=(List.range' 0 (2^k)).foldl (stepB F) []
theorem zin (F:List Nat)(best:List Int)(m:Nat)(h:best.length≤14):(stepB F best m).length≤14:=by
 have:=zbj m
 unfold stepB;split
 ·exact h
 ·split
  ·exact h
  ·split
   ·exact this
   ·split
    ·exact this
    ·exact h
theorem zjo (S0:List AV)(hS1: ∀n,okRefs n S0=true)(hS2: ∀n T acc,renCells n T acc S0=(S0,acc))(F:List Nat)(hF: ∀f∈F,f<65536)(hk:F.length≤13)(m:Nat)(best:List Int)(hok:m≤2^F.length∧best.length≤14)(env:Env)(st:St)
  (hg:gcAV true 3 0 (canon env [8,13,60,61]) st=([(8,.ptr 2 0),(13,tAV best),(60,J (2^F.length)),(61,J m)],⟨[S0,F.map u16,[.rsl 1 0 F.length F.length 1 true]],[]⟩)):
  ∃x_1 en s,lim (headed pure (run L) true [8,13,60,61] lp18_2 3 0) env st=some (x_1,en,s)∧(x_1=.exit 4∧en.get 13=tAV ((List.range' m (2^F.length-m)).foldl (stepB F) best)):=by
 refine z9 (α:=Nat×List Int) (fun ⟨m,best⟩=>2^F.length-m) (fun ⟨m,best⟩=>m≤2^F.length∧best.length≤14) (fun ⟨m,best⟩=>([(8,.ptr 2 0),(13,tAV best),(60,J (2^F.length)),(61,J m)],⟨[S0,F.map u16,[.rsl 1 0 F.length F.length 1 true]],[]⟩)) (fun ⟨m,best⟩ x_1 en s=>x_1=.exit 4∧en.get 13=tAV ((List.range' m (2^F.length-m)).foldl (stepB F) best)) (fun ⟨m,best⟩ hok=> ?_) ⟨m,best⟩ hok env st hg
 simp only at hok
 obtain ⟨h1,h2⟩:=hok
 dsimp only at h1 h2⊢
 have hN:2^F.length≤8192:=Nat.le_trans (Nat.pow_le_pow_right (by omega) hk) (by decide)
 have hmr:m<2^F.length→∀a∈membW m,0≤a∧a<(F.length:Int):=by
  intro hm a ha
  obtain ⟨i,rfl,hi⟩:=(z9c (by omega) a).1 ha
  have:i<F.length:=by
   apply Nat.lt_of_not_le;intro h9
   rw [zik hm i h9] at hi;cases hi
  omega
 generalize 2^F.length=N at*
 by_cases h:m<N
 ·have hs:=ze m (by omega)
  have hlt:((m:Int)<(N:Int))=True:=eT (by omega)
  have hr:List.range' m (N-m)=m::List.range' (m+1) (N-(m+1)):=by
   rw [show N-m=(N-(m+1))+1 by omega,List.range'_succ]
  rw [hr,List.foldl_cons]
  have hml:=zbj m
  have hmr:=hmr h
  have hw:=zec m (by omega)
  have h74:=fun st=>c74w m (by omega) st
  have hsl:=zin F best m h2
  have he:stepB F best m=if (membW m).length<best.length then best else if (membW m).any (fun i=> !wiN m (F.getD i.toNat 0))=true then best else if best.length<(membW m).length then membW m else if lexLt (membW m) best=true then membW m else best:=rfl
  have h75:=c75 ⟨[S0,F.map u16,[.rsl 1 0 F.length F.length 1 true],[u16 m]],[]⟩ 76 rfl [.ptr 3 0,.ptr 2 0] (tAV (membW m)) (membW m) (by omega) (z78 I true _) (fun i h=>z6x I true _ i h) (fun i=> !wiN m (F.getD i.toNat 0)) (fun x hx=>c76 S0 F hF m (by omega) x (hmr x hx))
  have hlo:lenAV (tAV (membW m))=some (J (membW m).length):=z78 I true _
  have hlb:lenAV (tAV best)=some (J best.length):=z78 I true _
  have h42:=fun st=>c42 true true (membW m) best (by omega) st
  have h42': ∀st,run L 42 [tAV (membW m),tAV best] st=some (I (cmpN (membW m) best),st):=h42
  have hcl:=ze5 (membW m) best
  generalize membW m=own at*
  rw [he] at hsl⊢
  by_cases p1:own.length<best.length
  ·have q1:((own.length:Int)<(best.length:Int))=True:=eT (by omega)
   rw [if_pos p1]
   simp only [go_sem,lp18_2,hlt,hs,hw,h74,hlo,hlb,q1]
   refine ⟨(m+1,best),by simp only [go_sem,z3,z4,z5,hS1,hS2,z4w,z1r,z3d]<;>rfl,?_,?_,fun x en s hq=> ?_⟩
   ·dsimp only;exact ⟨by omega,h2⟩
   ·dsimp only;omega
   ·exact hq
  ·have q1:((own.length:Int)<(best.length:Int))=False:=eF (by omega)
   rw [if_neg p1] at hsl⊢
   cases p2:own.any (fun i=> !wiN m (F.getD i.toNat 0)) with
   |true=>
    rw [p2] at h75
    rw [if_pos rfl]
    simp only [go_sem,lp18_2,hlt,hs,hw,h74,hlo,hlb,q1,h75]
    refine ⟨(m+1,best),by simp only [go_sem,z3,z4,z5,hS1,hS2,z4w,z1r,z3d]<;>rfl,?_,?_,fun x en s hq=> ?_⟩
    ·dsimp only;exact ⟨by omega,h2⟩
    ·dsimp only;omega
    ·exact hq
   |false=>
    rw [p2] at h75 hsl
    rw [if_neg (by simp)] at hsl⊢
    by_cases p3:best.length<own.length
    ·have q3:((best.length:Int)<(own.length:Int))=True:=eT (by omega)
     rw [if_pos p3] at hsl⊢
     simp only [go_sem,lp18_2,hlt,hs,hw,h74,hlo,hlb,q1,h75,q3]
     refine ⟨(m+1,own),by simp only [go_sem,z3,z4,z5,hS1,hS2,z4w,z1r,z3d]<;>rfl,?_,?_,fun x en s hq=> ?_⟩
     ·dsimp only;exact ⟨by omega,hsl⟩
     ·dsimp only;omega
     ·exact hq
    ·have q3:((best.length:Int)<(own.length:Int))=False:=eF (by omega)
     rw [if_neg p3] at hsl⊢
     cases p4:lexLt own best with
     |true=>
      rw [p4] at hcl hsl
      rw [if_pos rfl] at hsl⊢
      have q4:(cmpN own best<0)=True:=eT (of_decide_eq_true hcl)
      simp only [go_sem,lp18_2,hlt,hs,hw,h74,hlo,hlb,q1,h75,q3,h42',q4]
      refine ⟨(m+1,own),by simp only [go_sem,z3,z4,z5,hS1,hS2,z4w,z1r,z3d]<;>rfl,?_,?_,fun x en s hq=> ?_⟩
      ·dsimp only;exact ⟨by omega,hsl⟩
      ·dsimp only;omega
      ·exact hq
     |false=>
      rw [p4] at hcl hsl
      rw [if_neg (by simp)] at hsl⊢
      have q4:(cmpN own best<0)=False:=eF (of_decide_eq_false hcl)
      simp only [go_sem,lp18_2,hlt,hs,hw,h74,hlo,hlb,q1,h75,q3,h42',q4]
      refine ⟨(m+1,best),by simp only [go_sem,z3,z4,z5,hS1,hS2,z4w,z1r,z3d]<;>rfl,?_,?_,fun x en s hq=> ?_⟩
      ·dsimp only;exact ⟨by omega,hsl⟩
      ·dsimp only;omega
      ·exact hq
 ·have hr:N-m=0:=by omega
  have hlt:((m:Int)<(N:Int))=False:=eF (by omega)
  rw [hr]
  simp only [go_sem,lp18_2,hlt]
  rfl
def mostW (ss:List Nat):List Int:=mostG (ss.map (frN ss)) ss.length
theorem c18w (n:Nat)(h2:2≤n)(hn:n≤8)(nl:Bool)(X:List Nat)(hX: ∀v∈X,v<2^n∧v≠0∧v≠2^n-1)(hnd:(X.map (smlN n)).Nodup)(hl:X.length≤13)(st:St):
  run L 18 [J n,sl 1 nl (X.map tM)] st=some (.tup [tAV (mostW (X.map (smlN n))),I 0],st):=by
 by_cases h0:X=[]
 ·subst h0
  exact c18z n h2 hn nl st
 rw [run_pure (fn:=ir18) rfl rfl]
 have h70:=c70 n h2 hn nl X hX hnd (by omega)
 have hss: ∀x∈X.map (smlN n),x<256:=by
  intro x hx
  rw [List.mem_map] at hx
  obtain ⟨v,hv,rfl⟩:=hx
  exact Nat.lt_of_lt_of_le (zb0 (hX v hv).1) (Nat.pow_le_pow_right (n:=2) (by decide) hn)
 have hk:(X.map (smlN n)).length≤13:=by rw [lm_];exact hl
 have hne:X.map (smlN n)≠[]:=by simpa using h0
 have hXl:X.length=(X.map (smlN n)).length:=by rw [lm_]
 have hm:mostW (X.map (smlN n))=mostG ((X.map (smlN n)).map (frN (X.map (smlN n)))) (X.map (smlN n)).length:=rfl
 rw [hm]
 rw [zk0 hne,zjx hne] at h70
 generalize X.map (smlN n)=ss at*
 have hsv:=zgi 0 ss
 have hmk: ∀S T,makeAV 1 true [.v (.int .u16 0)] ⟨S,T⟩ (J ss.length) (J ss.length)=some (.rsl S.length 0 ss.length ss.length 1 true,⟨S++ [(List.replicate ss.length 0).map u16],T⟩):=by
  intro S T
  simp only [makeAV,natOf]
  have:ss.length≤maxGrow:=by unfold maxGrow;omega
  simp [this]
 have hsh:=shl_i ss.length (by omega)
 have hF: ∀f∈ss.map (frN ss),f<65536:=by
  intro f hf
  rw [List.mem_map] at hf
  obtain ⟨a,_,rfl⟩:=hf
  exact Nat.lt_of_lt_of_le (zg9 ss a ss.length) (Nat.le_trans (Nat.pow_le_pow_right (by omega) hk) (by decide))
 have hFl:(ss.map (frN ss)).length=ss.length:=by simp
 simp only [ir18,go_sem,h70,show pure 70=false from rfl,shStore,shV,shVs,hsv,hmk,lm_]
 generalize hg:lim (headed pure (run L) true _ lp18_1 _ _) _ _=o
 obtain ⟨x,en,s,rfl,h2⟩: ∃x en s,o=some (x,en,s)∧_:=by rw [←hg];exact zjp ss hss hk 0 (List.replicate ss.length 0) ⟨by omega,by simp⟩ _ _ (by simp only [go_sem,z4q,z0x,z4w,z1r,Int.natCast_zero]<;>rfl)
 clear hg
 obtain ⟨rfl,e6,e8,rfl⟩:=h2
 simp only [go_sem,e6,e8,hsh]
 generalize hFe:ss.map (frN ss)=F at*
 rw [←hFl]
 generalize hg:lim (headed pure (run L) true _ lp18_2 _ _) _ _=o
 obtain ⟨x,en,s,rfl,h2⟩: ∃x en s,o=some (x,en,s)∧_:=by rw [←hg];exact zjo (ss.map u8) (fun n=>z4q n ss) (fun n T acc=>z0x n T acc ss) F hF (by omega) 0 [] ⟨Nat.zero_le _,by simp⟩ _ _ (by simp only [go_sem,e8,z4q,z0x,z4w,z1r,Int.natCast_zero,hFl,show AV.v (.slice none 0 0)=tAV [] from rfl,z3d]<;>rfl)
 clear hg
 obtain ⟨rfl,e13⟩:=h2
 simp only [go_sem,e13,z55,fins,mostG,fin_t,Nat.sub_zero]
end Go.Proofs.YtdnmhlfjafjkbaaGreatDoor.Vm
namespace Go.Proofs.YtdnmhlfjafjkbaaGreatDoor.Vm
open Go Go.Ev
set_option maxRecDepth 100000
set_option maxHeartbeats 4000000
attribute [local go_sem] m_ x_ l_ k_ o_ t_ a_ s_ q_ b_ c_ u_ g_ z30 z09 z48 z12 z2v z04 z44 z0m z1d zw z23 z11 z2u z03 z43 z15 z2y z07 z46 z0n z1e zx z24 z0l z1c zu z21 z14 z2x z06 z1x z4o z0k z5k z16 z2z z08 z47 z17 z1k z0a z49 z10 z2t z02 z42 z13 z2w z05 z45 z22 z19 z1s z5t z5r z5s z4c z29 z2c z2b z2a z2m z2n z3n z4e z5y z0d z31 z1z z0r z27 z2p z2r z4l z4m z4k z2s z1b z0o z41 z1y z1a z0s zz z1f z0t z26 z5m z4a z0y z0i z0z pubs pub z5h params z1t z00 z0w z1u z2d z2o z5u untips untip z40 wantedAV setElems withO z5v z2j z2g z2f z4g z2i z2e z4f z2h List.replicate_succ List.replicate_zero opAV valAV aval avals ofVal Env.get setD canon gcAV renAll renEnv renStore renCells z52 cutSt okEnv okStore okRefs okRef z3m z62 z4p z61 z5z z60 z63 cellsEq cellEq isShift intOp boolOp z5o z5p z64 bne resAV tupAV z4d z72 z56 fins zam z5w z5x z55 z7i storeAV readCells putCells z4n z1w z0j fieldAddrAV z6w goI List.getElem?_cons_zero List.getElem?_cons_succ List.getElem?_nil Option.bind_some Option.map_some List.length_cons List.length_nil List.all_cons List.all_nil Bool.and_true Bool.true_and Bool.and_false Bool.false_and and_true true_and and_false false_and Bool.false_eq_true List.set_cons_zero List.set_cons_succ List.append_nil List.nil_append List.cons_append List.take_zero List.take_succ_cons List.take_nil List.drop_zero List.drop_succ_cons List.map_cons List.map_nil decide_true decide_false beq_self_eq_true Bool.not_true Bool.not_false or_true true_or or_false false_or Nat.zero_add Nat.add_zero Nat.le_refl Nat.lt_irrefl decide_eq_true_eq eq_self_iff_true not_true_eq_false not_false_eq_true List.getD_cons_zero z2q Nat.zero_le Nat.not_lt_zero Bool.true_beq Bool.false_beq beq_true beq_false ge_iff_le gt_iff_lt keepR keepT ownTop zan pus Option.map_none z1h z1g z4i z2k z4h Int.cast_ofNat_Int Nat.mul_one Nat.zero_mul Int.toNat_natCast Int.toNat_zero setParts withO2 hasKey z4j z4b z2l z28 z0q z0p zy z0v zl1 z3g z3y z3o z6p z6r z8k z59 z3t z38 z1o z5c z3v z3r z32 z3z z37 z5a z3u z33 z1m z5d z3w z5f z35 z36 z3x z1l z57 z3q z3p z58 Option.bind_none Bool.not_eq_true' decide_eq_false_iff_not Bool.and_eq_true Bool.or_eq_true Option.some.injEq Int.not_lt Int.not_le
attribute [local go_sem_proc] reduceIte Nat.reduceEqDiff Nat.reduceAdd Nat.reduceSub Nat.reduceLeDiff Nat.reduceLT reduceCtorEq Int.reduceLT Int.reduceLE Int.reduceEq Int.reduceBEq Int.reduceSub Int.reduceAdd Int.reduceMul Int.reduceNeg Int.reduceToNat Nat.reduceMul Nat.reduceBEq
structure PermN (n:Nat) (P:List Nat):Prop where
 pm:P.Perm (List.range n)
namespace PermN
variable {n:Nat} {P:List Nat} (h:PermN n P)
include h
theorem len:P.length=n:=by rw [h.pm.length_eq,List.length_range]
theorem nd:P.Nodup:=h.pm.nodup_iff.2 List.nodup_range
theorem lt {a:Nat} (ha:a<n):P.getD a 0<n:=by
 have hl:=h.len
 rw [List.getD_eq_getElem?_getD,List.getElem?_eq_getElem (by omega)]
 exact List.mem_range.1 (h.pm.mem_iff.1 (List.getElem_mem _))
theorem inj {a b:Nat} (ha:a<n)(hb:b<n)(e:P.getD a 0=P.getD b 0):a=b:=by
 have hl:=h.len
 rw [List.getD_eq_getElem?_getD,List.getD_eq_getElem?_getD,List.getElem?_eq_getElem (by omega),List.getElem?_eq_getElem (by omega)] at e
 exact (List.getElem_inj h.nd).1 e
theorem onto {j:Nat} (hj:j<n): ∃a,a<n∧P.getD a 0=j:=by
 have hl:=h.len
 have:=h.pm.mem_iff.2 (List.mem_range.2 hj)
 obtain ⟨a,ha,e⟩:=List.mem_iff_getElem.1 this
 exact ⟨a,by omega,by rw [List.getD_eq_getElem?_getD,List.getElem?_eq_getElem ha];exact e⟩
end PermN
def imF (P:List Nat):List Nat→Nat
 | []=>0
 |a::r=>2^P.getD a 0|||imF P r
def imN (P:List Nat) (n s:Nat):Nat:=imF P ((List.range n).filter s.testBit)
theorem zg4 (P:List Nat)(j:Nat): ∀l:List Nat,(imF P l).testBit j=l.any fun a=>decide (P.getD a 0=j)
 | []=>by simp [imF]
 |a::r=>by
  unfold imF
  rw [Nat.testBit_or,zg4 P j r,List.any_cons,Nat.testBit_two_pow]
theorem z6h {n:Nat} {P:List Nat} (h:PermN n P)(s:Nat) {a:Nat} (ha:a<n):(imN P n s).testBit (P.getD a 0)=s.testBit a:=by
 unfold imN
 rw [zg4,Bool.eq_iff_iff,List.any_eq_true]
 constructor
 ·rintro ⟨b,hb,e⟩
  rw [List.mem_filter,List.mem_range] at hb
  rw [decide_eq_true_eq] at e
  rw [h.inj ha hb.1 e.symm];exact hb.2
 ·intro ht
  exact ⟨a,by rw [List.mem_filter,List.mem_range];exact ⟨ha,ht⟩,decide_eq_true rfl⟩
theorem z8l {n:Nat} {P:List Nat} (h:PermN n P)(s:Nat):imN P n s<2^n:=by
 apply Nat.lt_pow_two_of_testBit
 intro j hj
 unfold imN
 rw [zg4,Bool.eq_false_iff]
 intro ht
 rw [List.any_eq_true] at ht
 obtain ⟨b,hb,e⟩:=ht
 rw [List.mem_filter,List.mem_range] at hb
 rw [decide_eq_true_eq] at e
 have:=h.lt hb.1
 omega
theorem za5 {n s j:Nat} (hs:s<2^n)(hj:n≤j):s.testBit j=false:=Nat.testBit_lt_two_pow (Nat.lt_of_lt_of_le hs (Nat.pow_le_pow_right (by omega) hj))
theorem ze1 {n s t:Nat} (hs:s<2^n)(ht:t<2^n)(h: ∀j,j<n→s.testBit j=t.testBit j):s=t:=by
 apply Nat.eq_of_testBit_eq;intro j
 by_cases hj:j<n
 ·exact h j hj
 ·rw [za5 hs (by omega),za5 ht (by omega)]
theorem zf7 {n j:Nat}:(2^n-1).testBit j=decide (j<n):=Nat.testBit_two_pow_sub_one n j
theorem zgc {n s j:Nat} (hj:j<n):(s^^^(2^n-1)).testBit j= !s.testBit j:=by
 rw [Nat.testBit_xor,zf7,decide_eq_true hj,Bool.xor_true]
theorem zko {n s:Nat} (hs:s<2^n):s^^^(2^n-1)<2^n:=Nat.xor_lt_two_pow hs (by have:=Nat.two_pow_pos n;omega)
theorem zdt {n:Nat} {P:List Nat} (h:PermN n P) {s:Nat} (hs:s<2^n):imN P n (s^^^(2^n-1))=imN P n s^^^(2^n-1):=by
 apply ze1 (z8l h _) (zko (z8l h _))
 intro j hj
 obtain ⟨a,ha,rfl⟩:=h.onto hj
 rw [z6h h _ ha,zgc ha,zgc (h.lt ha),z6h h _ ha]
theorem zh0 {n:Nat} {P:List Nat} (h:PermN n P):imN P n 0=0:=by
 apply ze1 (z8l h _) (Nat.two_pow_pos n)
 intro j hj
 obtain ⟨a,ha,rfl⟩:=h.onto hj
 rw [z6h h _ ha,Nat.zero_testBit,Nat.zero_testBit]
theorem zds {n:Nat} {P:List Nat} (h:PermN n P) {s t:Nat} (hs:s<2^n)(ht:t<2^n)(e:imN P n s=imN P n t):s=t:=by
 apply ze1 hs ht
 intro a ha
 rw [←z6h h s ha,←z6h h t ha,e]
theorem zhb {n a b:Nat} (ha:a<2^n):a&&&b=0↔∀j,j<n→¬(a.testBit j=true∧b.testBit j=true):=by
 constructor
 ·intro e j _ hh
  have:=congrArg (fun x=>x.testBit j) e
  simp only [Nat.testBit_and,Nat.zero_testBit,hh.1,hh.2] at this
  cases this
 ·intro hh
  apply ze1 (n:=n) (Nat.lt_of_le_of_lt Nat.and_le_left ha) (Nat.two_pow_pos n)
  intro j hj
  rw [Nat.testBit_and,Nat.zero_testBit]
  have:=hh j hj
  cases h1:a.testBit j<;>cases h2:b.testBit j<;>simp_all
theorem zn3 {n:Nat} {P:List Nat} (h:PermN n P) {a b:Nat} (ha:a<2^n):(imN P n a&&&imN P n b=0)↔(a&&&b=0):=by
 rw [zhb (z8l h a),zhb ha]
 constructor
 ·intro hh j hj
  have:=hh _ (h.lt hj)
  rwa [z6h h _ hj,z6h h _ hj] at this
 ·intro hh j hj
  obtain ⟨x,hx,rfl⟩:=h.onto hj
  rw [z6h h _ hx,z6h h _ hx]
  exact hh x hx
theorem ag4_im {n:Nat} {P:List Nat} (h:PermN n P) {a b:Nat} (ha:a<2^n)(hb:b<2^n):ag4 n (imN P n a) (imN P n b)=ag4 n a b:=by
 unfold ag4
 rw [←zdt h ha,←zdt h hb]
 simp only [zn3 h ha,zn3 h (zko ha)]
theorem agN_im {n:Nat} (h1:1≤n)(hn:n≤8) {P:List Nat} (h:PermN n P) {a b:Nat} (ha:a<2^n)(hb:b<2^n)(ha0:a.testBit 0=false)(hb0:b.testBit 0=false):agN (smlN n (imN P n a)) (smlN n (imN P n b))=agN a b:=by
 rw [←zhc h1 hn (zb0 (z8l h a)) (zb0 (z8l h b)) (zeh h1) (zeh h1),zp6,ag4_im h ha hb,zhc h1 hn ha hb ha0 hb0]
theorem zne {n:Nat} (h1:1≤n) {P:List Nat} (h:PermN n P) {a b:Nat} (ha:a<2^n)(hb:b<2^n)(ha0:a.testBit 0=false)(hb0:b.testBit 0=false)(e:smlN n (imN P n a)=smlN n (imN P n b)):a=b:=by
 have key: ∀x y:Nat,x<2^n→y<2^n→smlN n x=smlN n y→x=y∨x=y^^^(2^n-1):=by
  intro x y hx hy e
  unfold smlN at e
  have cc: ∀z,(z^^^(2^n-1))^^^(2^n-1)=z:=fun z=>by rw [Nat.xor_assoc,Nat.xor_self,Nat.xor_zero]
  split at e<;>split at e
  ·left;rw [←cc x,e,cc]
  ·right;rw [←e,cc]
  ·right;exact e
  ·left;exact e
 rcases key _ _ (z8l h a) (z8l h b) e with e|e
 ·exact zds h ha hb e
 ·rw [←zdt h hb] at e
  have:=zds h ha (zko hb) e
  have h2:=congrArg (fun x=>x.testBit 0) this
  have h2:a.testBit 0=(b^^^(2^n-1)).testBit 0:=h2
  rw [zgc (by omega),ha0,hb0] at h2
  cases h2
theorem Sides.im {n:Nat} (h1:1≤n) {P:List Nat} (h:PermN n P) {ss:List Nat} (hs:Sides n ss):(∀v∈ss.map (imN P n),v<2^n∧v≠0∧v≠2^n-1)∧((ss.map (imN P n)).map (smlN n)).Nodup:=by
 constructor
 ·intro v hv
  rw [List.mem_map] at hv
  obtain ⟨s,hm,rfl⟩:=hv
  refine ⟨z8l h s,fun e=> ?_,fun e=> ?_⟩
  ·rw [←zh0 h] at e
   exact hs.ne s hm (zds h (hs.lt s hm) (Nat.two_pow_pos n) e)
  ·have e2:imN P n 0^^^(2^n-1)=2^n-1:=by rw [zh0 h,Nat.zero_xor]
   rw [←e2,←zdt h (Nat.two_pow_pos n),Nat.zero_xor] at e
   have:=zds h (hs.lt s hm) (by have:=Nat.two_pow_pos n;omega) e
   have h2:=hs.even s hm
   rw [this,zf7,decide_eq_true (by omega)] at h2
   cases h2
 ·rw [List.map_map,List.Nodup,List.pairwise_map]
  exact hs.nd.imp_of_mem (fun {a b} ha hb hab e=>hab (zne h1 h (hs.lt a ha) (hs.lt b hb) (hs.even a ha) (hs.even b hb) e))
theorem zkd {ss tt:List Nat} (hl:tt.length=ss.length)(i:Nat)(h: ∀j,j<ss.length→agN (tt.getD i 0) (tt.getD j 0)=agN (ss.getD i 0) (ss.getD j 0)):frN tt (tt.getD i 0)=frN ss (ss.getD i 0):=by
 apply Nat.eq_of_testBit_eq;intro x
 unfold frN
 rw [zdy,zdy,hl]
 by_cases hx:x<ss.length
 ·rw [h x hx]
 ·rw [decide_eq_false hx,Bool.false_and,Bool.false_and]
theorem zg0 {ss tt:List Nat} (hl:tt.length=ss.length)(h: ∀i j,i<ss.length→j<ss.length→agN (tt.getD i 0) (tt.getD j 0)=agN (ss.getD i 0) (ss.getD j 0)):mostW tt=mostW ss:=by
 unfold mostW
 have e:tt.map (frN tt)=ss.map (frN ss):=by
  apply List.ext_getElem (by rw [lm_,lm_,hl])
  intro i h1 h2
  rw [List.getElem_map,List.getElem_map]
  rw [lm_] at h1 h2
  have:=zkd hl i (fun j hj=>h i j h2 hj)
  rwa [List.getD_eq_getElem?_getD,List.getD_eq_getElem?_getD,List.getElem?_eq_getElem h1,List.getElem?_eq_getElem h2] at this
 rw [e,hl]
theorem zf5 {α:Type} (f:α→Nat)(l:List α)(i:Nat)(h:i<l.length):(l.map f).getD i 0=f l[i]:=by simp [List.getD_eq_getElem?_getD,h]
theorem ag_im {n:Nat} (h1:1≤n)(hn:n≤8) {P:List Nat} (h:PermN n P) {ss:List Nat} (hs:Sides n ss)(i j:Nat)(hi:i<ss.length)(hj:j<ss.length):agN (((ss.map (imN P n)).map (smlN n)).getD i 0) (((ss.map (imN P n)).map (smlN n)).getD j 0)=agN (ss.getD i 0) (ss.getD j 0):=by
 rw [List.map_map,zf5 _ _ _ hi,zf5 _ _ _ hj]
 have gi:ss.getD i 0=ss[i]:=by simp [List.getD_eq_getElem?_getD,hi]
 have gj:ss.getD j 0=ss[j]:=by simp [List.getD_eq_getElem?_getD,hj]
 rw [gi,gj]
 exact agN_im h1 hn h (hs.lt _ (List.getElem_mem hi)) (hs.lt _ (List.getElem_mem hj)) (hs.even _ (List.getElem_mem hi)) (hs.even _ (List.getElem_mem hj))
theorem zo4 {n:Nat} (h1:1≤n)(hn:n≤8) {P:List Nat} (h:PermN n P) {ss:List Nat} (hs:Sides n ss):mostW ((ss.map (imN P n)).map (smlN n))=mostW ss:=
 zg0 (by simp) (fun i j hi hj=>ag_im h1 hn h hs i j hi hj)
theorem znc {n:Nat} (hn:n≤8) {P:List Nat} (h:PermN n P) {s:Nat} (hs:s<2^n):sortL ltI ((memb s).map fun a=>(P.getD a.toNat 0:Int))=memb (imN P n s):=by
 have h2n:2^n≤256:=Nat.pow_le_pow_right (n:=2) (by decide) hn
 have hml:=z8l h s
 have hmem: ∀x:Int,x∈((memb s).map fun a=>(P.getD a.toNat 0:Int))↔x∈memb (imN P n s):=by
  intro x
  rw [List.mem_map,z69 (by omega)]
  constructor
  ·rintro ⟨a,ha,rfl⟩
   obtain ⟨i,rfl,hi⟩:=(z69 (by omega) a).1 ha
   have hin:i<n:=by
    apply Decidable.byContradiction
    intro hh
    rw [za5 hs (by omega)] at hi;cases hi
   exact ⟨_,rfl,by rw [Int.toNat_natCast,z6h h s hin];exact hi⟩
  ·rintro ⟨j,rfl,hj⟩
   have hjn:j<n:=by
    apply Decidable.byContradiction
    intro hh
    rw [za5 hml (by omega)] at hj;cases hj
   obtain ⟨a,ha,rfl⟩:=h.onto hjn
   rw [z6h h s ha] at hj
   exact ⟨a,(z69 (by omega) _).2 ⟨a,rfl,hj⟩,by rw [Int.toNat_natCast]⟩
 have hnd:((memb s).map fun a=>(P.getD a.toNat 0:Int)).Nodup:=by
  rw [List.Nodup,List.pairwise_map]
  refine (zo5 s).imp_of_mem ?_
  intro a b ha hb hab e
  obtain ⟨i,rfl,hi⟩:=(z69 (by omega) a).1 ha
  obtain ⟨j,rfl,hj⟩:=(z69 (by omega) b).1 hb
  have hin: ∀k,s.testBit k=true→k<n:=fun k hk=>by
   apply Decidable.byContradiction
   intro hh
   rw [za5 hs (by omega)] at hk;cases hk
  rw [Int.toNat_natCast,Int.toNat_natCast] at e
  exact hab (by rw [h.inj (hin i hi) (hin j hj) (by omega)])
 apply zgf
 ·have h1:=zeg (lt:=ltI) (fun a b hab=>by unfold ltI at*;rw [decide_eq_true_eq] at hab;rw [decide_eq_false_iff_not];omega) (fun a b c hab hbc=>by unfold ltI at*;rw [decide_eq_false_iff_not] at*;omega) ((memb s).map fun a=>(P.getD a.toNat 0:Int))
  have h2:(sortL ltI ((memb s).map fun a=>(P.getD a.toNat 0:Int))).Nodup:=(z9v ltI _).nodup_iff.2 hnd
  refine (h1.and h2).imp ?_
  intro a b hab
  obtain ⟨h3,h4⟩:=hab
  unfold ltI at h3
  rw [decide_eq_false_iff_not] at h3
  omega
 ·exact zdn _
 ·intro x
  rw [(z9v ltI _).mem_iff,hmem]
theorem zj9 {i:Nat} {Q:List Nat} (h:PermN i Q)(k:Nat)(hk:k≤i):PermN (i+1) (((Q++ [i]).set i ((Q++ [i]).getD k 0)).set k i):=by
 have hl:=h.len
 constructor
 by_cases e:k=i
 ·subst e
  have e1:(Q++ [k]).getD k 0=k:=by rw [List.getD_eq_getElem?_getD,List.getElem?_append_right (by omega),hl,Nat.sub_self];rfl
  rw [e1,List.range_succ]
  have e2: ∀v,(Q++ [v]).set k k=Q++ [k]:=fun v=>by rw [List.set_append_right _ _ (by omega),hl,Nat.sub_self];rfl
  rw [e2,e2]
  exact h.pm.append_right _
 ·have hk2:k<Q.length:=by omega
  have e1:(Q++ [i]).getD k 0=Q[k]:=by rw [List.getD_eq_getElem?_getD,List.getElem?_append_left hk2,List.getElem?_eq_getElem hk2];rfl
  rw [e1]
  have e2:(Q++ [i]).set i Q[k]=Q++ [Q[k]]:=by rw [List.set_append_right _ _ (by omega),hl,Nat.sub_self];rfl
  rw [e2,List.set_append_left _ _ hk2,List.range_succ]
  have hQ:Q=Q.take k++Q[k]::Q.drop (k+1):=by rw [←List.drop_eq_getElem_cons,List.take_append_drop]
  have hs:Q.set k i=Q.take k++i::Q.drop (k+1):=by rw [List.set_eq_take_append_cons_drop,if_pos hk2]
  refine List.Perm.trans ?_ (h.pm.append_right [i])
  rw [hs]
  conv=>rhs;rw [hQ]
  rw [List.append_assoc,List.append_assoc]
  refine List.Perm.append_left _ ?_
  show (i::(Q.drop (k+1)++ [Q[k]])).Perm (Q[k]::(Q.drop (k+1)++ [i]))
  refine ((List.perm_append_singleton Q[k] _).cons i).trans ?_
  refine (List.Perm.swap Q[k] i _).trans ?_
  exact ((List.perm_append_singleton i _).symm).cons Q[k]
end Go.Proofs.YtdnmhlfjafjkbaaGreatDoor.Vm
namespace Go.Proofs.YtdnmhlfjafjkbaaGreatDoor.Vm
open Go Go.Ev
set_option maxRecDepth 100000
set_option maxHeartbeats 4000000
attribute [local go_sem] m_ x_ l_ k_ o_ t_ a_ s_ q_ b_ c_ u_ g_ z30 z09 z48 z12 z2v z04 z44 z0m z1d zw z23 z11 z2u z03 z43 z15 z2y z07 z46 z0n z1e zx z24 z0l z1c zu z21 z14 z2x z06 z1x z4o z0k z5k z16 z2z z08 z47 z17 z1k z0a z49 z10 z2t z02 z42 z13 z2w z05 z45 z22 z19 z1s z5t z5r z5s z4c z29 z2c z2b z2a z2m z2n z3n z4e z5y z0d z31 z1z z0r z27 z2p z2r z4l z4m z4k z2s z1b z0o z41 z1y z1a z0s zz z1f z0t z26 z5m z4a z0y z0i z0z pubs pub z5h params z1t z00 z0w z1u z2d z2o z5u untips untip z40 wantedAV setElems withO z5v z2j z2g z2f z4g z2i z2e z4f z2h List.replicate_succ List.replicate_zero opAV valAV aval avals ofVal Env.get setD canon gcAV renAll renEnv renStore renCells z52 cutSt okEnv okStore okRefs okRef z3m z62 z4p z61 z5z z60 z63 cellsEq cellEq isShift intOp boolOp z5o z5p z64 bne resAV tupAV z4d z72 z56 fins zam z5w z5x z55 z7i storeAV readCells putCells z4n z1w z0j fieldAddrAV z6w goI List.getElem?_cons_zero List.getElem?_cons_succ List.getElem?_nil Option.bind_some Option.map_some List.length_cons List.length_nil List.all_cons List.all_nil Bool.and_true Bool.true_and Bool.and_false Bool.false_and and_true true_and and_false false_and Bool.false_eq_true List.set_cons_zero List.set_cons_succ List.append_nil List.nil_append List.cons_append List.take_zero List.take_succ_cons List.take_nil List.drop_zero List.drop_succ_cons List.map_cons List.map_nil decide_true decide_false beq_self_eq_true Bool.not_true Bool.not_false or_true true_or or_false false_or Nat.zero_add Nat.add_zero Nat.le_refl Nat.lt_irrefl decide_eq_true_eq eq_self_iff_true not_true_eq_false not_false_eq_true List.getD_cons_zero z2q Nat.zero_le Nat.not_lt_zero Bool.true_beq Bool.false_beq beq_true beq_false ge_iff_le gt_iff_lt keepR keepT ownTop zan pus Option.map_none z1h z1g z4i z2k z4h Int.cast_ofNat_Int Nat.mul_one Nat.zero_mul Int.toNat_natCast Int.toNat_zero setParts withO2 hasKey z4j z4b z2l z28 z0q z0p zy z0v zl1 z3g z3y z3o z6p z6r z8k z59 z3t z38 z1o z5c z3v z3r z32 z3z z37 z5a z3u z33 z1m z5d z3w z5f z35 z36 z3x z1l z57 z3q z3p z58 Option.bind_none Bool.not_eq_true' decide_eq_false_iff_not Bool.and_eq_true Bool.or_eq_true Option.some.injEq Int.not_lt Int.not_le
attribute [local go_sem_proc] reduceIte Nat.reduceEqDiff Nat.reduceAdd Nat.reduceSub Nat.reduceLeDiff Nat.reduceLT reduceCtorEq Int.reduceLT Int.reduceLE Int.reduceEq Int.reduceBEq Int.reduceSub Int.reduceAdd Int.reduceMul Int.reduceNeg Int.reduceToNat Nat.reduceMul Nat.reduceBEq
attribute [local go_sem] m_ x_ l_ k_ o_ t_ a_ s_ q_ b_ c_ u_ g_ zp zb zm zq z3b z25 zd zf zi z8 zh z3e
theorem idxU (xs:List Nat)(i:Nat)(h:i<xs.length):(xs.map U)[i]? =some (U xs[i]):=by simp [h]
theorem zmw: ∀(X:List Nat),group false 1 X.length (X.map U)=X.map U
 | []=>rfl
 |x::r=>by
  have ih:=zmw r
  simp only [List.length_cons,List.map_cons,group,List.drop_succ_cons,List.drop_zero,ih]
  rfl
theorem zmy (l:Nat)(X:List Nat)(h:X≠[]):frzV l (X.map U) (.rsl l 0 X.length X.length 1 false)=sl 1 true (X.map U):=by
 simp only [frzV,lm_,List.drop_zero]
 rw [if_pos ⟨trivial,by omega,.inr trivial,Nat.le_refl _⟩,pubsU,zmw,zb1 (by simpa using h)]
theorem zot {S:List (List AV)} {l:Nat} {X:List Nat} (h:X≠[])(hl:S[l]? =some (X.map U))(v:Nat)(T:List Nat): ∃S',frzArgs (rslsOf [.rsl l 0 X.length X.length 1 false,U v]) [.rsl l 0 X.length X.length 1 false,U v] ⟨S,T⟩=([sl 1 true (X.map U),U v],⟨S',T⟩):=by
 have e1:=zmy l X h
 obtain ⟨x,r,rfl⟩: ∃x r,X=x::r:=by cases X with|nil=>exact absurd rfl h|cons x r=>exact ⟨x,r,rfl⟩
 have e2:frzV l (U x::List.map U r) (U v)=U v:=rfl
 simp only [List.map_cons] at hl e1
 simp only [rslsOf,frzArgs,List.map_cons,List.map_nil,frzA,frzL,hl,e1,e2]
 exact ⟨_,rfl⟩
theorem zm0 (S:List (List AV))(T:List Nat)(l:Nat)(xs:List Nat)(hl:S[l]? =some (xs.map U))(k:Nat)(hk:pure k=false)(caps:List AV)(hlen:xs.length<1000000)(p:Nat→Bool)(hc: ∀x∈xs,run L k (U x::caps) ⟨S,T⟩=some (B (p x),⟨S,T⟩))(lo hi:Nat)(i:Nat)(hok:i≤xs.length)(env:Env)(st:St)
  (hg:gcAV false lo hi (canon env [0,1,7,8]) st=([(0,.rsl l 0 xs.length xs.length 1 false),(1,.fn (.func k) [] caps),(7,J xs.length),(8,J i)],⟨S,T⟩)):
  ∃x_1 en s,lim (headed pure (run L) false [0,1,7,8] lp117_0 lo hi) env st=some (x_1,en,s)∧(s=⟨S,T⟩∧((x_1=.exit 0∧(xs.drop i).findIdx? p=none)∨(x_1=.ret∧∃j:Nat,(xs.drop i).findIdx? p=some j∧en.get 4=J (i+j)))):=by
 refine z9 (α:=Nat) (fun i=>xs.length-i) (fun i=>i≤xs.length) (fun i=>([(0,.rsl l 0 xs.length xs.length 1 false),(1,.fn (.func k) [] caps),(7,J xs.length),(8,J i)],⟨S,T⟩)) (fun i x_1 en s=>s=⟨S,T⟩∧((x_1=.exit 0∧(xs.drop i).findIdx? p=none)∨(x_1=.ret∧∃j:Nat,(xs.drop i).findIdx? p=some j∧en.get 4=J (i+j)))) (fun i hok=> ?_) i hok env st hg
 by_cases h:i<xs.length
 ·have hx:=idxU xs i h
  have hs:=ze i (by omega)
  have hd:xs.drop i=xs[i]::xs.drop (i+1):=List.drop_eq_getElem_cons h
  have hcall:=hc xs[i] (List.getElem_mem h)
  have hlt:((i:Int)<(xs.length:Int))=True:=eT (by omega)
  have hi1:(i<xs.length)=True:=eT (by omega)
  have hi2:(i+1≤xs.length)=True:=eT (by omega)
  rw [hd,List.findIdx?_cons]
  generalize xs[i]=a at*
  cases hp:p a with
  |true=>
   rw [hp] at hcall
   simp only [go_sem,lp117_0,hl,hx,hlt,hi1,hi2,hk,hcall,nn_,lm_]
   exact ⟨0,rfl,rfl⟩
  |false=>
   rw [hp] at hcall
   simp only [go_sem,lp117_0,hl,hx,hlt,hi1,hi2,hk,hcall,hs,nn_,lm_]
   refine ⟨i+1,by simp only [go_sem,z3,z4,z5]<;>rfl,?_,?_,fun x en s hq=> ?_⟩
   ·omega
   ·omega
   ·obtain ⟨rfl,hq⟩:=hq
    refine ⟨rfl,?_⟩
    rcases hq with ⟨rfl,hq⟩ | ⟨rfl,j,hq,hj⟩
    ·left;rw [hq];exact ⟨rfl,rfl⟩
    ·right;refine ⟨rfl,j+1,by rw [hq];rfl,?_⟩
     rw [hj,show i+1+j=i+(j+1) by omega]
 ·have hd:xs.drop i=[]:=List.drop_eq_nil_of_le (by omega)
  have hlt:((i:Int)<(xs.length:Int))=False:=eF (by omega)
  rw [hd]
  simp only [go_sem,lp117_0,hlt]
  trivial
theorem c117r (S:List (List AV))(T:List Nat)(l:Nat)(xs:List Nat)(hl:S[l]? =some (xs.map U))(k:Nat)(hk:pure k=false)(caps:List AV)(hlen:xs.length<1000000)(p:Nat→Bool)(hc: ∀x∈xs,run L k (U x::caps) ⟨S,T⟩=some (B (p x),⟨S,T⟩)):
  run L 117 [.rsl l 0 xs.length xs.length 1 false,.fn (.func k) [] caps] ⟨S,T⟩=some (I (idxF p xs),⟨S,T⟩):=by
 rw [z6 (fn:=ir117) rfl rfl]
 simp only [ir117,go_sem]
 generalize hg:lim (headed pure (run L) false _ lp117_0 _ _) _ _=o
 obtain ⟨x,en,s,rfl,h2⟩: ∃x en s,o=some (x,en,s)∧_:=by rw [←hg];exact zm0 S T l xs hl k hk caps hlen p hc _ _ 0 (by omega) _ _ (by simp only [go_sem]<;>rfl)
 clear hg
 obtain ⟨rfl,h2⟩:=h2
 rw [List.drop_zero] at h2
 unfold idxF
 rcases h2 with ⟨rfl,h2⟩ | ⟨rfl,j,h2,hj⟩
 ·rw [h2]
  simp only [go_sem]
 ·rw [h2]
  rw [Nat.zero_add] at hj
  simp only [go_sem,hj]
theorem c56r (S:List (List AV))(T:List Nat)(l:Nat)(xs:List Nat)(hl:S[l]? =some (xs.map U))(k:Nat)(hk:pure k=false)(caps:List AV)(hlen:xs.length<1000000)(p:Nat→Bool)(hc: ∀x∈xs,run L k (U x::caps) ⟨S,T⟩=some (B (p x),⟨S,T⟩)):
  run L 56 [.rsl l 0 xs.length xs.length 1 false,.fn (.func k) [] caps] ⟨S,T⟩=some (B (xs.any p),⟨S,T⟩):=by
 have h:=c117r S T l xs hl k hk caps hlen p hc
 rw [z6 (fn:=ir56) rfl rfl]
 simp only [ir56,go_sem,h,zdu]
theorem c107r (S:List (List AV))(T:List Nat)(l:Nat)(a b:Nat)(ha:a<256)(hb:b<256)(hl:S[l]? =some [U b]):run L 107 [U a,.ptr l 0] ⟨S,T⟩=some (B (!agN a b),⟨S,T⟩):=by
 rw [z6 (fn:=ir107) rfl rfl]
 have h:=fun st=>c41 a b ha hb st
 cases hh:agN a b<;>rw [hh] at h<;>simp only [ir107,go_sem,h,hl]
def mU (o:List Nat):AV:=if o=[] then .v (.slice none 0 0) else .rsl 1 0 o.length o.length 1 false
def mS (o:List Nat):List (List AV):=if o=[] then [] else [o.map U]
theorem zo8 {o:List Nat} (h:o≠[]):mU o=.rsl 1 0 o.length o.length 1 false:=if_neg h
theorem zo9 {o:List Nat} (h:o≠[]):mS o=[o.map U]:=if_neg h
theorem hapU0 (S:List (List AV))(v:Nat):appendmAV 1 false (.v (.slice none 0 0)) [U v] ⟨S,[]⟩=some (.rsl S.length 0 1 1 1 false,⟨S++ [[U v]],[]⟩):=by
 simp only [appendmAV,newM]
 rw [if_pos (by unfold maxGrow;simp)]
 rfl
theorem hapU (S:List (List AV))(l:Nat)(o:List Nat)(v:Nat)(hl:S[l]? =some (o.map U))(h:o≠[])(h2:o.length≤1000):appendmAV 1 false (.rsl l 0 o.length o.length 1 false) [U v] ⟨S,[]⟩=some (.rsl S.length 0 (o.length+1) (o.length+1) 1 false,⟨S.set l []++ [(o++ [v]).map U],[]⟩):=by
 have htk:(o.map U).take o.length=o.map U:=List.take_of_length_le (by simp)
 have hp:1≤o.length:=List.length_pos_iff.2 h
 simp only [appendmAV,hl,lm_,List.length_cons,List.length_nil,Nat.mul_one,htk]
 rw [if_pos ⟨trivial,trivial,Nat.le_refl _,by omega,by omega⟩,if_neg (by omega),if_pos ⟨trivial,by unfold maxGrow;omega,by omega⟩]
 simp [flatAV]
 rfl
theorem zai (n:Nat)(acc:List Nat)(a g:Nat)(zs:List Nat)(m w:Nat):refsL n acc (cutC a g zs m w)=acc:=(zid a g zs m w).refs n acc
theorem zaj (n:Nat)(M:List Nat)(a g:Nat)(zs:List Nat)(m w:Nat):mapLs n M (cutC a g zs m w)=cutC a g zs m w:=by
 have h:=(zid a g zs m w).maps n M
 simpa [mapStore] using h
theorem loop38 (n:Nat)(hn:n≤8)(a g:Nat)(zs:List Nat)(hz:zs.length=13)(hzs: ∀z∈zs,z<256)(m w k:Nat)(hk:k≤13)(i:Nat)(o:List Nat)(hok:i≤k∧o.length≤i∧∀y∈o,y<256)(env:Env)(st:St)
  (hg:gcAV true 1 0 (canon env [2,6,7,23,24,25,3000000]) st=([(2,.ptr 0 0),(6,J n),(7,mU o),(23,.rsl 0 2 k 13 1 false),(24,J k),(25,J i),(3000000,.any)],⟨cutC a g zs m w::mS o,[]⟩)):
  ∃x_1 en s,lim (headed pure (run L) true [2,6,7,23,24,25,3000000] lp38_0 1 0) env st=some (x_1,en,s)∧(x_1=.exit 0∧en.get 6=J n∧en.get 7=mU (((zs.take k).drop i).foldl (mkS n g) o)∧s=⟨cutC a g zs m w::mS (((zs.take k).drop i).foldl (mkS n g) o),[]⟩):=by
 refine z9 (α:=Nat×List Nat) (fun ⟨i,o⟩=>k-i) (fun ⟨i,o⟩=>i≤k∧o.length≤i∧∀y∈o,y<256) (fun ⟨i,o⟩=>([(2,.ptr 0 0),(6,J n),(7,mU o),(23,.rsl 0 2 k 13 1 false),(24,J k),(25,J i),(3000000,.any)],⟨cutC a g zs m w::mS o,[]⟩)) (fun ⟨i,o⟩ x_1 en s=>x_1=.exit 0∧en.get 6=J n∧en.get 7=mU (((zs.take k).drop i).foldl (mkS n g) o)∧s=⟨cutC a g zs m w::mS (((zs.take k).drop i).foldl (mkS n g) o),[]⟩) (fun ⟨i,o⟩ hok=> ?_) ⟨i,o⟩ hok env st hg
 simp only at hok
 obtain ⟨h1,h2,h3⟩:=hok
 dsimp only at h1 h2 h3⊢
 by_cases h:i<k
 ·have hs:=ze i (by omega)
  have hlt:((i:Int)<(k:Int))=True:=eT (by omega)
  have hd:(zs.take k).drop i=zs.getD i 0::(zs.take k).drop (i+1):=by
   rw [List.drop_eq_getElem_cons (by rw [List.length_take];omega)]
   congr 1
   rw [List.getElem_take];simp [List.getD_eq_getElem?_getD,show i<zs.length by omega]
  have hz2:=cutZ a g zs hz m w i (by omega)
  have hg1:=cut1 a g zs m w
  have hx:zs.getD i 0<256:=by
   rw [List.getD_eq_getElem?_getD,List.getElem?_eq_getElem (by omega)]
   exact hzs _ (List.getElem_mem _)
  rw [hd,List.foldl_cons]
  generalize zs.getD i 0=x at*
  have hsm:=zmr hn x
  have hl:=zjh n g o x
  have hl2:=mkS_lt hn g o h3 x
  have hw:=z8i x (by omega)
  have hsh:=shlU n hn
  have hfu:=fullU n hn
  have h2n:2^n≤256:=Nat.pow_le_pow_right (n:=2) (by decide) hn
  have hp:0<2^n:=Nat.two_pow_pos n
  have ha:=zmo x (2^n-1) (by omega) (by omega)
  have hb:binAV .andNot none (U (x&&&(2^n-1))) (.v (.int .u64 1))=some (U (dfN (x&&&(2^n-1)) 1)):=dfU (x&&&(2^n-1)) 1 (Nat.lt_of_le_of_lt Nat.and_le_left (by omega)) (by omega)
  have he:mkS n g o x=if smN n x=0 then o else if smN n x∈o then o else if g % 2=1∧o.any (fun y=> !agN y (smN n x))=true then o else o++ [smN n x]:=rfl
  have hse:dfN (x&&&(2^n-1)) 1=smN n x:=rfl
  rw [hse] at hb
  rw [he] at hl hl2⊢
  generalize smN n x=v at*
  have h55: ∀st,run L 55 [sl 1 true (o.map U),U v] st=some (B (decide (v∈o)),st):=fun st=>c55 true o (by omega) v st
  have hr:binAV .rem none (u8 g) (.v (.int .u8 2))=some (u8 (g % 2)):=rem8 g 2 (by omega)
  have hp55:pure 55=true:=rfl
  have hp56:pure 56=false:=rfl
  have hpr: ∀b,plainR (B b)=true:=fun _=>rfl
  by_cases ho:o=[]
  ·subst ho
   have eU:mU []=.v (.slice none 0 0):=rfl
   have eS:mS []=[]:=rfl
   have h55: ∀st,run L 55 [.v (.slice none 0 0),U v] st=some (B (decide (v∈([]:List Nat))),st):=h55
   have hfr: ∀st,frzArgs (rslsOf [.v (.slice none 0 0),U v]) [.v (.slice none 0 0),U v] st=([.v (.slice none 0 0),U v],st):=fun _=>rfl
   have h56:=c56 ⟨[cutC a g zs m w,[U v]],[]⟩ 107 rfl [.ptr 1 0] (.v (.slice none 0 0)) [] (by simp) rfl (fun i h=>absurd h (by simp)) (fun y=> !agN y v) (fun y hy=>absurd hy (by simp))
   have happ:=hapU0 [cutC a g zs m w,[U v]] v
   rw [eU,eS]
   by_cases p1:v=0
   ·subst p1
    rw [if_pos rfl]
    simp only [go_sem,lp38_0,hlt,nn_,hs,hz2,hw,hsh,hfu,ha,hb,Int.natCast_zero]
    refine ⟨(i+1,[]),by simp only [go_sem,z3,z4,z5,eU,eS,z39,z0e,zai,zaj,z5l,z5q,z5n,z20,compact,compactW,refsEnv,refsV,refsL,refsStore,refsAt,mapEnv,mapL,mapLs,newName,posOf,mapStore,pickStore,namesOk,zt,z0g,List.contains_nil,List.contains_cons,Option.getD_some,hasKey]<;>rfl,?_,?_,fun x en s hq=> ?_⟩
    ·dsimp only;exact ⟨by omega,by simp,h3⟩
    ·dsimp only;omega
    ·exact hq
   ·have q1:((v:Int)=0)=False:=eF (by omega)
    have p2:(v∈([]:List Nat))=False:=eF (by simp)
    have h55: ∀st,run L 55 [.v (.slice none 0 0),U v] st=some (B false,st):=h55
    have h56:run L 56 [.v (.slice none 0 0),.fn (.func 107) [] [.ptr 1 0]] ⟨[cutC a g zs m w,[U v]],[]⟩=some (B false,⟨[cutC a g zs m w,[U v]],[]⟩):=h56
    rw [if_neg p1,if_neg (by simp),if_neg (by simp)] at hl hl2⊢
    rw [List.nil_append] at hl hl2⊢
    have eU1:mU [v]=.rsl 1 0 1 1 1 false:=rfl
    have eS1:mS [v]=[[U v]]:=rfl
    by_cases p3:g % 2=1
    ·have q3:(((g % 2:Nat):Int)=1)=True:=eT (by omega)
     simp only [go_sem,lp38_0,hlt,nn_,hs,hz2,hw,hsh,hfu,ha,hb,hg1,q1,h55,hp55,hpr,hp56,hfr,hr,q3,h56,happ,Int.cast_ofNat_Int]
     refine ⟨(i+1,[v]),by simp only [go_sem,z3,z4,z5,eU1,eS1,z39,z0e,zai,zaj,z5l,z5q,z5n,z20,compact,compactW,refsEnv,refsV,refsL,refsStore,refsAt,mapEnv,mapL,mapLs,newName,posOf,mapStore,pickStore,namesOk,zt,z0g,List.contains_nil,List.contains_cons,Option.getD_some,hasKey]<;>rfl,?_,?_,fun x en s hq=> ?_⟩
     ·dsimp only;exact ⟨by omega,by simp,hl2⟩
     ·dsimp only;omega
     ·exact hq
    ·have q3:(((g % 2:Nat):Int)=1)=False:=eF (by omega)
     simp only [go_sem,lp38_0,hlt,nn_,hs,hz2,hw,hsh,hfu,ha,hb,hg1,q1,h55,hp55,hpr,hp56,hfr,hr,q3,happ]
     refine ⟨(i+1,[v]),by simp only [go_sem,z3,z4,z5,eU1,eS1,z39,z0e,zai,zaj,z5l,z5q,z5n,z20,compact,compactW,refsEnv,refsV,refsL,refsStore,refsAt,mapEnv,mapL,mapLs,newName,posOf,mapStore,pickStore,namesOk,zt,z0g,List.contains_nil,List.contains_cons,Option.getD_some,hasKey]<;>rfl,?_,?_,fun x en s hq=> ?_⟩
     ·dsimp only;exact ⟨by omega,by simp,hl2⟩
     ·dsimp only;omega
     ·exact hq
  ·have eU:=zo8 ho
   have eS:=zo9 ho
   obtain ⟨S',hfr⟩:=zot (S:=[cutC a g zs m w,o.map U,[U v]]) (l:=1) ho rfl v []
   have h56:=c56r [cutC a g zs m w,o.map U,[U v]] [] 1 o rfl 107 rfl [.ptr 2 0] (by omega) (fun y=> !agN y v) (fun y hy=>c107r _ _ 2 y v (h3 y hy) hsm rfl)
   have happ:=hapU [cutC a g zs m w,o.map U,[U v]] 1 o v rfl ho (by omega)
   rw [eU,eS]
   by_cases p1:v=0
   ·subst p1
    rw [if_pos rfl]
    simp only [go_sem,lp38_0,hlt,nn_,hs,hz2,hw,hsh,hfu,ha,hb,Int.natCast_zero]
    refine ⟨(i+1,o),by simp only [go_sem,z3,z4,z5,eU,eS,z39,z0e,zai,zaj,z5l,z5q,z5n,z20,compact,compactW,refsEnv,refsV,refsL,refsStore,refsAt,mapEnv,mapL,mapLs,newName,posOf,mapStore,pickStore,namesOk,zt,z0g,List.contains_nil,List.contains_cons,Option.getD_some,hasKey]<;>rfl,?_,?_,fun x en s hq=> ?_⟩
    ·dsimp only;exact ⟨by omega,by omega,h3⟩
    ·dsimp only;omega
    ·exact hq
   ·have q1:((v:Int)=0)=False:=eF (by omega)
    rw [if_neg p1] at hl hl2⊢
    by_cases p2:v∈o
    ·rw [if_pos p2]
     simp only [go_sem,lp38_0,hlt,nn_,hs,hz2,hw,hsh,hfu,ha,hb,q1,h55,hp55,hpr,hfr,p2]
     refine ⟨(i+1,o),by simp only [go_sem,z3,z4,z5,eU,eS,z39,z0e,zai,zaj,z5l,z5q,z5n,z20,compact,compactW,refsEnv,refsV,refsL,refsStore,refsAt,mapEnv,mapL,mapLs,newName,posOf,mapStore,pickStore,namesOk,zt,z0g,List.contains_nil,List.contains_cons,Option.getD_some,hasKey]<;>rfl,?_,?_,fun x en s hq=> ?_⟩
     ·dsimp only;exact ⟨by omega,by omega,h3⟩
     ·dsimp only;omega
     ·exact hq
    ·rw [if_neg p2] at hl hl2⊢
     have eU1:mU (o++ [v])=.rsl 1 0 (o.length+1) (o.length+1) 1 false:=by rw [zo8 (by simp)];simp
     have eS1:mS (o++ [v])=[(o++ [v]).map U]:=zo9 (by simp)
     by_cases p3:g % 2=1
     ·have q3:(((g % 2:Nat):Int)=1)=True:=eT (by omega)
      cases p4:o.any (fun y=> !agN y v) with
      |true=>
       rw [p4] at h56 hl hl2
       rw [if_pos ⟨p3,rfl⟩] at hl hl2⊢
       simp only [go_sem,lp38_0,hlt,nn_,hs,hz2,hw,hsh,hfu,ha,hb,hg1,q1,h55,hp55,hpr,hp56,hfr,p2,hr,q3,h56,Int.cast_ofNat_Int]
       refine ⟨(i+1,o),by simp only [go_sem,z3,z4,z5,eU,eS,z39,z0e,zai,zaj,z5l,z5q,z5n,z20,compact,compactW,refsEnv,refsV,refsL,refsStore,refsAt,mapEnv,mapL,mapLs,newName,posOf,mapStore,pickStore,namesOk,zt,z0g,List.contains_nil,List.contains_cons,Option.getD_some,hasKey]<;>rfl,?_,?_,fun x en s hq=> ?_⟩
       ·dsimp only;exact ⟨by omega,by omega,h3⟩
       ·dsimp only;omega
       ·exact hq
      |false=>
       rw [p4] at h56 hl hl2
       rw [if_neg (by simp)] at hl hl2⊢
       simp only [go_sem,lp38_0,hlt,nn_,hs,hz2,hw,hsh,hfu,ha,hb,hg1,q1,h55,hp55,hpr,hp56,hfr,p2,hr,q3,h56,happ]
       refine ⟨(i+1,o++ [v]),by simp only [go_sem,z3,z4,z5,eU1,eS1,z39,z0e,zai,zaj,z5l,z5q,z5n,z20,compact,compactW,refsEnv,refsV,refsL,refsStore,refsAt,mapEnv,mapL,mapLs,newName,posOf,mapStore,pickStore,namesOk,zt,z0g,List.contains_nil,List.contains_cons,Option.getD_some,hasKey]<;>rfl,?_,?_,fun x en s hq=> ?_⟩
       ·dsimp only;exact ⟨by omega,by omega,hl2⟩
       ·dsimp only;omega
       ·exact hq
     ·have q3:(((g % 2:Nat):Int)=1)=False:=eF (by omega)
      rw [if_neg (fun hh=>p3 hh.1)] at hl hl2⊢
      simp only [go_sem,lp38_0,hlt,nn_,hs,hz2,hw,hsh,hfu,ha,hb,hg1,q1,h55,hp55,hpr,hp56,hfr,p2,hr,q3,happ]
      refine ⟨(i+1,o++ [v]),by simp only [go_sem,z3,z4,z5,eU1,eS1,z39,z0e,zai,zaj,z5l,z5q,z5n,z20,compact,compactW,refsEnv,refsV,refsL,refsStore,refsAt,mapEnv,mapL,mapLs,newName,posOf,mapStore,pickStore,namesOk,zt,z0g,List.contains_nil,List.contains_cons,Option.getD_some,hasKey]<;>rfl,?_,?_,fun x en s hq=> ?_⟩
      ·dsimp only;exact ⟨by omega,by omega,hl2⟩
      ·dsimp only;omega
      ·exact hq
 ·have hd:(zs.take k).drop i=[]:=List.drop_eq_nil_of_le (by rw [List.length_take];omega)
  have hlt:((i:Int)<(k:Int))=False:=eF (by omega)
  rw [hd]
  simp only [go_sem,lp38_0,hlt]
  try trivial
theorem c38 (a g:Nat)(ha:a<256)(zs:List Nat)(hz:zs.length=13)(hzs: ∀z∈zs,z<256)(m w:Nat)(hm:m<256)(M d:Nat)(hM:(M=6∧d=5)∨(M=7∧d=6)∨(M=8∧d=7)):
  run L 38 [cutAV a g zs m w,J M] ⟨[],[]⟩=some (.tup [J (2+a % d),mU (madeS (2+a % d) g zs (m % 14))],⟨cutC a g zs m w::mS (madeS (2+a % d) g zs (m % 14)),[]⟩):=by
 rw [z6 (fn:=ir38) rfl rfl]
 have h0:=cut0 a g zs m w
 have h15:=cut15 a g zs hz m w
 have hw:=w64 a (by omega)
 have hwm:=w64 m (by omega)
 have hd:0<d∧d<8:=by omega
 have hmd:IntKind.i64.wrap ((M:Int)-1)=(d:Int):=by
  rw [←w64 d (by omega)];congr 1;omega
 have hr:=remJ a d (by omega)
 have hlt:=Nat.mod_lt a hd.1
 have hn:IntKind.i64.wrap (2+((a % d:Nat):Int))=((2+a % d:Nat):Int):=by
  rw [←w64 (2+a % d) (by omega)];congr 1
 have hrm:binAV .rem none (J m) (I 14)=some (J (m % 14)):=remJ m 14 (by omega)
 have hk:m % 14≤13:=by omega
 have hl:(cutC a g zs m w).length=17:=lenC a g zs hz m w
 have e:madeS (2+a % d) g zs (m % 14)=(((zs.take (m % 14)).drop 0).foldl (mkS (2+a % d) g) []):=rfl
 rw [e]
 generalize m % 14=k at*
 generalize a % d=q at*
 have hsl:sliceaAV 13 1 false (.ptr 0 2) none (some (.v (.int .i64 (k:Int)))) none=some (.rsl 0 2 k 13 1 false):=by
  simp only [sliceaAV,natOr,natOf]
  simp;omega
 have hun:cutAV a g zs m w=.agg (cutC a g zs m w):=rfl
 have e1:mU []=.v (.slice none 0 0):=rfl
 have e2:mS []=[]:=rfl
 simp only [ir38,hun,go_sem,z39,z0e,zln,z8x,h0,h15,hw,hwm,hmd,hr,hn,hrm,hsl,hl]
 generalize hg:lim (headed pure (run L) true _ lp38_0 _ _) _ _=o
 obtain ⟨x,en,s,rfl,h2⟩: ∃x en s,o=some (x,en,s)∧_:=by rw [←hg];exact loop38 (2+q) (by omega) a g zs hz hzs m w k hk 0 [] ⟨by omega,by simp,by simp⟩ _ _ (by simp only [go_sem,e1,e2,z39,z0e,zai,zaj,z5l,z5q,z5n,z20,compact,compactW,refsEnv,refsV,refsL,refsStore,refsAt,mapEnv,mapL,mapLs,newName,posOf,mapStore,pickStore,namesOk,zt,z0g,List.contains_nil,List.contains_cons,Option.getD_some,hasKey,Int.natCast_zero]<;>rfl)
 clear hg
 obtain ⟨rfl,h6,h7,rfl⟩:=h2
 simp only [go_sem,h6,h7]
attribute [local go_sem] m_ x_ l_ k_ o_ t_ a_ s_ q_ b_ c_ u_ g_ zp zb zm zq z3b z25 zd zf zi z8 zh z3e
theorem zdj (n:Nat): ∀(X:List Nat) (acc:List Nat),refsL n acc (X.map tM)=acc
 | [],acc=>rfl
 |x::r,acc=>by
  have h:refsV n acc (tM x)=acc:=zt n acc 1 true _
  simp only [List.map_cons,refsL,h,zdj n r]
theorem zdp (n:Nat)(M:List Nat): ∀(X:List Nat),mapLs n M (X.map tM)=X.map tM
 | []=>rfl
 |x::r=>by
  have h:mapL n M (tM x)=tM x:=z0g n M 1 true _
  simp only [List.map_cons,mapLs,h,zdp n M r]
theorem zdl (n:Nat)(X:List Nat):okRefs n (X.map tM)=true:=z4s tM n (fun _=>zh _ _) X
theorem z9z (n:Nat)(T:List Nat)(acc:List (Nat×Nat))(X:List Nat):renCells n T acc (X.map tM)=(X.map tM,acc):=z1v tM n T (fun _ acc=>z3d n T _ acc) X acc
def qU (X:List Nat):AV:=if X=[] then .v (.slice none 0 0) else .rsl 1 0 X.length X.length 1 false
def qS (X:List Nat):List (List AV):=if X=[] then [] else [X.map tM]
theorem zlk {o:List Nat} (h:o≠[]):qU o=.rsl 1 0 o.length o.length 1 false:=if_neg h
theorem zll {o:List Nat} (h:o≠[]):qS o=[o.map tM]:=if_neg h
theorem happT0 (S:List (List AV))(v:Nat):appendmAV 1 false (.v (.slice none 0 0)) [tM v] ⟨S,[]⟩=some (.rsl S.length 0 1 1 1 false,⟨S++ [[tM v]],[]⟩):=by
 have h:(tM v).cells=[tM v]:=zf _
 simp only [appendmAV,newM]
 rw [if_pos (by unfold maxGrow;simp)]
 simp [flatAV,h]
theorem happT (S:List (List AV))(l:Nat)(o:List Nat)(v:Nat)(hl:S[l]? =some (o.map tM))(h:o≠[])(h2:o.length≤1000):appendmAV 1 false (.rsl l 0 o.length o.length 1 false) [tM v] ⟨S,[]⟩=some (.rsl S.length 0 (o.length+1) (o.length+1) 1 false,⟨S.set l []++ [(o++ [v]).map tM],[]⟩):=by
 have htk:(o.map tM).take o.length=o.map tM:=List.take_of_length_le (by simp)
 have hp:1≤o.length:=List.length_pos_iff.2 h
 have hc:(tM v).cells=[tM v]:=zf _
 simp only [appendmAV,hl,lm_,List.length_cons,List.length_nil,Nat.mul_one,htk]
 rw [if_pos ⟨trivial,trivial,Nat.le_refl _,by omega,by omega⟩,if_neg (by omega),if_pos ⟨trivial,by unfold maxGrow;omega,by omega⟩]
 simp [flatAV,hc]
theorem loop39 (n:Nat)(hn:n≤8)(a g:Nat)(zs:List Nat)(hz:zs.length=13)(m w:Nat)(nl:Bool)(ss:List Nat)(hss: ∀s∈ss,s<256)(hsl:ss.length≤16)(i:Nat)(X:List Nat)(hok:i≤ss.length∧X.length≤i)(env:Env)(st:St)
  (hg:gcAV true 1 0 (canon env [1,3,7,10,11,12,3000000]) st=([(1,J n),(3,.ptr 0 0),(7,qU X),(10,sl 1 nl (ss.map U)),(11,J ss.length),(12,J i),(3000000,.any)],⟨cutC a g zs m w::qS X,[]⟩)):
  ∃x_1 en s,lim (headed pure (run L) true [1,3,7,10,11,12,3000000] lp39_0 1 0) env st=some (x_1,en,s)∧(x_1=.exit 0∧en.get 7=qU (X++toldL n w i (ss.drop i))∧s=⟨cutC a g zs m w::qS (X++toldL n w i (ss.drop i)),[]⟩):=by
 refine z9 (α:=Nat×List Nat) (fun ⟨i,X⟩=>ss.length-i) (fun ⟨i,X⟩=>i≤ss.length∧X.length≤i) (fun ⟨i,X⟩=>([(1,J n),(3,.ptr 0 0),(7,qU X),(10,sl 1 nl (ss.map U)),(11,J ss.length),(12,J i),(3000000,.any)],⟨cutC a g zs m w::qS X,[]⟩)) (fun ⟨i,X⟩ x_1 en s=>x_1=.exit 0∧en.get 7=qU (X++toldL n w i (ss.drop i))∧s=⟨cutC a g zs m w::qS (X++toldL n w i (ss.drop i)),[]⟩) (fun ⟨i,X⟩ hok=> ?_) ⟨i,X⟩ hok env st hg
 simp only at hok
 obtain ⟨h1,h2⟩:=hok
 dsimp only at h1 h2⊢
 by_cases h:i<ss.length
 ·have hs:=ze i (by omega)
  have hx:=z6x U nl ss i h
  have hlt:((i:Int)<(ss.length:Int))=True:=eT (by omega)
  have hd:ss.drop i=ss[i]::ss.drop (i+1):=List.drop_eq_getElem_cons h
  have hb:=hss ss[i] (List.getElem_mem h)
  rw [hd]
  generalize ss[i]=s at*
  have ht:toldL n w i (s::ss.drop (i+1))=flN n w i s::toldL n w (i+1) (ss.drop (i+1)):=rfl
  rw [ht]
  have h16:=cut16 a g zs hz m w
  have hsr:=shr16 w i (by omega)
  have ha1:=zp5 (w >>>i)
  have hsh:=shlU n hn
  have hfu:=fullU n hn
  have h2n:2^n≤256:=Nat.pow_le_pow_right (n:=2) (by decide) hn
  have hp:0<2^n:=Nat.two_pow_pos n
  have hxo:=xorU s (2^n-1) hb (by omega)
  have hf:=flN_lt hn w i s hb
  have e:flN n w i s=if w.testBit i=true then s^^^(2^n-1) else s:=rfl
  have hap: ∃r S2,(∀v,appendmAV 1 false (qU X) [tM v] ⟨cutC a g zs m w::qS X,[]⟩=some (.rsl r 0 (X.length+1) (X.length+1) 1 false,⟨S2++ [(X++ [v]).map tM],[]⟩))∧((X=[]∧r=1∧S2=[cutC a g zs m w])∨(X≠[]∧r=2∧S2=[cutC a g zs m w,[]])):=by
   by_cases hX:X=[]
   ·subst hX
    exact ⟨1,_,fun v=>happT0 _ v,.inl ⟨rfl,rfl,rfl⟩⟩
   ·rw [zlk hX,zll hX]
    exact ⟨2,_,fun v=>happT _ 1 X v rfl hX (by omega),.inr ⟨hX,rfl,rfl⟩⟩
  obtain ⟨r,S2,happ,hrS⟩:=hap
  have eU1: ∀v,qU (X++ [v])=.rsl 1 0 (X.length+1) (X.length+1) 1 false:=fun v=>by rw [zlk (by simp)];simp
  have eS1: ∀v,qS (X++ [v])=[(X++ [v]).map tM]:=fun v=>zll (by simp)
  by_cases p:w.testBit i=true
  ·rw [if_pos p] at e
   rw [e] at hf⊢
   have h40:=fun st=>c40 (s^^^(2^n-1)) (by omega) st
   generalize s^^^(2^n-1)=v at*
   rcases hrS with ⟨hX,rfl,rfl⟩ | ⟨hX,rfl,rfl⟩
   all_goals
    simp only [go_sem,lp39_0,hlt,nn_,hs,hx,h16,hsr,ha1,zkv,p,hsh,hfu,hxo,h40,happ]
    refine ⟨(i+1,X++ [v]),by simp only [go_sem,z3,z4,z5,eU1,eS1,z39,z0e,zai,zaj,zdj,zdp,zdl,z9z,z5l,z5q,z5n,z20,compact,compactW,refsEnv,refsV,refsL,refsStore,refsAt,mapEnv,mapL,mapLs,newName,posOf,mapStore,pickStore,namesOk,zt,z0g,List.contains_nil,List.contains_cons,Option.getD_some,hasKey]<;>rfl,?_,?_,fun x en s hq=> ?_⟩
    ·dsimp only;exact ⟨by omega,by rw [List.length_append,List.length_singleton];omega⟩
    ·dsimp only;omega
    ·simp only [List.append_assoc,List.singleton_append] at hq;exact hq
  ·rw [if_neg p] at e
   rw [e] at hf⊢
   have h40:=fun st=>c40 s (by omega) st
   rcases hrS with ⟨hX,rfl,rfl⟩ | ⟨hX,rfl,rfl⟩
   all_goals
    simp only [go_sem,lp39_0,hlt,nn_,hs,hx,h16,hsr,ha1,zkv,p,h40,happ]
    refine ⟨(i+1,X++ [s]),by simp only [go_sem,z3,z4,z5,eU1,eS1,z39,z0e,zai,zaj,zdj,zdp,zdl,z9z,z5l,z5q,z5n,z20,compact,compactW,refsEnv,refsV,refsL,refsStore,refsAt,mapEnv,mapL,mapLs,newName,posOf,mapStore,pickStore,namesOk,zt,z0g,List.contains_nil,List.contains_cons,Option.getD_some,hasKey]<;>rfl,?_,?_,fun x en s hq=> ?_⟩
    ·dsimp only;exact ⟨by omega,by rw [List.length_append,List.length_singleton];omega⟩
    ·dsimp only;omega
    ·simp only [List.append_assoc,List.singleton_append] at hq;exact hq
 ·have hd:ss.drop i=[]:=List.drop_eq_nil_of_le (by omega)
  have hlt:((i:Int)<(ss.length:Int))=False:=eF (by omega)
  rw [hd]
  have e:toldL n w i []=[]:=rfl
  rw [e,List.append_nil]
  simp only [go_sem,lp39_0,hlt]
theorem c39 (n:Nat)(hn:n≤8)(a g:Nat)(zs:List Nat)(hz:zs.length=13)(m w:Nat)(nl:Bool)(ss:List Nat)(hss: ∀s∈ss,s<256)(hsl:ss.length≤16):
  run L 39 [cutAV a g zs m w,J n,sl 1 nl (ss.map U)] ⟨[],[]⟩=some (qU (toldL n w 0 ss),⟨cutC a g zs m w::qS (toldL n w 0 ss),[]⟩):=by
 rw [z6 (fn:=ir39) rfl rfl]
 have hun:cutAV a g zs m w=.agg (cutC a g zs m w):=rfl
 have hl:(cutC a g zs m w).length=17:=lenC a g zs hz m w
 have e1:qU []=.v (.slice none 0 0):=rfl
 have e2:qS []=[]:=rfl
 simp only [ir39,hun,go_sem,z39,z0e,zln,z8x,hl,lm_]
 generalize hg:lim (headed pure (run L) true _ lp39_0 _ _) _ _=o
 obtain ⟨x,en,s,rfl,h2⟩: ∃x en s,o=some (x,en,s)∧_:=by rw [←hg];exact loop39 n hn a g zs hz m w nl ss hss hsl 0 [] ⟨by omega,by simp⟩ _ _ (by simp only [go_sem,List.map_nil,e1,e2,z39,z0e,zai,zaj,zdj,zdp,zdl,z9z,z5l,z5q,z5n,z20,compact,compactW,refsEnv,refsV,refsL,refsStore,refsAt,mapEnv,mapL,mapLs,newName,posOf,mapStore,pickStore,namesOk,zt,z0g,List.contains_nil,List.contains_cons,Option.getD_some,hasKey,Int.natCast_zero]<;>rfl)
 clear hg
 obtain ⟨rfl,h7,rfl⟩:=h2
 rw [List.drop_zero,List.nil_append] at h7⊢
 simp only [go_sem,h7]
attribute [local go_sem] m_ x_ l_ k_ o_ t_ a_ s_ q_ b_ c_ u_ g_ zp zb zm zq z3b z25 zd zf zi z8 zh z3e
theorem getT (X:List Nat)(i:Nat)(x:Nat)(h:X[i]? =some x):(X.map tM)[i]? =some (tM x):=by
 rw [List.getElem?_map,h];rfl
theorem loop64 (S0:List (List AV))(T:List Nat)(l:Nat)(hl:l<S0.length)(n:Nat)(hn:n≤1000)(lo hi:Nat)(A:List Nat)(N:List Nat)(C:List Nat)(hok:A.length=C.length∧A.length+N.length+C.length=n)(env:Env)(st:St)
  (hg:gcAV false lo hi (canon env [0,2,3]) st=([(0,.rsl l 0 n n 1 false),(2,J A.length),(3,I ((A.length:Int)+N.length-1))],⟨S0.set l ((A++N++C).map tM),T⟩)):
  ∃x_1 en s,lim (headed pure (run L) false [0,2,3] lp64_0 lo hi) env st=some (x_1,en,s)∧(x_1=.exit 0∧s=⟨S0.set l ((A++N.reverse++C).map tM),T⟩):=by
 refine z9 (α:=List Nat×List Nat×List Nat) (fun ⟨A,N,C⟩=>N.length) (fun ⟨A,N,C⟩=>A.length=C.length∧A.length+N.length+C.length=n) (fun ⟨A,N,C⟩=>([(0,.rsl l 0 n n 1 false),(2,J A.length),(3,I ((A.length:Int)+N.length-1))],⟨S0.set l ((A++N++C).map tM),T⟩)) (fun ⟨A,N,C⟩ x_1 en s=>x_1=.exit 0∧s=⟨S0.set l ((A++N.reverse++C).map tM),T⟩) (fun ⟨A,N,C⟩ hok=> ?_) ⟨A,N,C⟩ hok env st hg
 simp only at hok
 obtain ⟨h1,h2⟩:=hok
 dsimp only at h1 h2⊢
 have hget: ∀D:List AV,(S0.set l D)[l]? =some D:=fun D=>List.getElem?_set_self hl
 by_cases h:2≤N.length
 ·obtain ⟨a,N1,rfl⟩: ∃a N1,N=a::N1:=by cases N with|nil=>simp at h|cons a r=>exact ⟨a,r,rfl⟩
  rcases List.eq_nil_or_concat N1 with rfl| ⟨N2,b,rfl⟩
  ·simp at h
  rw [List.concat_eq_append] at h h2⊢
  have hNl:(a::(N2++ [b])).length=N2.length+2:=by simp
  rw [hNl] at h2⊢
  have hj:((A.length:Int)+((N2.length+2:Nat):Int)-1)=((A.length+N2.length+1:Nat):Int):=by omega
  rw [hj]
  have hlt:((A.length:Int)<((A.length+N2.length+1:Nat):Int))=True:=eT (by omega)
  have hw1:IntKind.i64.wrap ((A.length:Int)+1)=((A.length+1:Nat):Int):=by rw [z0f]<;>omega
  have hw2:IntKind.i64.wrap (((A.length+N2.length+1:Nat):Int)-1)=((A.length+N2.length:Nat):Int):=by rw [z0f]<;>omega
  have hYl:(A++a::(N2++ [b])++C).length=n:=by simp;omega
  have e1:A++a::(N2++ [b])++C=(A++a::N2)++b::C:=by simp
  have e2:(A++a::(N2++ [b])++C)[A.length]? =some a:=by simp
  have e3:(A++a::(N2++ [b])++C)[A.length+N2.length+1]? =some b:=by
   have:(A++a::N2).length=A.length+N2.length+1:=by simp;omega
   rw [e1,←this];simp
  have hg1:=getT _ _ _ e2
  have hg2:=getT _ _ _ e3
  have hset:((A++a::(N2++ [b])++C).set A.length b).set (A.length+N2.length+1) a=(A++ [b])++N2++(a::C):=by
   have h3:(A++a::(N2++ [b])++C).set A.length b=(A++b::N2)++b::C:=by
    rw [e1];simp
   have h4:(A++b::N2).length=A.length+N2.length+1:=by simp;omega
   rw [h3,←h4,List.set_append_right _ _ (Nat.le_refl _),Nat.sub_self]
   simp
  have hset2:(((A++a::(N2++ [b])++C).map tM).set A.length (tM b)).set (A.length+N2.length+1) (tM a)=((A++ [b])++N2++(a::C)).map tM:=by
   rw [←hset,List.map_set,List.map_set]
  have hrev:A++(a::(N2++ [b])).reverse++C=(A++ [b])++N2.reverse++(a::C):=by simp
  rw [hrev]
  have b1:(A.length<n)=True:=eT (by omega)
  have b2:(A.length+N2.length+1<n)=True:=eT (by omega)
  have b3:((A.length:Int)<(n:Int))=True:=eT (by omega)
  have b4:(((A.length+N2.length+1:Nat):Int)<(n:Int))=True:=eT (by omega)
  have b5:(A.length+1≤n)=True:=eT (by omega)
  have b6:(A.length+N2.length+1+1≤n)=True:=eT (by omega)
  have hal:(A++ [b]).length=A.length+1:=by simp
  have hE:(((A.length+1:Nat):Int)+(N2.length:Int)-1)=((A.length+N2.length:Nat):Int):=by omega
  generalize hY:A++a::(N2++ [b])++C=Y at*
  simp only [go_sem,lp64_0,hlt,hw1,hw2,hg1,hg2,hget,hYl,b1,b2,b3,b4,b5,b6,List.set_set,hset2,lm_,List.length_set,nn_]
  refine ⟨(A++ [b],N2,a::C),by simp only [go_sem,z3,z4,z5,hal,hE,hset,hset2]<;>rfl,?_,?_,fun x en s hq=> ?_⟩
  ·dsimp only;rw [hal,List.length_cons];omega
  ·dsimp only;omega
  ·exact hq
 ·have hr:N.reverse=N:=by
   match N,h with
   | [],_=>rfl
   | [x],_=>rfl
   |_::_::_,h=>simp at h
  have hlt:((A.length:Int)<(A.length:Int)+(N.length:Int)-1)=False:=eF (by omega)
  rw [hr]
  simp only [go_sem,lp64_0,hlt]
theorem c64 (S:List (List AV))(T:List Nat)(l:Nat)(X:List Nat)(h:S[l]? =some (X.map tM))(hn:X.length≤1000):
  run L 64 [.rsl l 0 X.length X.length 1 false] ⟨S,T⟩=some (.tup [],⟨S.set l (X.reverse.map tM),T⟩):=by
 rw [z6 (fn:=ir64) rfl rfl]
 have hl:l<S.length:=by
  apply Decidable.byContradiction;intro hh
  rw [List.getElem?_eq_none (by omega)] at h;cases h
 have hset:S.set l (X.map tM)=S:=by
  refine List.ext_getElem? fun i=> ?_
  rw [List.getElem?_set]
  by_cases e:l=i
  ·subst e;rw [if_pos rfl,if_pos hl,h]
  ·rw [if_neg e]
 have hw:IntKind.i64.wrap ((X.length:Int)-1)=(0:Int)+(X.length:Int)-1:=by rw [z0f]<;>omega
 simp only [ir64,go_sem,hw]
 generalize hg:lim (headed pure (run L) false _ lp64_0 _ _) _ _=o
 obtain ⟨x,en,s,rfl,h2⟩: ∃x en s,o=some (x,en,s)∧_:=by rw [←hg];exact loop64 S T l hl X.length hn _ _ [] X [] ⟨rfl,by simp⟩ _ _ (by simp only [go_sem,List.nil_append,List.append_nil,hset,List.length_nil,Int.natCast_zero]<;>rfl)
 clear hg
 obtain ⟨rfl,rfl⟩:=h2
 simp only [go_sem]
theorem zoc (st0:St)(lo hi:Nat)(i:Nat)(hok:i=0)(env:Env)(st:St)
  (hg:gcAV false lo hi (canon env [0,2,3]) st=([(0,.v (.slice none 0 0)),(2,J i),(3,I (-1))],st0)):
  ∃x_1 en s,lim (headed pure (run L) false [0,2,3] lp64_0 lo hi) env st=some (x_1,en,s)∧(x_1=.exit 0∧s=st0):=by
 refine z9 (α:=Nat) (fun i=>0) (fun i=>i=0) (fun i=>([(0,.v (.slice none 0 0)),(2,J i),(3,I (-1))],st0)) (fun i x_1 en s=>x_1=.exit 0∧s=st0) (fun i hok=> ?_) i hok env st hg
 have hlt:((i:Int)< -1)=False:=eF (by omega)
 simp only [go_sem,lp64_0,hlt]
theorem c64n (st:St):run L 64 [.v (.slice none 0 0)] st=some (.tup [],st):=by
 rw [z6 (fn:=ir64) rfl rfl]
 have h1:IntKind.i64.wrap (0-1)= -1:=by decide
 simp only [ir64,go_sem,h1]
 generalize hg:lim (headed pure (run L) false _ lp64_0 _ _) _ _=o
 obtain ⟨x,en,s,rfl,h2⟩: ∃x en s,o=some (x,en,s)∧_:=by rw [←hg];exact zoc st _ _ 0 rfl _ _ (by simp only [go_sem,Int.natCast_zero]<;>rfl)
 clear hg
 obtain ⟨rfl,rfl⟩:=h2
 simp only [go_sem]
attribute [local go_sem] m_ x_ l_ k_ o_ t_ a_ s_ q_ b_ c_ u_ g_ zp zb zm zq z3b z25 zd zf zi z8 zh z3e
theorem gtJ (X:List Nat)(i:Nat)(x:Nat)(h:X[i]? =some x):(X.map J)[i]? =some (J x):=by
 rw [List.getElem?_map,h];rfl
theorem gt8 (X:List Nat)(i:Nat)(h:i<X.length):(X.map u8)[i]? =some (u8 (X.getD i 0)):=by
 rw [List.getElem?_map,List.getElem?_eq_getElem h,List.getD_eq_getElem?_getD,List.getElem?_eq_getElem h];rfl
theorem zgy (A:List (List AV))(hA:Num A)(p:Nat)(hp:A.length=p)(by8:List Nat)(h8:by8.length=8)(hby: ∀b∈by8,b<256)(h1:A[1]? =some (by8.map u8))(n:Nat)(hn:n≤8)(ss:List Nat)(X:List Nat)(lo:Nat)(hlo:p+1=lo)(i:Nat)(Q:List Nat)(hok:i≤n∧PermN i Q)(env:Env)(st:St)
  (hg:gcAV true lo 0 (canon env [4,7,8,9,15,83,84]) st=([(4,.ptr 1 0),(7,J n),(8,sl 1 true (ss.map U)),(9,sl 1 true (X.map tM)),(15,.rsl p 0 n n 1 false),(83,J n),(84,J i)],⟨A++ [(Q++List.replicate (n-i) 0).map J],[]⟩)):
  ∃x_1 en s,lim (headed pure (run L) true [4,7,8,9,15,83,84] lp13_0 lo 0) env st=some (x_1,en,s)∧(x_1=.exit 0∧en.get 7=J n∧en.get 8=sl 1 true (ss.map U)∧en.get 9=sl 1 true (X.map tM)∧en.get 15=.rsl p 0 n n 1 false∧en.get 3000000=.any∧∃P',PermN n P'∧s=⟨A++ [P'.map J],[]⟩):=by
 refine z9 (α:=Nat×List Nat) (fun ⟨i,Q⟩=>n-i) (fun ⟨i,Q⟩=>i≤n∧PermN i Q) (fun ⟨i,Q⟩=>([(4,.ptr 1 0),(7,J n),(8,sl 1 true (ss.map U)),(9,sl 1 true (X.map tM)),(15,.rsl p 0 n n 1 false),(83,J n),(84,J i)],⟨A++ [(Q++List.replicate (n-i) 0).map J],[]⟩)) (fun ⟨i,Q⟩ x_1 en s=>x_1=.exit 0∧en.get 7=J n∧en.get 8=sl 1 true (ss.map U)∧en.get 9=sl 1 true (X.map tM)∧en.get 15=.rsl p 0 n n 1 false∧en.get 3000000=.any∧∃P',PermN n P'∧s=⟨A++ [P'.map J],[]⟩) (fun ⟨i,Q⟩ hok=> ?_) ⟨i,Q⟩ hok env st hg
 simp only at hok
 obtain ⟨hin,hQ⟩:=hok
 dsimp only at hin hQ⊢
 have hl:=hQ.len
 by_cases h:i<n
 ·have hs:=ze i (by omega)
  have hlt:((i:Int)<(n:Int))=True:=eT (by omega)
  have hi8:i<by8.length:=by omega
  have hg8:=gt8 by8 i hi8
  have hb:=hby (by8.getD i 0) (by rw [List.getD_eq_getElem?_getD,List.getElem?_eq_getElem hi8];exact List.getElem_mem _)
  generalize by8.getD i 0=b at*
  have hr:binAV .rem none (J b) (J (i+1))=some (J (b % (i+1))):=remJ b (i+1) (by omega)
  have hk:=Nat.mod_lt b (show 0<i+1 by omega)
  have hstep:=zj9 hQ (b % (i+1)) (by omega)
  generalize b % (i+1)=k at*
  have hwb:=w64 b (by omega)
  have hrep:List.replicate (n-i) 0=0::List.replicate (n-(i+1)) 0:=by rw [show n-i=(n-(i+1))+1 by omega];rfl
  generalize hZ:List.replicate (n-(i+1)) 0=Z at*
  have hZl:Z.length=n-(i+1):=by rw [←hZ,List.length_replicate]
  have e0:(Q++0::Z).set i i=(Q++ [i])++Z:=by
   rw [List.set_append_right _ _ (by omega),hl,Nat.sub_self];simp
  have hset0:((Q++0::Z).map J).set i (J i)=((Q++ [i])++Z).map J:=by rw [←e0,List.map_set]
  have hQl:(Q++ [i]).length=i+1:=by simp [hl]
  have ek:((Q++ [i])++Z)[k]? =some ((Q++ [i]).getD k 0):=by
   rw [List.getElem?_append_left (by omega),List.getD_eq_getElem?_getD,List.getElem?_eq_getElem (by omega)];rfl
  have ei:((Q++ [i])++Z)[i]? =some i:=by
   rw [List.getElem?_append_left (by omega),List.getElem?_append_right (by omega),hl,Nat.sub_self];rfl
  have hgk:=gtJ _ _ _ ek
  have hgi:=gtJ _ _ _ ei
  generalize (Q++ [i]).getD k 0=v at*
  have hset:(((Q++ [i])++Z).set i v).set k i=(((Q++ [i]).set i v).set k i)++Z:=by
   rw [List.set_append_left _ _ (by omega),List.set_append_left _ _ (by rw [List.length_set];omega)]
  have hYl:((Q++ [i])++Z).length=n:=by rw [List.length_append,hQl,hZl];omega
  have hY0:(Q++0::Z).length=n:=by simp [hZl,hl];omega
  have ga: ∀L,(A++L)[1]? =some (by8.map u8):=fun L=>by
   rw [List.getElem?_append_left,h1]
   apply Decidable.byContradiction;intro hh
   rw [List.getElem?_eq_none (by omega)] at h1;cases h1
  have g0:=fun L=>znx A L hp
  have s0:=fun L v=>znw A L hp v
  have pl:=fun L=>pp_len A L hp
  have htk: ∀b,(A++ [b]).take lo=A++ [b]:=fun b=>List.take_of_length_le (by simp;omega)
  have b1:((i:Int)<8)=True:=eT (by omega)
  have b2:(i<n)=True:=eT (by omega)
  have b3:(k<n)=True:=eT (by omega)
  have b4:((k:Int)<(n:Int))=True:=eT (by omega)
  have b5:(i+1≤n)=True:=eT (by omega)
  have b6:(k+1≤n)=True:=eT (by omega)
  have b7:(p<lo)=True:=eT (by omega)
  have b8:(1<lo)=True:=eT (by
   apply Decidable.byContradiction;intro hh
   rw [List.getElem?_eq_none (by omega)] at h1;cases h1;)
  rw [hrep]
  generalize hY:(Q++ [i])++Z=Y at*
  simp only [go_sem,lp13_0,hlt,hs,ga,g0,s0,pl,hg8,hr,hwb,hset0,hgk,hgi,hset,hYl,hY0,b1,b2,b3,b4,b5,b6,lm_,List.length_set,nn_,List.set_cons_zero,List.set_set]
  refine ⟨(i+1,((Q++ [i]).set i v).set k i),by simp only [go_sem,z3,z4,z5,htk,b7,b8,hZ,hset,hA.calm.okApp,hA.calm.renApp,zfy,zbb,z3d]<;>rfl,?_,?_,fun x en s hq=> ?_⟩
  ·dsimp only;exact ⟨by omega,hstep⟩
  ·dsimp only;omega
  ·exact hq
 ·have hi:i=n:=by omega
  subst hi
  have hlt:((i:Int)<(i:Int))=False:=eF (by omega)
  rw [Nat.sub_self,show List.replicate 0 (0:Nat)=[] from rfl,List.append_nil]
  simp only [go_sem,lp13_0,hlt]
  exact ⟨Q,hQ,rfl⟩
attribute [local go_sem] m_ x_ l_ k_ o_ t_ a_ s_ q_ b_ c_ u_ g_ zp zb zm zq z3b z25 zd zf zi z8 zh z3e
def xA (lo:Nat) (W:List Int):AV:=if W=[] then .v (.slice none 0 0) else .rsl (lo+(W.length-1)) 0 W.length W.length 1 false
def xS (W:List Int):List (List AV):=if W=[] then [] else List.replicate (W.length-1) []++ [W.map I]
theorem Num.xS (W:List Int):Num (xS W):=by
 intro C hC
 unfold Vm.xS at hC
 split at hC
 ·cases hC
 ·rcases List.mem_append.1 hC with h|h
  ·exact ⟨[],List.eq_of_mem_replicate h⟩
  ·exact ⟨W.map fun a=>Value.int .i64 a,by rw [List.mem_singleton.1 h,List.map_map];rfl⟩
theorem x_app (Bs:List (List AV))(lo:Nat)(hl:Bs.length=lo)(W:List Int)(v:Int)(h2:W.length≤1000)(T:List Nat):appendmAV 1 false (xA lo W) [I v] ⟨Bs++xS W,T⟩=some (xA lo (W++ [v]),⟨Bs++xS (W++ [v]),T⟩):=by
 have e1:xA lo (W++ [v])=.rsl (lo+W.length) 0 (W.length+1) (W.length+1) 1 false:=by unfold xA;rw [if_neg (by simp)];simp
 have e2:xS (W++ [v])=List.replicate W.length []++ [(W++ [v]).map I]:=by unfold xS;rw [if_neg (by simp)];simp
 rw [e1,e2]
 by_cases h:W=[]
 ·subst h
  simp only [xA,xS,appendmAV,newM]
  rw [if_pos trivial,if_pos trivial]
  simp only
  rw [if_pos (by unfold maxGrow;simp)]
  simp [flatAV,hl]
  rfl
 ·have hp:1≤W.length:=List.length_pos_iff.2 h
  obtain ⟨k,hk⟩: ∃k,W.length=k+1:=⟨W.length-1,by omega⟩
  have e3:xA lo W=.rsl (lo+k) 0 W.length W.length 1 false:=by unfold xA;rw [if_neg h,hk];rfl
  have e4:xS W=List.replicate k []++ [W.map I]:=by unfold xS;rw [if_neg h,hk];rfl
  have htk:(W.map I).take W.length=W.map I:=List.take_of_length_le (by simp)
  have hg:(Bs++(List.replicate k []++ [W.map I]))[lo+k]? =some (W.map I):=by
   rw [←hl,←List.append_assoc,List.getElem?_append_right (by simp)];simp
  have hs:(Bs++(List.replicate k []++ [W.map I])).set (lo+k) []=Bs++List.replicate (k+1) []:=by
   rw [←hl,←List.append_assoc,List.set_append_right _ _ (by simp)]
   simp [List.replicate_succ']
  have hlen:(Bs++(List.replicate k []++ [W.map I])).length=lo+(k+1):=by simp [hl]
  rw [e3,e4]
  simp only [appendmAV,hg,lm_,List.length_cons,List.length_nil,Nat.mul_one,htk]
  rw [if_pos ⟨trivial,trivial,Nat.le_refl _,by omega,by omega⟩,if_neg (by omega),if_pos ⟨trivial,by unfold maxGrow;omega,by omega⟩,hs,hlen,hk]
  simp [flatAV]
  rfl
def gI (P:List Nat) (a:Int):Int:=(P.getD a.toNat 0:Int)
theorem zlz (Bs:List (List AV))(hB:Num Bs)(lo p:Nat)(hl:Bs.length=lo)(n:Nat)(hn:n≤8)(P:List Nat)(hP:PermN n P)(hq:Bs[p]? =some (P.map J))(hplo:p<lo)(u:Nat)(hu:u<2^n)(ss X Y:List Nat)(i0:Nat)(hi:Nat)(hhi:(oT (Y.map tM)).length≤hi)(j:Nat)(W:List Int)(hok:j≤(memb u).length∧W=((memb u).take j).map (gI P))(env:Env)(st:St)
  (hg:gcAV true lo hi (canon env [7,8,9,15,18,21,113,114,115,120,121,122]) st=([(7,J n),(8,sl 1 true (ss.map U)),(9,sl 1 true (X.map tM)),(15,.rsl p 0 n n 1 false),(18,oA (Y.map tM)),(21,xA lo W),(113,sl 1 true (ss.map U)),(114,J ss.length),(115,J i0),(120,tAV (memb u)),(121,J (memb u).length),(122,J j)],⟨Bs++xS W,oT (Y.map tM)⟩)):
  ∃x_1 en s,lim (headed pure (run L) true [7,8,9,15,18,21,113,114,115,120,121,122] lp13_1 lo hi) env st=some (x_1,en,s)∧(x_1=.exit 4∧en.get 7=J n∧en.get 8=sl 1 true (ss.map U)∧en.get 9=sl 1 true (X.map tM)∧en.get 15=.rsl p 0 n n 1 false∧en.get 18=oA (Y.map tM)∧en.get 21=xA lo ((memb u).map (gI P))∧en.get 113=sl 1 true (ss.map U)∧en.get 114=J ss.length∧en.get 115=J i0∧en.get 3000000=.any∧s=⟨Bs++xS ((memb u).map (gI P)),oT (Y.map tM)⟩):=by
 refine z9 (α:=Nat×List Int) (fun ⟨j,W⟩=>(memb u).length-j) (fun ⟨j,W⟩=>j≤(memb u).length∧W=((memb u).take j).map (gI P)) (fun ⟨j,W⟩=>([(7,J n),(8,sl 1 true (ss.map U)),(9,sl 1 true (X.map tM)),(15,.rsl p 0 n n 1 false),(18,oA (Y.map tM)),(21,xA lo W),(113,sl 1 true (ss.map U)),(114,J ss.length),(115,J i0),(120,tAV (memb u)),(121,J (memb u).length),(122,J j)],⟨Bs++xS W,oT (Y.map tM)⟩)) (fun ⟨j,W⟩ x_1 en s=>x_1=.exit 4∧en.get 7=J n∧en.get 8=sl 1 true (ss.map U)∧en.get 9=sl 1 true (X.map tM)∧en.get 15=.rsl p 0 n n 1 false∧en.get 18=oA (Y.map tM)∧en.get 21=xA lo ((memb u).map (gI P))∧en.get 113=sl 1 true (ss.map U)∧en.get 114=J ss.length∧en.get 115=J i0∧en.get 3000000=.any∧s=⟨Bs++xS ((memb u).map (gI P)),oT (Y.map tM)⟩) (fun ⟨j,W⟩ hok=> ?_) ⟨j,W⟩ hok env st hg
 simp only at hok
 obtain ⟨h1,hW⟩:=hok
 dsimp only at h1 hW⊢
 have h2n:2^n≤256:=Nat.pow_le_pow_right (n:=2) (by decide) hn
 have hml:=z6a u
 by_cases h:j<(memb u).length
 ·have hsu:=ze j (by omega)
  have hlt:((j:Int)<((memb u).length:Int))=True:=eT (by omega)
  have hx:indexSAV 1 (tAV (memb u)) (.v (.int .i64 (j:Int)))=some (.eptr (I (memb u)[j]) 0):=z34 true (memb u) j h
  have hT:((memb u).take (j+1)).map (gI P)=W++ [gI P (memb u)[j]]:=by
   rw [List.take_succ,List.getElem?_eq_getElem h,List.map_append,←hW];rfl
  obtain ⟨a,ha,hbit⟩:=(z69 (by omega) _).1 (List.getElem_mem h)
  have han:a<n:=by
   apply Decidable.byContradiction;intro hh
   rw [za5 hu (by omega)] at hbit;cases hbit
  have hg:gI P (memb u)[j]=((P.getD a 0:Nat):Int):=by rw [ha];rfl
  have hPl:=hP.len
  have hPa:(P.map J)[a]? =some (J (P.getD a 0)):=gtJ P a _ (by rw [List.getElem?_eq_getElem (by omega),List.getD_eq_getElem?_getD,List.getElem?_eq_getElem (by omega)];rfl)
  have hWl:W.length=j:=by rw [hW,lm_,List.length_take];omega
  have happ:=fun v=>x_app Bs lo hl W v (by omega) (oT (Y.map tM))
  have gq: ∀L,(Bs++L)[p]? =some (P.map J):=fun L=>by rw [List.getElem?_append_left (by omega),hq]
  rw [hg] at hT
  rw [ha] at hx
  generalize P.getD a 0=v at*
  have eX:xA lo (W++ [(v:Int)])=.rsl (lo+W.length) 0 (W.length+1) (W.length+1) 1 false:=by unfold xA;rw [if_neg (by simp)];simp
  have b0:(lo+W.length<lo)=False:=eF (by omega)
  have b1:(a<n)=True:=eT han
  have b2:((a:Int)<(n:Int))=True:=eT (by omega)
  have b3:(a+1≤n)=True:=eT (by omega)
  have b4:(p<lo)=True:=eT hplo
  have hren:=fun T acc=>z8q hhi T acc
  have htk:(oT (Y.map tM)).take hi=oT (Y.map tM):=List.take_of_length_le hhi
  have hN:Num (Bs++xS (W++ [(v:Int)])):=hB.app (Num.xS _)
  simp only [go_sem,lp13_1,hlt,hsu,hx,gq,hPa,hPl,happ,b1,b2,b3,lm_,nn_]
  refine ⟨(j+1,W++ [(v:Int)]),by simp only [go_sem,z3,z4,z5,eX,b0,b4,hren,htk,hN.calm.ok,hN.calm.ren,List.append_nil,List.map_nil,z3d]<;>rfl,?_,?_,fun x en s hq=> ?_⟩
  ·dsimp only;exact ⟨by omega,by rw [hT]⟩
  ·dsimp only;omega
  ·exact hq
 ·have hlt:((j:Int)<((memb u).length:Int))=False:=eF (by omega)
  have e:(memb u).take j=memb u:=List.take_of_length_le (by omega)
  rw [e] at hW
  subst hW
  simp only [go_sem,lp13_1,hlt]
end Go.Proofs.YtdnmhlfjafjkbaaGreatDoor.Vm
