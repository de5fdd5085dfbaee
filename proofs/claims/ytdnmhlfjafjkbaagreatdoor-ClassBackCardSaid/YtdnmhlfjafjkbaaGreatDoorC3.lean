/- What is proved: what each function of this program computes, as equations on the evaluator. No condition. -/
import Derived.Test.YtdnmhlfjafjkbaaGreatDoorC2
set_option linter.all false
namespace Go.Proofs.YtdnmhlfjafjkbaaGreatDoor.Vm
open Go Go.Ev Go.Sort
set_option maxRecDepth 100000
set_option maxHeartbeats 4000000
def tl129:IC:=(.seq (.seq (.ops [⟨(some 81),none,.move (.tmp 1)⟩,⟨(some 82),none,.bin .gtr none (.tmp 81) (.const (.int .i64 0))⟩,⟨(some 83),none,.move (.tmp 82)⟩,⟨(some 84),(some (83,true)),.move (.tmp 4)⟩,⟨(some 85),(some (83,true)),.move (.tmp 0)⟩,⟨(some 86),(some (83,true)),.move (.tmp 1)⟩,⟨(some 87),(some (83,true)),.bin .sub none (.tmp 86) (.const (.int .i64 1))⟩,⟨(some 88),(some (83,true)),.indexS 1 (.tmp 85) (.tmp 87)⟩,⟨(some 89),(some (83,true)),.load 1 true (.tmp 88)⟩,⟨(some 90),(some (83,true)),.move (.tmp 0)⟩,⟨(some 91),(some (83,true)),.move (.tmp 13)⟩,⟨(some 92),(some (83,true)),.indexS 1 (.tmp 90) (.tmp 91)⟩,⟨(some 93),(some (83,true)),.load 1 true (.tmp 92)⟩,⟨(some 94),(some (83,true)),.callv true (.tmp 84) [(.tmp 89),(.tmp 93)]⟩,⟨(some 95),(some (83,true)),.bin .lss none (.tmp 94) (.const (.int .i64 0))⟩,⟨(some 96),(some (83,true)),.not (.tmp 95)⟩,⟨(some 97),none,.pick (.tmp 83) (.tmp 96) (.const (.bool false))⟩])
 (.cond (.tmp 97) (.seq (.ops [⟨(some 98),none,.move (.tmp 0)⟩,⟨(some 99),none,.move (.tmp 1)⟩,⟨(some 100),none,.move (.tmp 2)⟩,⟨(some 101),none,.move (.tmp 13)⟩,⟨(some 102),none,.move (.tmp 4)⟩,⟨(some 103),none,.call false 167 [(.tmp 98),(.tmp 99),(.tmp 100),(.tmp 101),(.tmp 102)]⟩,⟨(some 15),none,.move (.tmp 103)⟩])
  (.seq (.ops [⟨(some 104),none,.move (.tmp 15)⟩,⟨(some 1),none,.move (.tmp 104)⟩])
  (.exit 1)))
 .skip))
 (.seq (.ops [⟨(some 106),none,.move (.tmp 0)⟩,⟨(some 107),none,.move (.tmp 1)⟩,⟨(some 108),none,.move (.tmp 2)⟩,⟨(some 109),none,.move (.tmp 13)⟩,⟨(some 110),none,.move (.tmp 4)⟩,⟨(some 111),none,.call false 168 [(.tmp 106),(.tmp 107),(.tmp 108),(.tmp 109),(.tmp 110)]⟩,⟨(some 105),none,.move (.tmp 111)⟩,⟨(some 112),none,.extract 0 (.tmp 105)⟩,⟨(some 113),none,.extract 1 (.tmp 105)⟩,⟨(some 16),none,.move (.tmp 112)⟩,⟨(some 17),none,.move (.tmp 113)⟩])
 (.seq (.ops [⟨(some 114),none,.move (.tmp 17)⟩,⟨(some 11),none,.move (.tmp 114)⟩])
 (.seq (.ops [⟨(some 115),none,.move (.tmp 16)⟩,⟨(some 116),none,.move (.tmp 1)⟩,⟨(some 117),none,.bin .sub none (.tmp 115) (.tmp 116)⟩,⟨(some 118),none,.move (.tmp 2)⟩,⟨(some 119),none,.move (.tmp 16)⟩,⟨(some 120),none,.bin .sub none (.tmp 118) (.tmp 119)⟩,⟨(some 18),none,.move (.tmp 117)⟩,⟨(some 19),none,.move (.tmp 120)⟩])
 (.seq (.ops [⟨(some 121),none,.move (.tmp 12)⟩,⟨(some 122),none,.bin .quo none (.tmp 121) (.const (.int .i64 8))⟩,⟨(some 20),none,.move (.tmp 122)⟩])
 (.seq (.ops [⟨(some 123),none,.move (.tmp 18)⟩,⟨(some 124),none,.move (.tmp 19)⟩,⟨(some 125),none,.bin .lss none (.tmp 123) (.tmp 124)⟩])
 (.cond (.tmp 125) (.seq (.ops [⟨(some 126),none,.move (.tmp 18)⟩,⟨(some 127),none,.move (.tmp 20)⟩,⟨(some 128),none,.bin .geq none (.tmp 126) (.tmp 127)⟩,⟨(some 10),none,.move (.tmp 128)⟩])
  (.seq (.ops [⟨(some 129),none,.move (.tmp 0)⟩,⟨(some 130),none,.move (.tmp 1)⟩,⟨(some 131),none,.move (.tmp 16)⟩,⟨(some 132),none,.move (.tmp 3)⟩,⟨(some 133),none,.move (.tmp 4)⟩,⟨(some 134),none,.call false 129 [(.tmp 129),(.tmp 130),(.tmp 131),(.tmp 132),(.tmp 133)]⟩])
  (.ops [⟨(some 135),none,.move (.tmp 16)⟩,⟨(some 136),none,.bin .add none (.tmp 135) (.const (.int .i64 1))⟩,⟨(some 1),none,.move (.tmp 136)⟩])))
 (.seq (.ops [⟨(some 137),none,.move (.tmp 19)⟩,⟨(some 138),none,.move (.tmp 20)⟩,⟨(some 139),none,.bin .geq none (.tmp 137) (.tmp 138)⟩,⟨(some 10),none,.move (.tmp 139)⟩])
  (.seq (.ops [⟨(some 140),none,.move (.tmp 0)⟩,⟨(some 141),none,.move (.tmp 16)⟩,⟨(some 142),none,.bin .add none (.tmp 141) (.const (.int .i64 1))⟩,⟨(some 143),none,.move (.tmp 2)⟩,⟨(some 144),none,.move (.tmp 3)⟩,⟨(some 145),none,.move (.tmp 4)⟩,⟨(some 146),none,.call false 129 [(.tmp 140),(.tmp 142),(.tmp 143),(.tmp 144),(.tmp 145)]⟩])
  (.ops [⟨(some 147),none,.move (.tmp 16)⟩,⟨(some 2),none,.move (.tmp 147)⟩]))))))))))
theorem zm0:lp129_0=(.block 1 (.seq (.ops [⟨(some 21),none,.move (.tmp 2)⟩,⟨(some 22),none,.move (.tmp 1)⟩,⟨(some 23),none,.bin .sub none (.tmp 21) (.tmp 22)⟩,⟨(some 12),none,.move (.tmp 23)⟩])
 (.seq (.seq (.ops [⟨(some 24),none,.move (.tmp 12)⟩,⟨(some 25),none,.bin .leq none (.tmp 24) (.const (.int .i64 12))⟩])
 (.cond (.tmp 25) (.seq (.ops [⟨(some 26),none,.move (.tmp 0)⟩,⟨(some 27),none,.move (.tmp 1)⟩,⟨(some 28),none,.move (.tmp 2)⟩,⟨(some 29),none,.move (.tmp 4)⟩,⟨(some 30),none,.call false 161 [(.tmp 26),(.tmp 27),(.tmp 28),(.tmp 29)]⟩])
  .ret)
 .skip))
 (.seq (.seq (.ops [⟨(some 31),none,.move (.tmp 3)⟩,⟨(some 32),none,.bin .eql none (.tmp 31) (.const (.int .i64 0))⟩])
 (.cond (.tmp 32) (.seq (.ops [⟨(some 33),none,.move (.tmp 0)⟩,⟨(some 34),none,.move (.tmp 1)⟩,⟨(some 35),none,.move (.tmp 2)⟩,⟨(some 36),none,.move (.tmp 4)⟩,⟨(some 37),none,.call false 162 [(.tmp 33),(.tmp 34),(.tmp 35),(.tmp 36)]⟩])
  .ret)
 .skip))
 (.seq (.seq (.ops [⟨(some 38),none,.move (.tmp 10)⟩,⟨(some 39),none,.not (.tmp 38)⟩])
 (.cond (.tmp 39) (.seq (.ops [⟨(some 40),none,.move (.tmp 0)⟩,⟨(some 41),none,.move (.tmp 1)⟩,⟨(some 42),none,.move (.tmp 2)⟩,⟨(some 43),none,.move (.tmp 4)⟩,⟨(some 44),none,.call false 163 [(.tmp 40),(.tmp 41),(.tmp 42),(.tmp 43)]⟩])
  (.ops [⟨(some 45),none,.move (.tmp 3)⟩,⟨(some 46),none,.bin .sub none (.tmp 45) (.const (.int .i64 1))⟩,⟨(some 3),none,.move (.tmp 46)⟩]))
 .skip))
 (.seq (.ops [⟨(some 48),none,.move (.tmp 0)⟩,⟨(some 49),none,.move (.tmp 1)⟩,⟨(some 50),none,.move (.tmp 2)⟩,⟨(some 51),none,.move (.tmp 4)⟩,⟨(some 52),none,.call false 164 [(.tmp 48),(.tmp 49),(.tmp 50),(.tmp 51)]⟩,⟨(some 47),none,.move (.tmp 52)⟩,⟨(some 53),none,.extract 0 (.tmp 47)⟩,⟨(some 54),none,.extract 1 (.tmp 47)⟩,⟨(some 13),none,.move (.tmp 53)⟩,⟨(some 14),none,.move (.tmp 54)⟩])
 (.seq (.seq (.ops [⟨(some 55),none,.move (.tmp 14)⟩,⟨(some 56),none,.bin .eql none (.tmp 55) (.const (.int .i64 2))⟩])
 (.cond (.tmp 56) (.seq (.ops [⟨(some 57),none,.move (.tmp 0)⟩,⟨(some 58),none,.move (.tmp 1)⟩,⟨(some 59),none,.move (.tmp 2)⟩,⟨(some 60),none,.move (.tmp 4)⟩,⟨(some 61),none,.call false 165 [(.tmp 57),(.tmp 58),(.tmp 59),(.tmp 60)]⟩])
  (.seq (.ops [⟨(some 62),none,.move (.tmp 2)⟩,⟨(some 63),none,.bin .sub none (.tmp 62) (.const (.int .i64 1))⟩,⟨(some 64),none,.move (.tmp 13)⟩,⟨(some 65),none,.move (.tmp 1)⟩,⟨(some 66),none,.bin .sub none (.tmp 64) (.tmp 65)⟩,⟨(some 67),none,.bin .sub none (.tmp 63) (.tmp 66)⟩,⟨(some 13),none,.move (.tmp 67)⟩])
  (.ops [⟨(some 14),none,.move (.const (.int .i64 1))⟩])))
 .skip))
 (.seq (.seq (.ops [⟨(some 68),none,.move (.tmp 10)⟩,⟨(some 69),none,.move (.tmp 68)⟩,⟨(some 70),(some (69,true)),.move (.tmp 11)⟩,⟨(some 71),none,.pick (.tmp 69) (.tmp 70) (.const (.bool false))⟩,⟨(some 72),none,.move (.tmp 71)⟩,⟨(some 73),(some (72,true)),.move (.tmp 14)⟩,⟨(some 74),(some (72,true)),.bin .eql none (.tmp 73) (.const (.int .i64 1))⟩,⟨(some 75),none,.pick (.tmp 72) (.tmp 74) (.const (.bool false))⟩])
 (.cond (.tmp 75) (.seq (.ops [⟨(some 76),none,.move (.tmp 0)⟩,⟨(some 77),none,.move (.tmp 1)⟩,⟨(some 78),none,.move (.tmp 2)⟩,⟨(some 79),none,.move (.tmp 4)⟩,⟨(some 80),none,.call false 166 [(.tmp 76),(.tmp 77),(.tmp 78),(.tmp 79)]⟩])
  (.cond (.tmp 80) .ret
  .skip))
 .skip))
 tl129)))))))):=rfl
def endss (k:Nat) (caps:List AV) (l n:Nat) (ag:Bool) (en:Env) (a b li:Nat) (wb wp:Bool):Prop:=
 en.get 0=.rsl l 0 n n 1 ag∧en.get 1=J a∧en.get 2=J b∧en.get 3=J li∧en.get 4=.fn (.func k) [] caps∧en.get 10=B wb∧en.get 11=B wp
section
variable (S0:List (List AV)) (T:List Nat) (l:Nat) (hl:l<S0.length) (n:Nat) (hn:n≤1000) (ag:Bool) (k:Nat) (hk:pure k=true) (caps:List AV) (c:Fin 256→Fin 256→Int) (lt:Fin 256→Fin 256→Bool) (hlt: ∀x y,lt x y=decide (c x y<0)) (hc: ∀x y X E,run L k (fS x::fS y::caps) ⟨put S0 l X E,T⟩=some (I (c x y),⟨put S0 l X E,T⟩))
include S0 T l hl n hn ag k hk caps c lt hlt hc
theorem zdt (N:Nat)(ih:(∀(a b li:Nat) (d:Array (Fin 256)) (X0:List (List AV)),a≤b→b≤n→d.size=n→li<1000→b-a<N→(pdq lt d a b li true true).size=n∧∃X1,(PL X0→PL X1)∧run L 129 [.rsl l 0 n n 1 ag,J a,J b,J li,.fn (.func k) [] caps] ⟨put S0 l (Dm gS d) X0,T⟩=some (.tup [],⟨put S0 l (Dm gS (pdq lt d a b li true true)) X1,T⟩)))
  (X0:List (List AV)) (en:Env) (a b li p:Nat) (wb wp:Bool) (d:Array (Fin 256)) (hsz:d.size=n) (VA:a+13≤b) (hb:b≤n) (hN:b-a≤N) (QR:a≤p) (Q3:p<b) (VN:li<1000)
  (e0:en.get 0=.rsl l 0 n n 1 ag) (e1:en.get 1=J a) (e2:en.get 2=J b) (e3:en.get 3=J li) (e4:en.get 4=.fn (.func k) [] caps) (e10:en.get 10=B wb) (e11:en.get 11=B wp) (e12:en.get 12=J (b-a)) (e13:en.get 13=J p)
  (NN:Env→St→Prop) (QQ:X→Env→St→Prop)
  (Ye: ∀en' a' b' wb' wp' (d':Array (Fin 256)) X1,endss k caps l n ag en' a' b' li wb' wp'→(PL X0→PL X1)→a'≤b'→b'≤n→b'-a'<b-a→d'.size=n→pdqT lt d a b p li wb wp=pdq lt d' a' b' li wb' wp'→NN en' ⟨put S0 l (Dm gS d') X1,T⟩):
  Then (blockK 1 (codeAV pure (run L) lim tl129 en ⟨put S0 l (Dm gS d) X0,T⟩)) NN QQ:=by
 have V4:=z6v lt d (a:=a) (b:=b) (p:=p) (by omega)
 have VF:=z3m lt d (a:=a) (b:=b) (p:=p) (by omega)
 have VY:=pars S0 T l hl n hn ag k hk caps c lt hlt hc X0 d hsz a b p (by omega) hb (by omega)
 have QS:=peqs S0 T l hl n hn ag k hk caps c lt hlt hc X0 d hsz a b p (by omega) hb (by omega)
 have hT:pdqT lt d a b p li wb wp=if (decide (a>0)&& !lt d[a-1]! d[p]!)=true then pdq lt (partitionEqual lt d a b p).2 (partitionEqual lt d a b p).1 b li wb wp
  else if (partition lt d a b p).1-a<b-(partition lt d a b p).1 then
   pdq lt (pdq lt (partition lt d a b p).2.2 a (partition lt d a b p).1 li true true) ((partition lt d a b p).1+1) b li (decide ((b-a) / 8≤(partition lt d a b p).1-a)) (partition lt d a b p).2.1
  else
   pdq lt (pdq lt (partition lt d a b p).2.2 ((partition lt d a b p).1+1) b li true true) a (partition lt d a b p).1 li (decide ((b-a) / 8≤b-(partition lt d a b p).1)) (partition lt d a b p).2.1:=rfl
 rw [hT] at Ye
 generalize partition lt d a b p=q at*
 generalize partitionEqual lt d a b p=qe at*
 obtain ⟨mid,ap,d4⟩:=q
 obtain ⟨mid2,d5⟩:=qe
 dsimp only at*
 have hget:=zg hl
 have Ya:=zf hl
 have Yb:(Dm gS d).length=n:=by rw [zm,hsz]
 have r10:(((p:Nat):Int)<(n:Int))=True:=eT (by omega)
 have r11:((p:Nat)<n)=True:=eT (by omega)
 have r12:((p:Nat)+1≤n)=True:=eT (by omega)
 have r13:((Dm gS d).drop (p)).take 1=[gS d[p]!]:=zo gS d (by omega)
 have VZ:IntKind.i64.wrap (Int.tdiv ((b-a:Nat):Int) 8)=(((b-a) / 8:Nat):Int):=zga (b-a) 8 (by omega) (by omega)
 have VQ:=z6z mid a (by omega) (by omega)
 have V0:=z6z b mid (by omega) (by omega)
 have hm1:=za mid (by omega)
 have b1:((((b-a) / 8:Nat):Int)≤((mid-a:Nat):Int))=((b-a) / 8≤mid-a):=propext (by omega)
 have b2:((((b-a) / 8:Nat):Int)≤((b-mid:Nat):Int))=((b-a) / 8≤b-mid):=propext (by omega)
 have dd: ∀(P:Prop) [Decidable P] (v:Bool),v=decide P→decide P=v:=fun _ _ _ h=>h.symm
 have i1:=ih a mid li d4 X0 (by omega) (by omega) (by omega) VN (by omega)
 have i2:=ih (mid+1) b li d4 X0 (by omega) (by omega) (by omega) VN (by omega)
 obtain ⟨z1,Y1,y1,i1⟩:=i1
 obtain ⟨z2,Y2,y2,i2⟩:=i2
 generalize pdq lt d4 a mid li true true=d6 at*
 generalize pdq lt d4 (mid+1) b li true true=d7 at*
 generalize (b-a) / 8=bal at*
 by_cases h0:a=0
 ·have q0:((0:Int)<(a:Int))=False:=eF (by omega)
  rw [show decide (a>0)=false from decide_eq_false (by omega),Bool.false_and,if_neg (by simp)] at Ye
  by_cases hc2:mid-a<b-mid
  ·have q1:(((mid-a:Nat):Int)<((b-mid:Nat):Int))=True:=eT (by omega)
   rw [if_pos hc2] at Ye
   simp only [go_sem,tl129,e0,e1,e2,e3,e4,e10,e11,e12,e13,q0,VY,VQ,V0,VZ,q1,b1,i1,hm1]
   exact Ye _ _ _ _ _ _ _ ⟨by simp only [go_sem,e0],by simp only [go_sem],by simp only [go_sem,e2],by simp only [go_sem,e3],by simp only [go_sem,e4],by simp only [go_sem],by simp only [go_sem]⟩ y1 (by omega) hb (by omega) z1 rfl
  ·have q1:(((mid-a:Nat):Int)<((b-mid:Nat):Int))=False:=eF (by omega)
   rw [if_neg hc2] at Ye
   simp only [go_sem,tl129,e0,e1,e2,e3,e4,e10,e11,e12,e13,q0,VY,VQ,V0,VZ,q1,b2,i2,hm1]
   exact Ye _ _ _ _ _ _ _ ⟨by simp only [go_sem,e0],by simp only [go_sem,e1],by simp only [go_sem],by simp only [go_sem,e3],by simp only [go_sem,e4],by simp only [go_sem],by simp only [go_sem]⟩ y2 (by omega) (by omega) (by omega) z2 rfl
 ·have q0:((0:Int)<(a:Int))=True:=eT (by omega)
  have hw:=zu a (by omega) (by omega)
  have r20:(((a-1:Nat):Int)<(n:Int))=True:=eT (by omega)
  have r21:((a-1:Nat)<n)=True:=eT (by omega)
  have r22:((a-1:Nat)+1≤n)=True:=eT (by omega)
  have r23:((Dm gS d).drop (a-1)).take 1=[gS d[a-1]!]:=zo gS d (by omega)
  rw [show decide (a>0)=true from decide_eq_true (by omega),Bool.true_and] at Ye
  cases Vr:lt d[a-1]! d[p]! with
  |true=>
   have Vs:(c d[a-1]! d[p]! <0)=True:=by rw [hlt] at Vr;simpa using Vr
   rw [Vr,if_neg (by simp)] at Ye
   generalize d[a-1]! =x at*
   generalize d[p]! =y at*
   by_cases hc2:mid-a<b-mid
   ·have q1:(((mid-a:Nat):Int)<((b-mid:Nat):Int))=True:=eT (by omega)
    rw [if_pos hc2] at Ye
    simp only [go_sem,tl129,e0,e1,e2,e3,e4,e10,e11,e12,e13,q0,hw,r10,r11,r12,r13,r20,r21,r22,r23,hc,hk,Vs,VY,VQ,V0,VZ,q1,b1,i1,hm1,hget,Ya,Yb,nn_,lm_,List.length_set]
    exact Ye _ _ _ _ _ _ _ ⟨by simp only [go_sem,e0],by simp only [go_sem],by simp only [go_sem,e2],by simp only [go_sem,e3],by simp only [go_sem,e4],by simp only [go_sem],by simp only [go_sem]⟩ y1 (by omega) hb (by omega) z1 rfl
   ·have q1:(((mid-a:Nat):Int)<((b-mid:Nat):Int))=False:=eF (by omega)
    rw [if_neg hc2] at Ye
    simp only [go_sem,tl129,e0,e1,e2,e3,e4,e10,e11,e12,e13,q0,hw,r10,r11,r12,r13,r20,r21,r22,r23,hc,hk,Vs,VY,VQ,V0,VZ,q1,b2,i2,hm1,hget,Ya,Yb,nn_,lm_,List.length_set]
    exact Ye _ _ _ _ _ _ _ ⟨by simp only [go_sem,e0],by simp only [go_sem,e1],by simp only [go_sem],by simp only [go_sem,e3],by simp only [go_sem,e4],by simp only [go_sem],by simp only [go_sem]⟩ y2 (by omega) (by omega) (by omega) z2 rfl
  |false=>
   have Vs:(c d[a-1]! d[p]! <0)=False:=by rw [hlt] at Vr;simpa using Vr
   rw [Vr,if_pos (show (!false)=true from rfl)] at Ye
   generalize d[a-1]! =x at*
   generalize d[p]! =y at*
   simp only [go_sem,tl129,e0,e1,e2,e3,e4,e10,e11,e12,e13,q0,hw,r10,r11,r12,r13,r20,r21,r22,r23,hc,hk,Vs,QS,hget,Ya,Yb,nn_,lm_,List.length_set]
   exact Ye _ _ _ _ _ _ _ ⟨by simp only [go_sem,e0],by simp only [go_sem],by simp only [go_sem,e2],by simp only [go_sem,e3],by simp only [go_sem,e4],by simp only [go_sem,e10],by simp only [go_sem,e11]⟩ id (by omega) hb (by omega) (by rw [VF.1,hsz]) rfl
theorem pdq0s (hn2:n<256)(N:Nat)(ih:(∀(a b li:Nat) (d:Array (Fin 256)) (X0:List (List AV)),a≤b→b≤n→d.size=n→li<1000→b-a<N→(pdq lt d a b li true true).size=n∧∃X1,(PL X0→PL X1)∧run L 129 [.rsl l 0 n n 1 ag,J a,J b,J li,.fn (.func k) [] caps] ⟨put S0 l (Dm gS d) X0,T⟩=some (.tup [],⟨put S0 l (Dm gS (pdq lt d a b li true true)) X1,T⟩)))(lo hi2:Nat)(a:Nat)(b:Nat)(li:Nat)(wb:Bool)(wp:Bool)(d:Array (Fin 256))(X0:List (List AV))(hok:a≤b∧b≤n∧d.size=n∧li<1000∧b-a≤N)(env:Env)(st:St)
  (hg:gcAV false lo hi2 (canon env [0,1,2,3,4,10,11]) st=([(0,.rsl l 0 n n 1 ag),(1,J a),(2,J b),(3,J li),(4,.fn (.func k) [] caps),(10,B wb),(11,B wp)],⟨put S0 l (Dm gS d) X0,T⟩)):
  ∃x_1 en s,lim (headed pure (run L) false [0,1,2,3,4,10,11] lp129_0 lo hi2) env st=some (x_1,en,s)∧(x_1=.ret∧(pdq lt d a b li wb wp).size=n∧∃X1,(PL X0→PL X1)∧s=⟨put S0 l (Dm gS (pdq lt d a b li wb wp)) X1,T⟩):=by
 refine z8 (α:=Nat×Nat×Nat×Bool×Bool×Array (Fin 256)×List (List AV)) (fun ⟨a,b,li,wb,wp,d,X0⟩=>b-a) (fun ⟨a,b,li,wb,wp,d,X0⟩=>a≤b∧b≤n∧d.size=n∧li<1000∧b-a≤N) (fun ⟨a,b,li,wb,wp,d,X0⟩=>([(0,.rsl l 0 n n 1 ag),(1,J a),(2,J b),(3,J li),(4,.fn (.func k) [] caps),(10,B wb),(11,B wp)],⟨put S0 l (Dm gS d) X0,T⟩)) (fun ⟨a,b,li,wb,wp,d,X0⟩ x_1 en s=>x_1=.ret∧(pdq lt d a b li wb wp).size=n∧∃X1,(PL X0→PL X1)∧s=⟨put S0 l (Dm gS (pdq lt d a b li wb wp)) X1,T⟩) (fun ⟨a,b,li,wb,wp,d,X0⟩ hok=> ?_) ⟨a,b,li,wb,wp,d,X0⟩ hok env st hg
 simp only at hok
 obtain ⟨h1,h2,hsz,VN,hN⟩:=hok
 dsimp only at h1 h2 hsz VN hN⊢
 have hw:=z6z b a h1 (by omega)
 rw [zm0]
 by_cases VD:b-a≤12
 ·have q12:(((b-a:Nat):Int)≤12)=True:=eT (by omega)
  have e:pdq lt d a b li wb wp=insertionSort lt d a b:=by rw [pdq,if_pos VD]
  rw [e]
  have hi:=inss S0 T l hl n hn ag k hk caps c lt hlt hc X0 a b (by omega) h2 d hsz
  simp only [go_sem,lp129_0,hw,q12,hi]
  exact ⟨by rw [z50,hsz],_,id,rfl⟩
 ·have q12:(((b-a:Nat):Int)≤12)=False:=eF (by omega)
  by_cases hl0:li=0
  ·have ql:((li:Int)=0)=True:=eT (by omega)
   have e:pdq lt d a b li wb wp=Go.Sort.heapSort lt d a b:=by rw [pdq,if_neg VD,if_pos hl0]
   rw [e]
   have hh:=heaps S0 T l hl n hn ag k hk caps c lt hlt hc X0 d hsz a b (by omega) h2
   simp only [go_sem,lp129_0,hw,q12,ql,hh]
   exact ⟨by rw [z7f,hsz],_,id,rfl⟩
  ·have ql:((li:Int)=0)=False:=eF (by omega)
   have hb1:=zu b (by omega) (by omega)
   cases wb with
   |false=>
    obtain ⟨BB,hbr⟩:=brks S0 T l hl n hn ag k caps X0 d hsz a b (by omega) h2 (by omega)
    have hz1:(breakPatterns d a b).size=n:=by rw [z5c,hsz]
    have hpl:=zu li (by omega) (by omega)
    generalize hd1:breakPatterns d a b=d1 at*
    obtain ⟨B2,hpv⟩:=pivs S0 T l hl n hn ag k hk caps c lt hlt hc (X0++ [[U BB]]) d1 hz1 a b (by omega) h2
    have hpr:=Go.Sort.choosePivot_holds lt d1 a b (by omega)
    generalize Vr:choosePivot lt d1 a b=cc at*
    obtain ⟨pv,Ym⟩:=cc
    dsimp only at hpr hpv
    cases Ym with
    |unknown=>
     have hpv:run L 164 [.rsl l 0 n n 1 ag,J a,J b,.fn (.func k) [] caps] ⟨put S0 l (Dm gS d1) (X0++ [[U BB]]),T⟩=some (.tup [J pv,I 0],⟨put S0 l (Dm gS d1) ((X0++ [[U BB]])++ [[J B2]]),T⟩):=hpv
     have e:pdq lt d a b li false wp=pdqT lt d1 a b pv (li-1) false wp:=by rw [zr lt d false wp (by omega) hl0];simp [hd1,Vr]
     rw [e]
     simp only [go_sem,lp129_0,hw,q12,ql,hbr,hpl,hpv]
     refine zdt S0 T l hl n hn ag k hk caps c lt hlt hc N ih _ _ a b (li-1) pv false wp d1 hz1 (by omega) h2 hN (by omega) (by omega) (by omega) rfl rfl rfl rfl rfl rfl rfl rfl rfl _ _ (fun E a2 b2 w2 v2 d9 X9 he gx g1 g2 g3 g4 g5=> ?_)
     obtain ⟨f0,f1,f2,f3,f4,f5,f6⟩:=he
     exact ⟨(a2,b2,(li-1),w2,v2,d9,X9),by simp only [go_sem,f0,f1,f2,f3,f4,f5,f6],by dsimp only;exact ⟨g1,g2,g4,by omega,by omega⟩,g3,fun x en s ⟨q1,q2,X8,q4,q5⟩=>by rw [g5];exact ⟨q1,q2,X8,fun h0=>q4 (gx ((h0.snoc _ _).snoc _ _)),q5⟩⟩
    |increasing=>
     have hpv:run L 164 [.rsl l 0 n n 1 ag,J a,J b,.fn (.func k) [] caps] ⟨put S0 l (Dm gS d1) (X0++ [[U BB]]),T⟩=some (.tup [J pv,I 1],⟨put S0 l (Dm gS d1) ((X0++ [[U BB]])++ [[J B2]]),T⟩):=hpv
     have e:pdq lt d a b li false wp=pdqT lt d1 a b pv (li-1) false wp:=by rw [zr lt d false wp (by omega) hl0];simp [hd1,Vr]
     rw [e]
     simp only [go_sem,lp129_0,hw,q12,ql,hbr,hpl,hpv]
     refine zdt S0 T l hl n hn ag k hk caps c lt hlt hc N ih _ _ a b (li-1) pv false wp d1 hz1 (by omega) h2 hN (by omega) (by omega) (by omega) rfl rfl rfl rfl rfl rfl rfl rfl rfl _ _ (fun E a2 b2 w2 v2 d9 X9 he gx g1 g2 g3 g4 g5=> ?_)
     obtain ⟨f0,f1,f2,f3,f4,f5,f6⟩:=he
     exact ⟨(a2,b2,(li-1),w2,v2,d9,X9),by simp only [go_sem,f0,f1,f2,f3,f4,f5,f6],by dsimp only;exact ⟨g1,g2,g4,by omega,by omega⟩,g3,fun x en s ⟨q1,q2,X8,q4,q5⟩=>by rw [g5];exact ⟨q1,q2,X8,fun h0=>q4 (gx ((h0.snoc _ _).snoc _ _)),q5⟩⟩
    |decreasing=>
     have hpv:run L 164 [.rsl l 0 n n 1 ag,J a,J b,.fn (.func k) [] caps] ⟨put S0 l (Dm gS d1) (X0++ [[U BB]]),T⟩=some (.tup [J pv,I 2],⟨put S0 l (Dm gS d1) ((X0++ [[U BB]])++ [[J B2]]),T⟩):=hpv
     have VT:=revs S0 T l hl n hn ag k caps ((X0++ [[U BB]])++ [[J B2]]) d1 hz1 a b (by omega) h2
     have hz2:(reverseRange d1 a b).size=n:=by rw [z0l,hz1]
     have VO:=z6z pv a (by omega) (by omega)
     have VU:=z6z (b-1) (pv-a) (by omega) (by omega)
     generalize hd2:reverseRange d1 a b=d2 at*
     have e:pdq lt d a b li false wp=pdqT lt d2 a b (b-1-(pv-a)) (li-1) false wp:=by rw [zr lt d false wp (by omega) hl0];simp [hd1,Vr,hd2]
     rw [e]
     simp only [go_sem,lp129_0,hw,q12,ql,hbr,hpl,hpv,VT,hb1,VO,VU]
     refine zdt S0 T l hl n hn ag k hk caps c lt hlt hc N ih _ _ a b (li-1) (b-1-(pv-a)) false wp d2 hz2 (by omega) h2 hN (by omega) (by omega) (by omega) rfl rfl rfl rfl rfl rfl rfl rfl rfl _ _ (fun E a2 b2 w2 v2 d9 X9 he gx g1 g2 g3 g4 g5=> ?_)
     obtain ⟨f0,f1,f2,f3,f4,f5,f6⟩:=he
     exact ⟨(a2,b2,(li-1),w2,v2,d9,X9),by simp only [go_sem,f0,f1,f2,f3,f4,f5,f6],by dsimp only;exact ⟨g1,g2,g4,by omega,by omega⟩,g3,fun x en s ⟨q1,q2,X8,q4,q5⟩=>by rw [g5];exact ⟨q1,q2,X8,fun h0=>q4 (gx ((h0.snoc _ _).snoc _ _)),q5⟩⟩
   |true=>
    obtain ⟨B2,hpv⟩:=pivs S0 T l hl n hn ag k hk caps c lt hlt hc X0 d hsz a b (by omega) h2
    have hpr:=Go.Sort.choosePivot_holds lt d a b (by omega)
    generalize Vr:choosePivot lt d a b=cc at*
    obtain ⟨pv,Ym⟩:=cc
    dsimp only at hpr hpv
    cases Ym with
    |unknown=>
     have hpv:run L 164 [.rsl l 0 n n 1 ag,J a,J b,.fn (.func k) [] caps] ⟨put S0 l (Dm gS d) X0,T⟩=some (.tup [J pv,I 0],⟨put S0 l (Dm gS d) (X0++ [[J B2]]),T⟩):=hpv
     have e:pdq lt d a b li true wp=pdqT lt d a b pv li true wp:=by rw [zr lt d true wp (by omega) hl0];simp [Vr]
     rw [e]
     cases wp with
     |false=>
      simp only [go_sem,lp129_0,hw,q12,ql,hpv]
      refine zdt S0 T l hl n hn ag k hk caps c lt hlt hc N ih _ _ a b li pv true false d hsz (by omega) h2 hN (by omega) (by omega) (by omega) rfl rfl rfl rfl rfl rfl rfl rfl rfl _ _ (fun E a2 b2 w2 v2 d9 X9 he gx g1 g2 g3 g4 g5=> ?_)
      obtain ⟨f0,f1,f2,f3,f4,f5,f6⟩:=he
      exact ⟨(a2,b2,li,w2,v2,d9,X9),by simp only [go_sem,f0,f1,f2,f3,f4,f5,f6],by dsimp only;exact ⟨g1,g2,g4,by omega,by omega⟩,g3,fun x en s ⟨q1,q2,X8,q4,q5⟩=>by rw [g5];exact ⟨q1,q2,X8,fun h0=>q4 (gx (h0.snoc _ _)),q5⟩⟩
     |true=>
      simp only [go_sem,lp129_0,hw,q12,ql,hpv]
      refine zdt S0 T l hl n hn ag k hk caps c lt hlt hc N ih _ _ a b li pv true true d hsz (by omega) h2 hN (by omega) (by omega) (by omega) rfl rfl rfl rfl rfl rfl rfl rfl rfl _ _ (fun E a2 b2 w2 v2 d9 X9 he gx g1 g2 g3 g4 g5=> ?_)
      obtain ⟨f0,f1,f2,f3,f4,f5,f6⟩:=he
      exact ⟨(a2,b2,li,w2,v2,d9,X9),by simp only [go_sem,f0,f1,f2,f3,f4,f5,f6],by dsimp only;exact ⟨g1,g2,g4,by omega,by omega⟩,g3,fun x en s ⟨q1,q2,X8,q4,q5⟩=>by rw [g5];exact ⟨q1,q2,X8,fun h0=>q4 (gx (h0.snoc _ _)),q5⟩⟩
    |increasing=>
     have hpv:run L 164 [.rsl l 0 n n 1 ag,J a,J b,.fn (.func k) [] caps] ⟨put S0 l (Dm gS d) X0,T⟩=some (.tup [J pv,I 1],⟨put S0 l (Dm gS d) (X0++ [[J B2]]),T⟩):=hpv
     cases wp with
     |false=>
      have e:pdq lt d a b li true false=pdqT lt d a b pv li true false:=by rw [zr lt d true false (by omega) hl0];simp [Vr]
      rw [e]
      simp only [go_sem,lp129_0,hw,q12,ql,hpv]
      refine zdt S0 T l hl n hn ag k hk caps c lt hlt hc N ih _ _ a b li pv true false d hsz (by omega) h2 hN (by omega) (by omega) (by omega) rfl rfl rfl rfl rfl rfl rfl rfl rfl _ _ (fun E a2 b2 w2 v2 d9 X9 he gx g1 g2 g3 g4 g5=> ?_)
      obtain ⟨f0,f1,f2,f3,f4,f5,f6⟩:=he
      exact ⟨(a2,b2,li,w2,v2,d9,X9),by simp only [go_sem,f0,f1,f2,f3,f4,f5,f6],by dsimp only;exact ⟨g1,g2,g4,by omega,by omega⟩,g3,fun x en s ⟨q1,q2,X8,q4,q5⟩=>by rw [g5];exact ⟨q1,q2,X8,fun h0=>q4 (gx (h0.snoc _ _)),q5⟩⟩
     |true=>
      have VG:=piss S0 T l hl n hn ag k hk caps c lt hlt hc (X0++ [[J B2]]) d hsz a b (by omega) h2
      have VH:(partialInsertionSort lt d a b).1.size=n:=by unfold partialInsertionSort;rw [z0t,hsz]
      generalize VF:partialInsertionSort lt d a b=pi at*
      obtain ⟨d3,ok⟩:=pi
      dsimp only at VG VH
      cases ok with
      |true=>
       have e:pdq lt d a b li true true=d3:=by rw [zr lt d true true (by omega) hl0];simp [Vr,VF]
       rw [e]
       simp only [go_sem,lp129_0,hw,q12,ql,hpv,VG]
       exact ⟨VH,_,fun h0=>(h0.snoc _ _),rfl⟩
      |false=>
       have e:pdq lt d a b li true true=pdqT lt d3 a b pv li true true:=by rw [zr lt d true true (by omega) hl0];simp [Vr,VF]
       rw [e]
       simp only [go_sem,lp129_0,hw,q12,ql,hpv,VG]
       refine zdt S0 T l hl n hn ag k hk caps c lt hlt hc N ih _ _ a b li pv true true d3 VH (by omega) h2 hN (by omega) (by omega) (by omega) rfl rfl rfl rfl rfl rfl rfl rfl rfl _ _ (fun E a2 b2 w2 v2 d9 X9 he gx g1 g2 g3 g4 g5=> ?_)
       obtain ⟨f0,f1,f2,f3,f4,f5,f6⟩:=he
       exact ⟨(a2,b2,li,w2,v2,d9,X9),by simp only [go_sem,f0,f1,f2,f3,f4,f5,f6],by dsimp only;exact ⟨g1,g2,g4,by omega,by omega⟩,g3,fun x en s ⟨q1,q2,X8,q4,q5⟩=>by rw [g5];exact ⟨q1,q2,X8,fun h0=>q4 (gx (h0.snoc _ _)),q5⟩⟩
    |decreasing=>
     have hpv:run L 164 [.rsl l 0 n n 1 ag,J a,J b,.fn (.func k) [] caps] ⟨put S0 l (Dm gS d) X0,T⟩=some (.tup [J pv,I 2],⟨put S0 l (Dm gS d) (X0++ [[J B2]]),T⟩):=hpv
     have VT:=revs S0 T l hl n hn ag k caps (X0++ [[J B2]]) d hsz a b (by omega) h2
     have hz2:(reverseRange d a b).size=n:=by rw [z0l,hsz]
     have VO:=z6z pv a (by omega) (by omega)
     have VU:=z6z (b-1) (pv-a) (by omega) (by omega)
     generalize hd2:reverseRange d a b=d2 at*
     cases wp with
     |false=>
      have e:pdq lt d a b li true false=pdqT lt d2 a b (b-1-(pv-a)) li true false:=by rw [zr lt d true false (by omega) hl0];simp [Vr,hd2]
      rw [e]
      simp only [go_sem,lp129_0,hw,q12,ql,hpv,VT,hb1,VO,VU]
      refine zdt S0 T l hl n hn ag k hk caps c lt hlt hc N ih _ _ a b li (b-1-(pv-a)) true false d2 hz2 (by omega) h2 hN (by omega) (by omega) (by omega) rfl rfl rfl rfl rfl rfl rfl rfl rfl _ _ (fun E a2 b2 w2 v2 d9 X9 he gx g1 g2 g3 g4 g5=> ?_)
      obtain ⟨f0,f1,f2,f3,f4,f5,f6⟩:=he
      exact ⟨(a2,b2,li,w2,v2,d9,X9),by simp only [go_sem,f0,f1,f2,f3,f4,f5,f6],by dsimp only;exact ⟨g1,g2,g4,by omega,by omega⟩,g3,fun x en s ⟨q1,q2,X8,q4,q5⟩=>by rw [g5];exact ⟨q1,q2,X8,fun h0=>q4 (gx (h0.snoc _ _)),q5⟩⟩
     |true=>
      have VG:=piss S0 T l hl n hn ag k hk caps c lt hlt hc (X0++ [[J B2]]) d2 hz2 a b (by omega) h2
      have VH:(partialInsertionSort lt d2 a b).1.size=n:=by unfold partialInsertionSort;rw [z0t,hz2]
      generalize VF:partialInsertionSort lt d2 a b=pi at*
      obtain ⟨d3,ok⟩:=pi
      dsimp only at VG VH
      cases ok with
      |true=>
       have e:pdq lt d a b li true true=d3:=by rw [zr lt d true true (by omega) hl0];simp [Vr,hd2,VF]
       rw [e]
       simp only [go_sem,lp129_0,hw,q12,ql,hpv,VT,hb1,VO,VU,VG]
       exact ⟨VH,_,fun h0=>(h0.snoc _ _),rfl⟩
      |false=>
       have e:pdq lt d a b li true true=pdqT lt d3 a b (b-1-(pv-a)) li true true:=by rw [zr lt d true true (by omega) hl0];simp [Vr,hd2,VF]
       rw [e]
       simp only [go_sem,lp129_0,hw,q12,ql,hpv,VT,hb1,VO,VU,VG]
       refine zdt S0 T l hl n hn ag k hk caps c lt hlt hc N ih _ _ a b li (b-1-(pv-a)) true true d3 VH (by omega) h2 hN (by omega) (by omega) (by omega) rfl rfl rfl rfl rfl rfl rfl rfl rfl _ _ (fun E a2 b2 w2 v2 d9 X9 he gx g1 g2 g3 g4 g5=> ?_)
       obtain ⟨f0,f1,f2,f3,f4,f5,f6⟩:=he
       exact ⟨(a2,b2,li,w2,v2,d9,X9),by simp only [go_sem,f0,f1,f2,f3,f4,f5,f6],by dsimp only;exact ⟨g1,g2,g4,by omega,by omega⟩,g3,fun x en s ⟨q1,q2,X8,q4,q5⟩=>by rw [g5];exact ⟨q1,q2,X8,fun h0=>q4 (gx (h0.snoc _ _)),q5⟩⟩
end
theorem pdqs (S0:List (List AV))(T:List Nat)(l:Nat)(hl:l<S0.length)(n:Nat)(hn:n≤1000)(ag:Bool)(k:Nat)(hk:pure k=true)(caps:List AV)(c:Fin 256→Fin 256→Int)(lt:Fin 256→Fin 256→Bool)(hlt: ∀x y,lt x y=decide (c x y<0))(hc: ∀x y X E,run L k (fS x::fS y::caps) ⟨put S0 l X E,T⟩=some (I (c x y),⟨put S0 l X E,T⟩))(hn2:n<256): ∀(N a b li:Nat) (d:Array (Fin 256)) (X0:List (List AV)),a≤b→b≤n→d.size=n→li<1000→b-a<N→(pdq lt d a b li true true).size=n∧∃X1,(PL X0→PL X1)∧run L 129 [.rsl l 0 n n 1 ag,J a,J b,J li,.fn (.func k) [] caps] ⟨put S0 l (Dm gS d) X0,T⟩=some (.tup [],⟨put S0 l (Dm gS (pdq lt d a b li true true)) X1,T⟩)
 |0,_,_,_,_,_,_,_,_,_,h=>by omega
 |N+1,a,b,li,d,X0,h1,h2,hsz,VN,hN=>by
  have ih:=pdqs S0 T l hl n hn ag k hk caps c lt hlt hc hn2 N
  rw [z6 (fn:=ir129) rfl rfl]
  simp only [ir129,go_sem]
  generalize hg:lim (headed pure (run L) false _ lp129_0 _ _) _ _=o
  obtain ⟨x,en,s,rfl,h2⟩: ∃x en s,o=some (x,en,s)∧_:=by rw [←hg];exact pdq0s S0 T l hl n hn ag k hk caps c lt hlt hc hn2 N ih _ _ a b li true true d X0 ⟨h1,h2,hsz,VN,by omega⟩ _ _ (by simp only [go_sem]<;>rfl)
  clear hg
  obtain ⟨rfl,hz,X1,hX1,rfl⟩:=h2
  refine ⟨hz,X1,hX1,?_⟩
  simp only [go_sem]
section
variable (S0:List (List AV)) (T:List Nat) (l:Nat) (hl:l<S0.length) (n:Nat) (hn:n≤1000) (ag:Bool) (k:Nat) (hk:pure k=true) (caps:List AV) (c:Fin 256→Fin 256→Int) (lt:Fin 256→Fin 256→Bool) (hlt: ∀x y,lt x y=decide (c x y<0)) (hc: ∀x y X E,run L k (fS x::fS y::caps) ⟨put S0 l X E,T⟩=some (I (c x y),⟨put S0 l X E,T⟩))
include S0 T l hl n hn ag k hk caps c lt hlt hc
theorem sorts (hn2:n<256)(d:Array (Fin 256))(hsz:d.size=n)(X0:List (List AV)):
  ∃X1,(PL X0→PL X1)∧run L 80 [.rsl l 0 n n 1 ag,.fn (.func k) [] caps] ⟨put S0 l (Dm gS d) X0,T⟩=some (.tup [],⟨put S0 l (Dm gS (Go.Sort.sort lt d)) X1,T⟩):=by
 rw [z6 (fn:=ir80) rfl rfl]
 have VE:=z8s n (by omega)
 have VI:=fun st=>c115 n hn2 st
 have hbl:bitsLen n<1000:=by
  have:=(Go.Sort.bitsLen_le_iff n 8).2 (by omega)
  omega
 obtain ⟨hz,X1,hX1,h⟩:=pdqs S0 T l hl n hn ag k hk caps c lt hlt hc hn2 (n+1) 0 n (bitsLen n) d X0 (by omega) (by omega) hsz hbl (by omega)
 refine ⟨X1,hX1,?_⟩
 have e:Go.Sort.sort lt d=pdq lt d 0 n (bitsLen n) true true:=by unfold Go.Sort.sort;rw [hsz]
 rw [e]
 have h:run L 129 [.rsl l 0 n n 1 ag,I 0,J n,J (bitsLen n),.fn (.func k) [] caps] ⟨put S0 l (Dm gS d) X0,T⟩=_:=h
 simp only [ir80,go_sem,VE,VI,h]
end
section
variable (S0:List (List AV)) (T:List Nat) (l:Nat) (hl:l<S0.length) (n:Nat) (hn:n≤1000) (ag:Bool) (k:Nat) (hk:pure k=false) (caps:List AV) (c:LI→LI→Int) (lt:LI→LI→Bool) (hlt: ∀x y,lt x y=decide (c x y<0)) (hc: ∀x y X E,run L k (fL x::fL y::caps) ⟨put S0 l X E,T⟩=some (I (c x y),⟨put S0 l X E,T⟩))
include S0 T l hl n hn ag k hk caps c lt hlt hc
theorem ins0l (X0:List (List AV))(a b i:Nat)(hi:i<n)(lo hi2:Nat)(j:Nat)(d:Array (LI))(hok:j≤i∧d.size=n)(env:Env)(st:St)
  (hg:gcAV false lo hi2 (canon env [0,1,2,3,8,9]) st=([(0,.rsl l 0 n n 1 ag),(1,J a),(2,J b),(3,.fn (.func k) [] caps),(8,J i),(9,J j)],⟨put S0 l (Dm fL d) X0,T⟩)):
  ∃x_1 en s,lim (headed pure (run L) false [0,1,2,3,8,9] lp173_0 lo hi2) env st=some (x_1,en,s)∧(x_1=.exit 2∧en.get 0=.rsl l 0 n n 1 ag∧en.get 1=J a∧en.get 2=J b∧en.get 3=.fn (.func k) [] caps∧en.get 8=J i∧s=⟨put S0 l (Dm fL (insInner lt a j d)) X0,T⟩):=by
 refine z8 (α:=Nat×Array (LI)) (fun ⟨j,d⟩=>j) (fun ⟨j,d⟩=>j≤i∧d.size=n) (fun ⟨j,d⟩=>([(0,.rsl l 0 n n 1 ag),(1,J a),(2,J b),(3,.fn (.func k) [] caps),(8,J i),(9,J j)],⟨put S0 l (Dm fL d) X0,T⟩)) (fun ⟨j,d⟩ x_1 en s=>x_1=.exit 2∧en.get 0=.rsl l 0 n n 1 ag∧en.get 1=J a∧en.get 2=J b∧en.get 3=.fn (.func k) [] caps∧en.get 8=J i∧s=⟨put S0 l (Dm fL (insInner lt a j d)) X0,T⟩) (fun ⟨j,d⟩ hok=> ?_) ⟨j,d⟩ hok env st hg
 simp only at hok
 obtain ⟨h1,hsz⟩:=hok
 dsimp only at h1 hsz⊢
 have hget:=zg hl
 have Ya:=zf hl
 have Yb:(Dm fL d).length=n:=by rw [zm,hsz]
 by_cases h:a<j
 ·obtain ⟨m,rfl⟩: ∃m,j=m+1:=⟨j-1,by omega⟩
  have e:insInner lt a (m+1) d=if (decide (m+1>a)&&lt d[m+1]! d[m]!)=true then insInner lt a m (swp d (m+1) m) else d:=rfl
  rw [e]
  have hgt:((a:Int)<((m+1:Nat):Int))=True:=eT (by omega)
  have hw:IntKind.i64.wrap (((m+1:Nat):Int)-1)=((m:Nat):Int):=by rw [zz]<;>omega
  have r10:(((m+1:Nat):Int)<(n:Int))=True:=eT (by omega)
  have r11:((m+1:Nat)<n)=True:=eT (by omega)
  have r12:((m+1:Nat)+1≤n)=True:=eT (by omega)
  have r13:(Dm fL d)[m+1]? =some (fL d[m+1]!):=zc fL d (by omega)
  have r20:(((m:Nat):Int)<(n:Int))=True:=eT (by omega)
  have r21:((m:Nat)<n)=True:=eT (by omega)
  have r22:((m:Nat)+1≤n)=True:=eT (by omega)
  have r23:(Dm fL d)[m]? =some (fL d[m]!):=zc fL d (by omega)
  have hd:decide (m+1>a)=true:=decide_eq_true (by omega)
  have Vt:=zx fL d (m+1) m
  rw [hd,Bool.true_and]
  cases Vr:lt d[m+1]! d[m]! with
  |true=>
   have Vs:(c d[m+1]! d[m]! <0)=True:=by rw [hlt] at Vr;simpa using Vr
   rw [if_pos rfl]
   generalize d[m+1]! =x at*
   generalize d[m]! =y at*
   simp only [go_sem,lp173_0,hgt,hw,r10,r11,r12,r13,r20,r21,r22,r23,hc,hk,Vs,hget,Ya,Yb,nn_,lm_,List.length_set]
   refine ⟨(m,swp d (m+1) m),by simp only [go_sem,z3,z4,z5,Vt]<;>rfl,?_,?_,fun x en s hq=> ?_⟩
   ·dsimp only;exact ⟨by omega,zh hsz⟩
   ·dsimp only;omega
   ·exact hq
  |false=>
   have Vs:(c d[m+1]! d[m]! <0)=False:=by rw [hlt] at Vr;simpa using Vr
   rw [if_neg (by simp)]
   generalize d[m+1]! =x at*
   generalize d[m]! =y at*
   simp only [go_sem,lp173_0,hgt,hw,r10,r11,r12,r13,r20,r21,r22,r23,hc,hk,Vs,hget,Ya,Yb,nn_,lm_,List.length_set]
 ·have hgt:((a:Int)<(j:Int))=False:=eF (by omega)
  have e:insInner lt a j d=d:=by
   cases j with
   |zero=>rfl
   |succ m=>unfold insInner;rw [if_neg (by simp;omega)]
  rw [e]
  simp only [go_sem,lp173_0,hgt]
theorem ins1l (X0:List (List AV))(a b:Nat)(hb:b≤n)(lo hi2:Nat)(i:Nat)(d:Array (LI))(hok:i≤n+1∧d.size=n)(env:Env)(st:St)
  (hg:gcAV false lo hi2 (canon env [0,1,2,3,8]) st=([(0,.rsl l 0 n n 1 ag),(1,J a),(2,J b),(3,.fn (.func k) [] caps),(8,J i)],⟨put S0 l (Dm fL d) X0,T⟩)):
  ∃x_1 en s,lim (headed pure (run L) false [0,1,2,3,8] lp173_1 lo hi2) env st=some (x_1,en,s)∧(x_1=.exit 0∧s=⟨put S0 l (Dm fL (insOuter lt a b i d)) X0,T⟩):=by
 refine z8 (α:=Nat×Array (LI)) (fun ⟨i,d⟩=>b-i) (fun ⟨i,d⟩=>i≤n+1∧d.size=n) (fun ⟨i,d⟩=>([(0,.rsl l 0 n n 1 ag),(1,J a),(2,J b),(3,.fn (.func k) [] caps),(8,J i)],⟨put S0 l (Dm fL d) X0,T⟩)) (fun ⟨i,d⟩ x_1 en s=>x_1=.exit 0∧s=⟨put S0 l (Dm fL (insOuter lt a b i d)) X0,T⟩) (fun ⟨i,d⟩ hok=> ?_) ⟨i,d⟩ hok env st hg
 simp only at hok
 obtain ⟨h1,hsz⟩:=hok
 dsimp only at h1 hsz⊢
 by_cases h:i<b
 ·have e:insOuter lt a b i d=insOuter lt a b (i+1) (insInner lt a i d):=by
   rw [insOuter,if_pos h]
  rw [e]
  have Yc:((i:Int)<(b:Int))=True:=eT (by omega)
  have hs:=za i (by omega)
  have hz:(insInner lt a i d).size=n:=by rw [z3o,hsz]
  simp only [go_sem,lp173_1,Yc]
  generalize hg:lim (headed pure (run L) false _ lp173_0 _ _) _ _=o
  obtain ⟨x,en,s,rfl,h2⟩: ∃x en s,o=some (x,en,s)∧_:=by rw [←hg];exact ins0l S0 T l hl n hn ag k hk caps c lt hlt hc X0 a b i (by omega) _ _ i d ⟨Nat.le_refl _,hsz⟩ _ _ (by simp only [go_sem]<;>rfl)
  clear hg
  obtain ⟨rfl,e0,e1,e2,e3,e8,rfl⟩:=h2
  simp only [go_sem,lp173_1,e0,e1,e2,e3,e8,hs]
  refine ⟨(i+1,insInner lt a i d),by simp only [go_sem,z3,z4,z5,e0,e1,e2,e3,e8]<;>rfl,?_,?_,fun x en s hq=> ?_⟩
  ·dsimp only;exact ⟨by omega,hz⟩
  ·dsimp only;omega
  ·exact hq
 ·have e:insOuter lt a b i d=d:=by rw [insOuter,if_neg h]
  rw [e]
  have Yc:((i:Int)<(b:Int))=False:=eF (by omega)
  simp only [go_sem,lp173_1,Yc]
theorem insl (X0:List (List AV))(a b:Nat)(ha:a≤n)(hb:b≤n)(d:Array (LI))(hsz:d.size=n):
  run L 173 [.rsl l 0 n n 1 ag,J a,J b,.fn (.func k) [] caps] ⟨put S0 l (Dm fL d) X0,T⟩=some (.tup [],⟨put S0 l (Dm fL (insertionSort lt d a b)) X0,T⟩):=by
 rw [z6 (fn:=ir173) rfl rfl]
 have hs:=za a (by omega)
 simp only [ir173,go_sem,hs]
 generalize hg:lim (headed pure (run L) false _ lp173_1 _ _) _ _=o
 obtain ⟨x,en,s,rfl,h2⟩: ∃x en s,o=some (x,en,s)∧_:=by rw [←hg];exact ins1l S0 T l hl n hn ag k hk caps c lt hlt hc X0 a b hb _ _ (a+1) d ⟨by omega,hsz⟩ _ _ (by simp only [go_sem]<;>rfl)
 clear hg
 obtain ⟨rfl,rfl⟩:=h2
 simp only [go_sem]
 rfl
theorem ordl (X0:List (List AV))(d:Array (LI))(hsz:d.size=n)(x y s:Nat)(hx:x<n)(hy:y<n)(hs:s<1000):
  run L 201 [.rsl l 0 n n 1 ag,J x,J y,.ptr (S0.length+X0.length) 0,.fn (.func k) [] caps] ⟨put S0 l (Dm fL d) (X0++ [[J s]]),T⟩=some (.tup [J (order2 lt d x y s).1,J (order2 lt d x y s).2.1],⟨put S0 l (Dm fL d) (X0++ [[J (order2 lt d x y s).2.2]]),T⟩):=by
 rw [z6 (fn:=ir201) rfl rfl]
 have hget:=zg hl
 have Ya:=zf hl
 have Yb:(Dm fL d).length=n:=by rw [zm,hsz]
 have r10:(((x:Nat):Int)<(n:Int))=True:=eT (by omega)
 have r11:((x:Nat)<n)=True:=eT (by omega)
 have r12:((x:Nat)+1≤n)=True:=eT (by omega)
 have r13:(Dm fL d)[x]? =some (fL d[x]!):=zc fL d (by omega)
 have r20:(((y:Nat):Int)<(n:Int))=True:=eT (by omega)
 have r21:((y:Nat)<n)=True:=eT (by omega)
 have r22:((y:Nat)+1≤n)=True:=eT (by omega)
 have r23:(Dm fL d)[y]? =some (fL d[y]!):=zc fL d (by omega)
 have hpl:=fun C B=>z1z (S0:=S0) (l:=l) C X0 B
 have hps:=fun C B B'=>z5y (S0:=S0) (l:=l) C X0 B B'
 have hs1:=za s (by omega)
 have e:order2 lt d x y s=if lt d[y]! d[x]! =true then (y,x,s+1) else (x,y,s):=rfl
 rw [e]
 cases Vr:lt d[y]! d[x]! with
 |true=>
  have Vs:(c d[y]! d[x]! <0)=True:=by rw [hlt] at Vr;simpa using Vr
  rw [if_pos rfl]
  generalize d[x]! =u at*
  generalize d[y]! =v at*
  simp only [ir201,go_sem,r10,r11,r12,r13,r20,r21,r22,r23,hc,hk,Vs,hpl,hps,hs1,hget,Ya,Yb,nn_,lm_,List.length_set]
 |false=>
  have Vs:(c d[y]! d[x]! <0)=False:=by rw [hlt] at Vr;simpa using Vr
  rw [if_neg (by simp)]
  generalize d[x]! =u at*
  generalize d[y]! =v at*
  simp only [ir201,go_sem,r10,r11,r12,r13,r20,r21,r22,r23,hc,hk,Vs,hget,Ya,Yb,nn_,lm_,List.length_set]
theorem medl (X0:List (List AV))(d:Array (LI))(hsz:d.size=n)(x y z s:Nat)(hx:x<n)(hy:y<n)(hz:z<n)(hs:s<900):
  run L 196 [.rsl l 0 n n 1 ag,J x,J y,J z,.ptr (S0.length+X0.length) 0,.fn (.func k) [] caps] ⟨put S0 l (Dm fL d) (X0++ [[J s]]),T⟩=some (J (median lt d x y z s).1,⟨put S0 l (Dm fL d) (X0++ [[J (median lt d x y z s).2]]),T⟩):=by
 rw [z6 (fn:=ir196) rfl rfl]
 have o1:=ordl S0 T l hl n hn ag k hk caps c lt hlt hc X0 d hsz x y s hx hy (by omega)
 have b1:=z4m lt d hx hy s
 have e:median lt d x y z s=((order2 lt d (order2 lt d x y s).1 (order2 lt d (order2 lt d x y s).2.1 z (order2 lt d x y s).2.2).1 (order2 lt d (order2 lt d x y s).2.1 z (order2 lt d x y s).2.2).2.2).2.1,(order2 lt d (order2 lt d x y s).1 (order2 lt d (order2 lt d x y s).2.1 z (order2 lt d x y s).2.2).1 (order2 lt d (order2 lt d x y s).2.1 z (order2 lt d x y s).2.2).2.2).2.2):=rfl
 rw [e]
 generalize order2 lt d x y s=r1 at*
 obtain ⟨x1,y1,s1⟩:=r1
 dsimp only at*
 have o2:=ordl S0 T l hl n hn ag k hk caps c lt hlt hc X0 d hsz y1 z s1 b1.2.1 hz (by omega)
 have b2:=z4m lt d b1.2.1 hz s1
 generalize order2 lt d y1 z s1=r2 at*
 obtain ⟨x2,y2,s2⟩:=r2
 dsimp only at*
 have o3:=ordl S0 T l hl n hn ag k hk caps c lt hlt hc X0 d hsz x1 x2 s2 b1.1 b2.1 (by omega)
 generalize order2 lt d x1 x2 s2=r3 at*
 obtain ⟨x3,y3,s3⟩:=r3
 dsimp only at*
 simp only [ir196,go_sem,o1,o2,o3]
theorem adjl (X0:List (List AV))(d:Array (LI))(hsz:d.size=n)(x s:Nat)(hx0:0<x)(hx:x+1<n)(hs:s<900):
  run L 195 [.rsl l 0 n n 1 ag,J x,.ptr (S0.length+X0.length) 0,.fn (.func k) [] caps] ⟨put S0 l (Dm fL d) (X0++ [[J s]]),T⟩=some (J (medianAdjacent lt d x s).1,⟨put S0 l (Dm fL d) (X0++ [[J (medianAdjacent lt d x s).2]]),T⟩):=by
 rw [z6 (fn:=ir195) rfl rfl]
 have o1:=medl S0 T l hl n hn ag k hk caps c lt hlt hc X0 d hsz (x-1) x (x+1) s (by omega) (by omega) (by omega) hs
 have h1:=za x (by omega)
 have h2:=zu x (by omega) (by omega)
 have e:medianAdjacent lt d x s=median lt d (x-1) x (x+1) s:=rfl
 rw [e]
 simp only [ir195,go_sem,h1,h2,o1]
theorem pivl (X0:List (List AV))(d:Array (LI))(hsz:d.size=n)(a b:Nat)(VA:a+13≤b)(hb:b≤n):
  ∃s4:Nat,run L 176 [.rsl l 0 n n 1 ag,J a,J b,.fn (.func k) [] caps] ⟨put S0 l (Dm fL d) X0,T⟩=some (.tup [J (choosePivot lt d a b).1,J (hintN (choosePivot lt d a b).2)],⟨put S0 l (Dm fL d) (X0++ [[J s4]]),T⟩):=by
 rw [z6 (fn:=ir176) rfl rfl]
 have Vy:=fun C=>z5k (S0:=S0) (l:=l) C X0
 have VC:=fun C B=>z8f (S0:=S0) (l:=l) C X0 B
 have hpl:=fun C B=>z1z (S0:=S0) (l:=l) C X0 B
 have hw:=z6z b a (by omega) (by omega)
 obtain ⟨len,hlen⟩: ∃len,len=b-a:=⟨_,rfl⟩
 rw [←hlen] at hw
 have hq:IntKind.i64.wrap (Int.tdiv (len:Int) 4)=((len / 4:Nat):Int):=zga len 4 (by omega) (by omega)
 obtain ⟨q,VJ⟩: ∃q,q=len / 4:=⟨_,rfl⟩
 rw [←VJ] at hq
 have hm1:IntKind.i64.wrap ((q:Int)*1)=((q:Nat):Int):=by rw [zz]<;>omega
 have hm2:IntKind.i64.wrap ((q:Int)*2)=((q*2:Nat):Int):=by rw [zz]<;>omega
 have VK:IntKind.i64.wrap ((q:Int)*3)=((q*3:Nat):Int):=by rw [zz]<;>omega
 have VB:=z8t a q (by omega)
 have Vu:=z8t a (q*2) (by omega)
 have Vx:=z8t a (q*3) (by omega)
 have e:choosePivot lt d a b=(let r:Nat×Nat:=if len≥50 then median lt d (medianAdjacent lt d (a+q) 0).1 (medianAdjacent lt d (a+q*2) (medianAdjacent lt d (a+q) 0).2).1 (medianAdjacent lt d (a+q*3) (medianAdjacent lt d (a+q*2) (medianAdjacent lt d (a+q) 0).2).2).1 (medianAdjacent lt d (a+q*3) (medianAdjacent lt d (a+q*2) (medianAdjacent lt d (a+q) 0).2).2).2 else median lt d (a+q) (a+q*2) (a+q*3) 0;(r.1,if r.2=0 then Go.Sort.Hint.increasing else if r.2=12 then Go.Sort.Hint.decreasing else Go.Sort.Hint.unknown)):=by
  unfold choosePivot
  simp only [←hlen,←VJ,Nat.mul_one]
  rw [if_pos (by omega)]
 rw [e]
 have q8:((8:Int)≤(len:Int))=True:=eT (by omega)
 by_cases Qt:50≤len
 ·have q50:((50:Int)≤(len:Int))=True:=eT (by omega)
  rw [if_pos Qt]
  have o1:=adjl S0 T l hl n hn ag k hk caps c lt hlt hc X0 d hsz (a+q) 0 (by omega) (by omega) (by omega)
  have b1:=z25 lt d (show a+q-1<n by omega) (show a+q<n by omega) (show a+q+1<n by omega) 0
  rw [show median lt d (a+q-1) (a+q) (a+q+1) 0=medianAdjacent lt d (a+q) 0 from rfl] at b1
  generalize medianAdjacent lt d (a+q) 0=r1 at*
  obtain ⟨x1,s1⟩:=r1
  dsimp only at*
  have o2:=adjl S0 T l hl n hn ag k hk caps c lt hlt hc X0 d hsz (a+q*2) s1 (by omega) (by omega) (by omega)
  have b2:=z25 lt d (show a+q*2-1<n by omega) (show a+q*2<n by omega) (show a+q*2+1<n by omega) s1
  rw [show median lt d (a+q*2-1) (a+q*2) (a+q*2+1) s1=medianAdjacent lt d (a+q*2) s1 from rfl] at b2
  generalize medianAdjacent lt d (a+q*2) s1=r2 at*
  obtain ⟨x2,s2⟩:=r2
  dsimp only at*
  have o3:=adjl S0 T l hl n hn ag k hk caps c lt hlt hc X0 d hsz (a+q*3) s2 (by omega) (by omega) (by omega)
  have b3:=z25 lt d (show a+q*3-1<n by omega) (show a+q*3<n by omega) (show a+q*3+1<n by omega) s2
  rw [show median lt d (a+q*3-1) (a+q*3) (a+q*3+1) s2=medianAdjacent lt d (a+q*3) s2 from rfl] at b3
  generalize medianAdjacent lt d (a+q*3) s2=r3 at*
  obtain ⟨x3,s3⟩:=r3
  dsimp only at*
  have o4:=medl S0 T l hl n hn ag k hk caps c lt hlt hc X0 d hsz x1 x2 x3 s3 b1.1 b2.1 b3.1 (by omega)
  have b4:=z25 lt d b1.1 b2.1 b3.1 s3
  generalize median lt d x1 x2 x3 s3=r4 at*
  obtain ⟨x4,s4⟩:=r4
  dsimp only at*
  refine ⟨s4,?_⟩
  rcases Nat.lt_trichotomy s4 0 with h0|h0|h0
  ·omega
  ·subst h0
   simp only [ir176,go_sem,hw,hq,hm1,hm2,VK,VB,Vu,Vx,q8,q50,Vy,VC,hpl,show I 0=J 0 from rfl,o1,o2,o3,o4,Int.natCast_zero]
   rfl
  ·rw [if_neg (by omega)]
   have p0:((s4:Int)=0)=False:=eF (by omega)
   by_cases VD:s4=12
   ·subst VD
    simp only [ir176,go_sem,hw,hq,hm1,hm2,VK,VB,Vu,Vx,q8,q50,Vy,VC,hpl,show I 0=J 0 from rfl,o1,o2,o3,o4,show ((12:Nat):Int)=12 from rfl]
    rfl
   ·have p12:((s4:Int)=12)=False:=eF (by omega)
    rw [if_neg VD]
    simp only [ir176,go_sem,hw,hq,hm1,hm2,VK,VB,Vu,Vx,q8,q50,Vy,VC,hpl,show I 0=J 0 from rfl,o1,o2,o3,o4,p0,p12]
    rfl
 ·have q50:((50:Int)≤(len:Int))=False:=eF (by omega)
  rw [if_neg Qt]
  have o4:=medl S0 T l hl n hn ag k hk caps c lt hlt hc X0 d hsz (a+q) (a+q*2) (a+q*3) 0 (by omega) (by omega) (by omega) (by omega)
  generalize median lt d (a+q) (a+q*2) (a+q*3) 0=r4 at*
  obtain ⟨x4,s4⟩:=r4
  dsimp only at*
  refine ⟨s4,?_⟩
  rcases Nat.lt_trichotomy s4 0 with h0|h0|h0
  ·omega
  ·subst h0
   simp only [ir176,go_sem,hw,hq,hm1,hm2,VK,VB,Vu,Vx,q8,q50,Vy,VC,hpl,show I 0=J 0 from rfl,o4,Int.natCast_zero]
   rfl
  ·rw [if_neg (by omega)]
   have p0:((s4:Int)=0)=False:=eF (by omega)
   by_cases VD:s4=12
   ·subst VD
    simp only [ir176,go_sem,hw,hq,hm1,hm2,VK,VB,Vu,Vx,q8,q50,Vy,VC,hpl,show I 0=J 0 from rfl,o4,show ((12:Nat):Int)=12 from rfl]
    rfl
   ·have p12:((s4:Int)=12)=False:=eF (by omega)
    rw [if_neg VD]
    simp only [ir176,go_sem,hw,hq,hm1,hm2,VK,VB,Vu,Vx,q8,q50,Vy,VC,hpl,show I 0=J 0 from rfl,o4,p0,p12]
    rfl
end
theorem rev0l (S0:List (List AV))(T:List Nat)(l:Nat)(hl:l<S0.length)(n:Nat)(hn:n≤1000)(ag:Bool)(X0:List (List AV))(lo hi2:Nat)(i:Nat)(j:Nat)(d:Array (LI))(hok:i≤n∧j<n∧d.size=n)(env:Env)(st:St)
  (hg:gcAV false lo hi2 (canon env [0,8,9]) st=([(0,.rsl l 0 n n 1 ag),(8,J i),(9,J j)],⟨put S0 l (Dm fL d) X0,T⟩)):
  ∃x_1 en s,lim (headed pure (run L) false [0,8,9] lp177_0 lo hi2) env st=some (x_1,en,s)∧(x_1=.exit 0∧s=⟨put S0 l (Dm fL (reverseLoop i j d)) X0,T⟩):=by
 refine z8 (α:=Nat×Nat×Array (LI)) (fun ⟨i,j,d⟩=>j-i) (fun ⟨i,j,d⟩=>i≤n∧j<n∧d.size=n) (fun ⟨i,j,d⟩=>([(0,.rsl l 0 n n 1 ag),(8,J i),(9,J j)],⟨put S0 l (Dm fL d) X0,T⟩)) (fun ⟨i,j,d⟩ x_1 en s=>x_1=.exit 0∧s=⟨put S0 l (Dm fL (reverseLoop i j d)) X0,T⟩) (fun ⟨i,j,d⟩ hok=> ?_) ⟨i,j,d⟩ hok env st hg
 simp only at hok
 obtain ⟨h1,h2,hsz⟩:=hok
 dsimp only at h1 h2 hsz⊢
 have hget:=zg hl
 have Ya:=zf hl
 have Yb:(Dm fL d).length=n:=by rw [zm,hsz]
 by_cases h:i<j
 ·have e:reverseLoop i j d=reverseLoop (i+1) (j-1) (swp d i j):=by
   rw [reverseLoop,if_pos h]
  rw [e]
  have Yc:((i:Int)<(j:Int))=True:=eT (by omega)
  have hs:=za i (by omega)
  have hw:=zu j (by omega) (by omega)
  have r30:(((i:Nat):Int)<(n:Int))=True:=eT (by omega)
  have r31:((i:Nat)<n)=True:=eT (by omega)
  have r32:((i:Nat)+1≤n)=True:=eT (by omega)
  have r33:(Dm fL d)[i]? =some (fL d[i]!):=zc fL d (by omega)
  have r40:(((j:Nat):Int)<(n:Int))=True:=eT (by omega)
  have r41:((j:Nat)<n)=True:=eT (by omega)
  have r42:((j:Nat)+1≤n)=True:=eT (by omega)
  have r43:(Dm fL d)[j]? =some (fL d[j]!):=zc fL d (by omega)
  have Vt:=zx fL d i j
  generalize d[i]! =x at*
  generalize d[j]! =y at*
  simp only [go_sem,lp177_0,Yc,hs,hw,r30,r31,r32,r33,r40,r41,r42,r43,hget,Ya,Yb,nn_,lm_,List.length_set]
  refine ⟨(i+1,j-1,swp d i j),by simp only [go_sem,z3,z4,z5,Vt]<;>rfl,?_,?_,fun x en s hq=> ?_⟩
  ·dsimp only;exact ⟨by omega,by omega,zh hsz⟩
  ·dsimp only;omega
  ·exact hq
 ·have e:reverseLoop i j d=d:=by rw [reverseLoop,if_neg h]
  rw [e]
  have Yc:((i:Int)<(j:Int))=False:=eF (by omega)
  simp only [go_sem,lp177_0,Yc]
theorem revl (S0:List (List AV))(T:List Nat)(l:Nat)(hl:l<S0.length)(n:Nat)(hn:n≤1000)(ag:Bool)(k:Nat)(caps:List AV)(X0:List (List AV))(d:Array (LI))(hsz:d.size=n)(a b:Nat)(VA:a<b)(hb:b≤n):
  run L 177 [.rsl l 0 n n 1 ag,J a,J b,.fn (.func k) [] caps] ⟨put S0 l (Dm fL d) X0,T⟩=some (.tup [],⟨put S0 l (Dm fL (reverseRange d a b)) X0,T⟩):=by
 rw [z6 (fn:=ir177) rfl rfl]
 have hw:=zu b (by omega) (by omega)
 simp only [ir177,go_sem,hw]
 generalize hg:lim (headed pure (run L) false _ lp177_0 _ _) _ _=o
 obtain ⟨x,en,s,rfl,h2⟩: ∃x en s,o=some (x,en,s)∧_:=by rw [←hg];exact rev0l S0 T l hl n hn ag X0 _ _ a (b-1) d ⟨by omega,by omega,hsz⟩ _ _ (by simp only [go_sem]<;>rfl)
 clear hg
 obtain ⟨rfl,rfl⟩:=h2
 simp only [go_sem]
 rfl
section
variable (S0:List (List AV)) (T:List Nat) (l:Nat) (hl:l<S0.length) (n:Nat) (hn:n≤1000) (ag:Bool) (k:Nat) (hk:pure k=false) (caps:List AV) (c:LI→LI→Int) (lt:LI→LI→Bool) (hlt: ∀x y,lt x y=decide (c x y<0)) (hc: ∀x y X E,run L k (fL x::fL y::caps) ⟨put S0 l X E,T⟩=some (I (c x y),⟨put S0 l X E,T⟩))
include S0 T l hl n hn ag k hk caps c lt hlt hc
theorem pis0l (X0:List (List AV))(a b z0:Nat)(hb:b≤n)(d:Array (LI))(hsz:d.size=n)(lo hi2:Nat)(i:Nat)(hok:0<i∧i≤b)(env:Env)(st:St)
  (hg:gcAV false lo hi2 (canon env [0,1,2,3,9,10]) st=([(0,.rsl l 0 n n 1 ag),(1,J a),(2,J b),(3,.fn (.func k) [] caps),(9,J i),(10,J z0)],⟨put S0 l (Dm fL d) X0,T⟩)):
  ∃x_1 en s,lim (headed pure (run L) false [0,1,2,3,9,10] lp178_0 lo hi2) env st=some (x_1,en,s)∧(x_1=.exit 2∧en.get 0=.rsl l 0 n n 1 ag∧en.get 1=J a∧en.get 2=J b∧en.get 3=.fn (.func k) [] caps∧en.get 9=J (scanSorted lt d b i)∧en.get 10=J z0∧s=⟨put S0 l (Dm fL d) X0,T⟩):=by
 refine z8 (α:=Nat) (fun i=>b-i) (fun i=>0<i∧i≤b) (fun i=>([(0,.rsl l 0 n n 1 ag),(1,J a),(2,J b),(3,.fn (.func k) [] caps),(9,J i),(10,J z0)],⟨put S0 l (Dm fL d) X0,T⟩)) (fun i x_1 en s=>x_1=.exit 2∧en.get 0=.rsl l 0 n n 1 ag∧en.get 1=J a∧en.get 2=J b∧en.get 3=.fn (.func k) [] caps∧en.get 9=J (scanSorted lt d b i)∧en.get 10=J z0∧s=⟨put S0 l (Dm fL d) X0,T⟩) (fun i hok=> ?_) i hok env st hg
 obtain ⟨h1,h2⟩:=hok
 have hget:=zg hl
 have Ya:=zf hl
 have Yb:(Dm fL d).length=n:=by rw [zm,hsz]
 by_cases h:i<b
 ·have Yc:((i:Int)<(b:Int))=True:=eT (by omega)
  have hs:=za i (by omega)
  have hw:=zu i (by omega) (by omega)
  have r10:(((i:Nat):Int)<(n:Int))=True:=eT (by omega)
  have r11:((i:Nat)<n)=True:=eT (by omega)
  have r12:((i:Nat)+1≤n)=True:=eT (by omega)
  have r13:(Dm fL d)[i]? =some (fL d[i]!):=zc fL d (by omega)
  have r20:(((i-1:Nat):Int)<(n:Int))=True:=eT (by omega)
  have r21:((i-1:Nat)<n)=True:=eT (by omega)
  have r22:((i-1:Nat)+1≤n)=True:=eT (by omega)
  have r23:(Dm fL d)[i-1]? =some (fL d[i-1]!):=zc fL d (by omega)
  cases Vr:lt d[i]! d[i-1]! with
  |true=>
   have e:scanSorted lt d b i=i:=by rw [scanSorted,if_neg (by simp [Vr])]
   rw [e]
   have Vs:(c d[i]! d[i-1]! <0)=True:=by rw [hlt] at Vr;simpa using Vr
   generalize d[i]! =x at*
   generalize d[i-1]! =y at*
   simp only [go_sem,lp178_0,Yc,hw,r10,r11,r12,r13,r20,r21,r22,r23,hc,hk,Vs,hget,Ya,Yb,nn_,lm_,List.length_set]
  |false=>
   have e:scanSorted lt d b i=scanSorted lt d b (i+1):=by rw [scanSorted,if_pos (by simp [Vr,h])]
   rw [e]
   have Vs:(c d[i]! d[i-1]! <0)=False:=by rw [hlt] at Vr;simpa using Vr
   generalize d[i]! =x at*
   generalize d[i-1]! =y at*
   simp only [go_sem,lp178_0,Yc,hw,hs,r10,r11,r12,r13,r20,r21,r22,r23,hc,hk,Vs,hget,Ya,Yb,nn_,lm_,List.length_set]
   refine ⟨i+1,by simp only [go_sem,z3,z4,z5]<;>rfl,?_,?_,fun x en s hq=> ?_⟩
   ·omega
   ·omega
   ·exact hq
 ·have Yc:((i:Int)<(b:Int))=False:=eF (by omega)
  have e:scanSorted lt d b i=i:=by rw [scanSorted,if_neg (by simp;omega)]
  rw [e]
  simp only [go_sem,lp178_0,Yc]
theorem pis1l (X0:List (List AV))(a b i z0:Nat)(lo hi2:Nat)(j:Nat)(d:Array (LI))(hok:j<n∧d.size=n)(env:Env)(st:St)
  (hg:gcAV false lo hi2 (canon env [0,1,2,3,9,10,11]) st=([(0,.rsl l 0 n n 1 ag),(1,J a),(2,J b),(3,.fn (.func k) [] caps),(9,J i),(10,J z0),(11,J j)],⟨put S0 l (Dm fL d) X0,T⟩)):
  ∃x_1 en s,lim (headed pure (run L) false [0,1,2,3,9,10,11] lp178_1 lo hi2) env st=some (x_1,en,s)∧(x_1=.exit 4∧en.get 0=.rsl l 0 n n 1 ag∧en.get 1=J a∧en.get 2=J b∧en.get 3=.fn (.func k) [] caps∧en.get 9=J i∧en.get 10=J z0∧s=⟨put S0 l (Dm fL (shiftDown lt j d)) X0,T⟩):=by
 refine z8 (α:=Nat×Array (LI)) (fun ⟨j,d⟩=>j) (fun ⟨j,d⟩=>j<n∧d.size=n) (fun ⟨j,d⟩=>([(0,.rsl l 0 n n 1 ag),(1,J a),(2,J b),(3,.fn (.func k) [] caps),(9,J i),(10,J z0),(11,J j)],⟨put S0 l (Dm fL d) X0,T⟩)) (fun ⟨j,d⟩ x_1 en s=>x_1=.exit 4∧en.get 0=.rsl l 0 n n 1 ag∧en.get 1=J a∧en.get 2=J b∧en.get 3=.fn (.func k) [] caps∧en.get 9=J i∧en.get 10=J z0∧s=⟨put S0 l (Dm fL (shiftDown lt j d)) X0,T⟩) (fun ⟨j,d⟩ hok=> ?_) ⟨j,d⟩ hok env st hg
 simp only at hok
 obtain ⟨h1,hsz⟩:=hok
 dsimp only at h1 hsz⊢
 have hget:=zg hl
 have Ya:=zf hl
 have Yb:(Dm fL d).length=n:=by rw [zm,hsz]
 cases j with
 |zero=>
  have Yc:((1:Int)≤((0:Nat):Int))=False:=eF (by omega)
  simp only [go_sem,lp178_1,Yc]
  rfl
 |succ m=>
  have Yc:((1:Int)≤((m+1:Nat):Int))=True:=eT (by omega)
  have hw:IntKind.i64.wrap (((m+1:Nat):Int)-1)=((m:Nat):Int):=by rw [zz]<;>omega
  have e:shiftDown lt (m+1) d=if (!lt d[m+1]! d[m]!)=true then d else shiftDown lt m (swp d (m+1) m):=rfl
  rw [e]
  have r30:(((m+1:Nat):Int)<(n:Int))=True:=eT (by omega)
  have r31:((m+1:Nat)<n)=True:=eT (by omega)
  have r32:((m+1:Nat)+1≤n)=True:=eT (by omega)
  have r33:(Dm fL d)[m+1]? =some (fL d[m+1]!):=zc fL d (by omega)
  have r40:(((m:Nat):Int)<(n:Int))=True:=eT (by omega)
  have r41:((m:Nat)<n)=True:=eT (by omega)
  have r42:((m:Nat)+1≤n)=True:=eT (by omega)
  have r43:(Dm fL d)[m]? =some (fL d[m]!):=zc fL d (by omega)
  have Vt:=zx fL d (m+1) m
  cases Vr:lt d[m+1]! d[m]! with
  |true=>
   have Vs:(c d[m+1]! d[m]! <0)=True:=by rw [hlt] at Vr;simpa using Vr
   rw [if_neg (by simp)]
   generalize d[m+1]! =x at*
   generalize d[m]! =y at*
   simp only [go_sem,lp178_1,Yc,hw,r30,r31,r32,r33,r40,r41,r42,r43,hc,hk,Vs,hget,Ya,Yb,nn_,lm_,List.length_set]
   refine ⟨(m,swp d (m+1) m),by simp only [go_sem,z3,z4,z5,Vt]<;>rfl,?_,?_,fun x en s hq=> ?_⟩
   ·dsimp only;exact ⟨by omega,zh hsz⟩
   ·dsimp only;omega
   ·exact hq
  |false=>
   have Vs:(c d[m+1]! d[m]! <0)=False:=by rw [hlt] at Vr;simpa using Vr
   rw [if_pos (show (!false)=true from rfl)]
   generalize d[m+1]! =x at*
   generalize d[m]! =y at*
   simp only [go_sem,lp178_1,Yc,hw,r30,r31,r32,r33,r40,r41,r42,r43,hc,hk,Vs,hget,Ya,Yb,nn_,lm_,List.length_set]
theorem pis2l (X0:List (List AV))(a b i z0:Nat)(hb:b≤n)(lo hi2:Nat)(j:Nat)(d:Array (LI))(hok:0<j∧j≤b∧d.size=n)(env:Env)(st:St)
  (hg:gcAV false lo hi2 (canon env [0,1,2,3,9,10,12]) st=([(0,.rsl l 0 n n 1 ag),(1,J a),(2,J b),(3,.fn (.func k) [] caps),(9,J i),(10,J z0),(12,J j)],⟨put S0 l (Dm fL d) X0,T⟩)):
  ∃x_1 en s,lim (headed pure (run L) false [0,1,2,3,9,10,12] lp178_2 lo hi2) env st=some (x_1,en,s)∧(x_1=.exit 6∧en.get 0=.rsl l 0 n n 1 ag∧en.get 1=J a∧en.get 2=J b∧en.get 3=.fn (.func k) [] caps∧en.get 9=J i∧en.get 10=J z0∧s=⟨put S0 l (Dm fL (shiftUp lt b j d)) X0,T⟩):=by
 refine z8 (α:=Nat×Array (LI)) (fun ⟨j,d⟩=>b-j) (fun ⟨j,d⟩=>0<j∧j≤b∧d.size=n) (fun ⟨j,d⟩=>([(0,.rsl l 0 n n 1 ag),(1,J a),(2,J b),(3,.fn (.func k) [] caps),(9,J i),(10,J z0),(12,J j)],⟨put S0 l (Dm fL d) X0,T⟩)) (fun ⟨j,d⟩ x_1 en s=>x_1=.exit 6∧en.get 0=.rsl l 0 n n 1 ag∧en.get 1=J a∧en.get 2=J b∧en.get 3=.fn (.func k) [] caps∧en.get 9=J i∧en.get 10=J z0∧s=⟨put S0 l (Dm fL (shiftUp lt b j d)) X0,T⟩) (fun ⟨j,d⟩ hok=> ?_) ⟨j,d⟩ hok env st hg
 simp only at hok
 obtain ⟨h1,h2,hsz⟩:=hok
 dsimp only at h1 h2 hsz⊢
 have hget:=zg hl
 have Ya:=zf hl
 have Yb:(Dm fL d).length=n:=by rw [zm,hsz]
 by_cases h:j<b
 ·have Yc:((j:Int)<(b:Int))=True:=eT (by omega)
  have hs:=za j (by omega)
  have hw:=zu j (by omega) (by omega)
  have e:shiftUp lt b j d=if (!lt d[j]! d[j-1]!)=true then d else shiftUp lt b (j+1) (swp d j (j-1)):=by rw [shiftUp,if_pos h]
  rw [e]
  have r50:(((j:Nat):Int)<(n:Int))=True:=eT (by omega)
  have r51:((j:Nat)<n)=True:=eT (by omega)
  have r52:((j:Nat)+1≤n)=True:=eT (by omega)
  have r53:(Dm fL d)[j]? =some (fL d[j]!):=zc fL d (by omega)
  have r60:(((j-1:Nat):Int)<(n:Int))=True:=eT (by omega)
  have r61:((j-1:Nat)<n)=True:=eT (by omega)
  have r62:((j-1:Nat)+1≤n)=True:=eT (by omega)
  have r63:(Dm fL d)[j-1]? =some (fL d[j-1]!):=zc fL d (by omega)
  have Vt:=zx fL d j (j-1)
  cases Vr:lt d[j]! d[j-1]! with
  |true=>
   have Vs:(c d[j]! d[j-1]! <0)=True:=by rw [hlt] at Vr;simpa using Vr
   rw [if_neg (by simp)]
   generalize d[j]! =x at*
   generalize d[j-1]! =y at*
   simp only [go_sem,lp178_2,Yc,hw,hs,r50,r51,r52,r53,r60,r61,r62,r63,hc,hk,Vs,hget,Ya,Yb,nn_,lm_,List.length_set]
   refine ⟨(j+1,swp d j (j-1)),by simp only [go_sem,z3,z4,z5,Vt]<;>rfl,?_,?_,fun x en s hq=> ?_⟩
   ·dsimp only;exact ⟨by omega,by omega,zh hsz⟩
   ·dsimp only;omega
   ·exact hq
  |false=>
   have Vs:(c d[j]! d[j-1]! <0)=False:=by rw [hlt] at Vr;simpa using Vr
   rw [if_pos (show (!false)=true from rfl)]
   generalize d[j]! =x at*
   generalize d[j-1]! =y at*
   simp only [go_sem,lp178_2,Yc,hw,r50,r51,r52,r53,r60,r61,r62,r63,hc,hk,Vs,hget,Ya,Yb,nn_,lm_,List.length_set]
 ·have Yc:((j:Int)<(b:Int))=False:=eF (by omega)
  have e:shiftUp lt b j d=d:=by rw [shiftUp,if_neg h]
  rw [e]
  simp only [go_sem,lp178_2,Yc]
theorem pis3l (X0:List (List AV))(a b:Nat)(VA:a<b)(hb:b≤n)(lo hi2:Nat)(s0:Nat)(i:Nat)(d:Array (LI))(hok:s0≤5∧a<i∧i≤b∧d.size=n)(env:Env)(st:St)
  (hg:gcAV false lo hi2 (canon env [0,1,2,3,9,10]) st=([(0,.rsl l 0 n n 1 ag),(1,J a),(2,J b),(3,.fn (.func k) [] caps),(9,J i),(10,J s0)],⟨put S0 l (Dm fL d) X0,T⟩)):
  ∃x_1 en s,lim (headed pure (run L) false [0,1,2,3,9,10] lp178_3 lo hi2) env st=some (x_1,en,s)∧(s=⟨put S0 l (Dm fL (partialIns lt a b (5-s0) i d).1) X0,T⟩∧((x_1=.exit 0∧(partialIns lt a b (5-s0) i d).2=false)∨(x_1=.ret∧en.get 8=B (partialIns lt a b (5-s0) i d).2))):=by
 refine z8 (α:=Nat×Nat×Array (LI)) (fun ⟨s0,i,d⟩=>5-s0) (fun ⟨s0,i,d⟩=>s0≤5∧a<i∧i≤b∧d.size=n) (fun ⟨s0,i,d⟩=>([(0,.rsl l 0 n n 1 ag),(1,J a),(2,J b),(3,.fn (.func k) [] caps),(9,J i),(10,J s0)],⟨put S0 l (Dm fL d) X0,T⟩)) (fun ⟨s0,i,d⟩ x_1 en s=>s=⟨put S0 l (Dm fL (partialIns lt a b (5-s0) i d).1) X0,T⟩∧((x_1=.exit 0∧(partialIns lt a b (5-s0) i d).2=false)∨(x_1=.ret∧en.get 8=B (partialIns lt a b (5-s0) i d).2))) (fun ⟨s0,i,d⟩ hok=> ?_) ⟨s0,i,d⟩ hok env st hg
 simp only at hok
 obtain ⟨h1,h2,h3,hsz⟩:=hok
 dsimp only at h1 h2 h3 hsz⊢
 by_cases h:s0<5
 ·have Yc:((s0:Int)<5)=True:=eT (by omega)
  have hs:=za s0 (by omega)
  have hin:=z5u lt d b _ i (Nat.le_refl _) h3
  have e:partialIns lt a b (5-s0) i d=(if scanSorted lt d b i=b then (d,true) else if b-a<50 then (d,false) else
    partialIns lt a b (5-(s0+1)) (scanSorted lt d b i) (if b-scanSorted lt d b i≥2 then shiftUp lt b (scanSorted lt d b i+1) (if scanSorted lt d b i-a≥2 then shiftDown lt (scanSorted lt d b i-1) (swp d (scanSorted lt d b i) (scanSorted lt d b i-1)) else swp d (scanSorted lt d b i) (scanSorted lt d b i-1)) else (if scanSorted lt d b i-a≥2 then shiftDown lt (scanSorted lt d b i-1) (swp d (scanSorted lt d b i) (scanSorted lt d b i-1)) else swp d (scanSorted lt d b i) (scanSorted lt d b i-1)))):=by
   rw [show 5-s0=(5-(s0+1))+1 by omega];rfl
  rw [e]
  simp only [go_sem,lp178_3,Yc]
  generalize hg:lim (headed pure (run L) false _ lp178_0 _ _) _ _=o
  obtain ⟨x,en,s,rfl,h2⟩: ∃x en s,o=some (x,en,s)∧_:=by rw [←hg];exact pis0l S0 T l hl n hn ag k hk caps c lt hlt hc X0 a b s0 hb d hsz _ _ i ⟨by omega,h3⟩ _ _ (by simp only [go_sem]<;>rfl)
  clear hg
  obtain ⟨rfl,e0,e1,e2,e3,e9,e10,rfl⟩:=h2
  generalize scanSorted lt d b i=z at*
  by_cases p1:z=b
  ·subst p1
   have q1:((z:Int)=(z:Int))=True:=eT rfl
   rw [if_pos rfl]
   simp only [go_sem,lp178_3,e0,e1,e2,e3,e9,e10,q1]
  ·have q1:((z:Int)=(b:Int))=False:=eF (by omega)
   have VW:=z6z b a (by omega) (by omega)
   rw [if_neg p1]
   by_cases p2:b-a<50
   ·have q2:(((b-a:Nat):Int)<50)=True:=eT (by omega)
    rw [if_pos p2]
    simp only [go_sem,lp178_3,e0,e1,e2,e3,e9,e10,q1,VW,q2]
   ·have q2:(((b-a:Nat):Int)<50)=False:=eF (by omega)
    rw [if_neg p2]
    have hget:=zg hl
    have Ya:=zf hl
    have Yb:(Dm fL d).length=n:=by rw [zm,hsz]
    have hw:=zu z (by omega) (by omega)
    have hz1:=za z (by omega)
    have Qa:=z6z z a (by omega) (by omega)
    have VX:=z6z b z (by omega) (by omega)
    have r70:(((z:Nat):Int)<(n:Int))=True:=eT (by omega)
    have r71:((z:Nat)<n)=True:=eT (by omega)
    have r72:((z:Nat)+1≤n)=True:=eT (by omega)
    have r73:(Dm fL d)[z]? =some (fL d[z]!):=zc fL d (by omega)
    have r80:(((z-1:Nat):Int)<(n:Int))=True:=eT (by omega)
    have r81:((z-1:Nat)<n)=True:=eT (by omega)
    have r82:((z-1:Nat)+1≤n)=True:=eT (by omega)
    have r83:(Dm fL d)[z-1]? =some (fL d[z-1]!):=zc fL d (by omega)
    have Vt:=zx fL d z (z-1)
    have Yh:=zh (i:=z) (j:=z-1) hsz
    generalize d[z]! =x at*
    generalize d[z-1]! =y at*
    generalize swp d z (z-1)=d1 at*
    by_cases p3:z-a≥2
    ·have q3:((2:Int)≤((z-a:Nat):Int))=True:=eT (by omega)
     rw [if_pos p3]
     simp only [go_sem,lp178_3,e0,e1,e2,e3,e9,e10,q1,VW,q2,hw,Qa,r70,r71,r72,r73,r80,r81,r82,r83,Vt,q3,hget,Ya,Yb,nn_,lm_,List.length_set]
     generalize hg:lim (headed pure (run L) false _ lp178_1 _ _) _ _=o
     obtain ⟨x,en,s,rfl,h2⟩: ∃x en s,o=some (x,en,s)∧_:=by rw [←hg];exact pis1l S0 T l hl n hn ag k hk caps c lt hlt hc X0 a b z s0 _ _ (z-1) d1 ⟨by omega,Yh⟩ _ _ (by simp only [go_sem,e0,e1,e2,e3,e9,e10]<;>rfl)
     clear hg
     clear e0 e1 e2 e3 e9 e10
     obtain ⟨rfl,e0,e1,e2,e3,e9,e10,rfl⟩:=h2
     have Yo:(shiftDown lt (z-1) d1).size=n:=by rw [z27,Yh]
     generalize shiftDown lt (z-1) d1=d2 at*
     by_cases p4:b-z≥2
     ·have q4:((2:Int)≤((b-z:Nat):Int))=True:=eT (by omega)
      rw [if_pos p4]
      simp only [go_sem,lp178_3,e0,e1,e2,e3,e9,e10,VX,q4,hz1]
      generalize hg:lim (headed pure (run L) false _ lp178_2 _ _) _ _=o
      obtain ⟨x,en,s,rfl,h2⟩: ∃x en s,o=some (x,en,s)∧_:=by rw [←hg];exact pis2l S0 T l hl n hn ag k hk caps c lt hlt hc X0 a b z s0 hb _ _ (z+1) d2 ⟨by omega,by omega,Yo⟩ _ _ (by simp only [go_sem,e0,e1,e2,e3,e9,e10]<;>rfl)
      clear hg
      clear e0 e1 e2 e3 e9 e10
      obtain ⟨rfl,e0,e1,e2,e3,e9,e10,rfl⟩:=h2
      have Yp:(shiftUp lt b (z+1) d2).size=n:=by rw [z1w lt b _ _ _ (Nat.le_refl _),Yo]
      generalize shiftUp lt b (z+1) d2=d3 at*
      simp only [go_sem,lp178_3,e0,e1,e2,e3,e9,e10,hs]
      refine ⟨(s0+1,z,d3),by simp only [go_sem,z3,z4,z5,e0,e1,e2,e3,e9,e10]<;>rfl,?_,?_,fun x en s hq=> ?_⟩
      ·dsimp only;exact ⟨by omega,by omega,by omega,Yp⟩
      ·dsimp only;omega
      ·exact hq
     ·have q4:((2:Int)≤((b-z:Nat):Int))=False:=eF (by omega)
      rw [if_neg p4]
      simp only [go_sem,lp178_3,e0,e1,e2,e3,e9,e10,VX,q4,hs]
      refine ⟨(s0+1,z,d2),by simp only [go_sem,z3,z4,z5,e0,e1,e2,e3,e9,e10]<;>rfl,?_,?_,fun x en s hq=> ?_⟩
      ·dsimp only;exact ⟨by omega,by omega,by omega,Yo⟩
      ·dsimp only;omega
      ·exact hq
    ·have q3:((2:Int)≤((z-a:Nat):Int))=False:=eF (by omega)
     rw [if_neg p3]
     by_cases p4:b-z≥2
     ·have q4:((2:Int)≤((b-z:Nat):Int))=True:=eT (by omega)
      rw [if_pos p4]
      simp only [go_sem,lp178_3,e0,e1,e2,e3,e9,e10,q1,VW,q2,hw,Qa,r70,r71,r72,r73,r80,r81,r82,r83,Vt,q3,VX,q4,hz1,hget,Ya,Yb,nn_,lm_,List.length_set]
      generalize hg:lim (headed pure (run L) false _ lp178_2 _ _) _ _=o
      obtain ⟨x,en,s,rfl,h2⟩: ∃x en s,o=some (x,en,s)∧_:=by rw [←hg];exact pis2l S0 T l hl n hn ag k hk caps c lt hlt hc X0 a b z s0 hb _ _ (z+1) d1 ⟨by omega,by omega,Yh⟩ _ _ (by simp only [go_sem,e0,e1,e2,e3,e9,e10]<;>rfl)
      clear hg
      clear e0 e1 e2 e3 e9 e10
      obtain ⟨rfl,e0,e1,e2,e3,e9,e10,rfl⟩:=h2
      have Yp:(shiftUp lt b (z+1) d1).size=n:=by rw [z1w lt b _ _ _ (Nat.le_refl _),Yh]
      generalize shiftUp lt b (z+1) d1=d3 at*
      simp only [go_sem,lp178_3,e0,e1,e2,e3,e9,e10,hs]
      refine ⟨(s0+1,z,d3),by simp only [go_sem,z3,z4,z5,e0,e1,e2,e3,e9,e10]<;>rfl,?_,?_,fun x en s hq=> ?_⟩
      ·dsimp only;exact ⟨by omega,by omega,by omega,Yp⟩
      ·dsimp only;omega
      ·exact hq
     ·have q4:((2:Int)≤((b-z:Nat):Int))=False:=eF (by omega)
      rw [if_neg p4]
      simp only [go_sem,lp178_3,e0,e1,e2,e3,e9,e10,q1,VW,q2,hw,Qa,r70,r71,r72,r73,r80,r81,r82,r83,Vt,q3,VX,q4,hs,hget,Ya,Yb,nn_,lm_,List.length_set]
      refine ⟨(s0+1,z,d1),by simp only [go_sem,z3,z4,z5,e0,e1,e2,e3,e9,e10]<;>rfl,?_,?_,fun x en s hq=> ?_⟩
      ·dsimp only;exact ⟨by omega,by omega,by omega,Yh⟩
      ·dsimp only;omega
      ·exact hq
 ·have Yc:((s0:Int)<5)=False:=eF (by omega)
  have e:partialIns lt a b (5-s0) i d=(d,false):=by rw [show 5-s0=0 by omega];rfl
  rw [e]
  simp only [go_sem,lp178_3,Yc]
theorem pisl (X0:List (List AV))(d:Array (LI))(hsz:d.size=n)(a b:Nat)(VA:a<b)(hb:b≤n):
  run L 178 [.rsl l 0 n n 1 ag,J a,J b,.fn (.func k) [] caps] ⟨put S0 l (Dm fL d) X0,T⟩=some (B (partialInsertionSort lt d a b).2,⟨put S0 l (Dm fL (partialInsertionSort lt d a b).1) X0,T⟩):=by
 rw [z6 (fn:=ir178) rfl rfl]
 have hs:=za a (by omega)
 simp only [ir178,go_sem,hs]
 generalize hg:lim (headed pure (run L) false _ lp178_3 _ _) _ _=o
 obtain ⟨x,en,s,rfl,h2⟩: ∃x en s,o=some (x,en,s)∧_:=by rw [←hg];exact pis3l S0 T l hl n hn ag k hk caps c lt hlt hc X0 a b VA hb _ _ 0 (a+1) d ⟨by omega,by omega,by omega,hsz⟩ _ _ (by simp only [go_sem,Int.natCast_zero]<;>rfl)
 clear hg
 rw [show partialIns lt a b (5-0) (a+1) d=partialInsertionSort lt d a b from rfl] at h2
 obtain ⟨rfl,h2⟩:=h2
 rcases h2 with ⟨rfl,h3⟩ | ⟨rfl,h3⟩
 ·rw [h3]
  simp only [go_sem]
 ·simp only [go_sem,h3]
theorem sift0l (X0:List (List AV))(h first:Nat)(hF:first+h≤n)(lo hi2:Nat)(root:Nat)(d:Array (LI))(hok:root≤h∧d.size=n)(env:Env)(st:St)
  (hg:gcAV false lo hi2 (canon env [0,2,3,4,10]) st=([(0,.rsl l 0 n n 1 ag),(2,J h),(3,J first),(4,.fn (.func k) [] caps),(10,J root)],⟨put S0 l (Dm fL d) X0,T⟩)):
  ∃x_1 en s,lim (headed pure (run L) false [0,2,3,4,10] lp194_0 lo hi2) env st=some (x_1,en,s)∧((x_1=.exit 0∨x_1=.ret)∧s=⟨put S0 l (Dm fL (siftDown lt h first root d)) X0,T⟩):=by
 refine z8 (α:=Nat×Array (LI)) (fun ⟨root,d⟩=>h-root) (fun ⟨root,d⟩=>root≤h∧d.size=n) (fun ⟨root,d⟩=>([(0,.rsl l 0 n n 1 ag),(2,J h),(3,J first),(4,.fn (.func k) [] caps),(10,J root)],⟨put S0 l (Dm fL d) X0,T⟩)) (fun ⟨root,d⟩ x_1 en s=>(x_1=.exit 0∨x_1=.ret)∧s=⟨put S0 l (Dm fL (siftDown lt h first root d)) X0,T⟩) (fun ⟨root,d⟩ hok=> ?_) ⟨root,d⟩ hok env st hg
 simp only at hok
 obtain ⟨h1,hsz⟩:=hok
 dsimp only at h1 hsz⊢
 have hm:IntKind.i64.wrap (2*(root:Int))=((2*root:Nat):Int):=by rw [zz]<;>omega
 have ha:=za (2*root) (by omega)
 by_cases p:2*root+1≥h
 ·have e:siftDown lt h first root d=d:=by rw [siftDown,dif_pos p]
  rw [e]
  have q:((h:Int)≤((2*root+1:Nat):Int))=True:=eT (by omega)
  simp only [go_sem,lp194_0,hm,ha,q]
 ·have q:((h:Int)≤((2*root+1:Nat):Int))=False:=eF (by omega)
  have Vu:=za (2*root+1) (by omega)
  have hfr:=z8t first root (by omega)
  have VL:=z8t first (2*root+1) (by omega)
  have Yn:=za (first+(2*root+1)) (by omega)
  have Ys:=z8t first (2*root+2) (by omega)
  have hget:=zg hl
  have Ya:=zf hl
  have Yb:(Dm fL d).length=n:=by rw [zm,hsz]
  have r10:(((first+root:Nat):Int)<(n:Int))=True:=eT (by omega)
  have r11:((first+root:Nat)<n)=True:=eT (by omega)
  have r12:((first+root:Nat)+1≤n)=True:=eT (by omega)
  have r13:(Dm fL d)[first+root]? =some (fL d[first+root]!):=zc fL d (by omega)
  have r20:(((first+(2*root+1):Nat):Int)<(n:Int))=True:=eT (by omega)
  have r21:((first+(2*root+1):Nat)<n)=True:=eT (by omega)
  have r22:((first+(2*root+1):Nat)+1≤n)=True:=eT (by omega)
  have r23:(Dm fL d)[first+(2*root+1)]? =some (fL d[first+(2*root+1)]!):=zc fL d (by omega)
  have Yt:=zx fL d (first+root) (first+(2*root+1))
  have Yf:=zh (i:=first+root) (j:=first+(2*root+1)) hsz
  by_cases p2:2*root+1+1<h
  ·have q2:(((2*root+1+1:Nat):Int)<(h:Int))=True:=eT (by omega)
   have r30:(((first+(2*root+1)+1:Nat):Int)<(n:Int))=True:=eT (by omega)
   have r31:((first+(2*root+1)+1:Nat)<n)=True:=eT (by omega)
   have r32:((first+(2*root+1)+1:Nat)+1≤n)=True:=eT (by omega)
   have r33:(Dm fL d)[first+(2*root+1)+1]? =some (fL d[first+(2*root+1)+1]!):=zc fL d (by omega)
   have r40:(((first+(2*root+2):Nat):Int)<(n:Int))=True:=eT (by omega)
   have r41:((first+(2*root+2):Nat)<n)=True:=eT (by omega)
   have r42:((first+(2*root+2):Nat)+1≤n)=True:=eT (by omega)
   have r43:(Dm fL d)[first+(2*root+2)]? =some (fL d[first+(2*root+2)]!):=zc fL d (by omega)
   have Yj:=zx fL d (first+root) (first+(2*root+2))
   have Yh:=zh (i:=first+root) (j:=first+(2*root+2)) hsz
   cases Vr:lt d[first+(2*root+1)]! d[first+(2*root+1)+1]! with
   |true=>
    have Vs:(c d[first+(2*root+1)]! d[first+(2*root+1)+1]! <0)=True:=by rw [hlt] at Vr;simpa using Vr
    cases Vv:lt d[first+root]! d[first+(2*root+2)]! with
    |true=>
     have Vz:(c d[first+root]! d[first+(2*root+2)]! <0)=True:=by rw [hlt] at Vv;simpa using Vv
     have e:siftDown lt h first root d=siftDown lt h first (2*root+2) (swp d (first+root) (first+(2*root+2))):=by
      rw [siftDown,dif_neg p,if_pos (by rw [Vr];simp;omega),if_neg (by rw [Vv];simp),dif_pos (by omega)]
     rw [e]
     generalize d[first+root]! =x at*
     generalize d[first+(2*root+1)]! =y at*
     generalize d[first+(2*root+1)+1]! =z at*
     generalize d[first+(2*root+2)]! =w at*
     generalize swp d (first+root) (first+(2*root+2))=d1 at*
     simp only [go_sem,lp194_0,hm,ha,q,Vu,q2,hfr,VL,Yn,show 2*root+1+1=2*root+2 from rfl,Ys,r10,r11,r12,r13,r20,r21,r22,r23,r30,r31,r32,r33,r40,r41,r42,r43,hc,hk,Vs,Vz,Yj,hget,Ya,Yb,nn_,lm_,List.length_set]
     refine ⟨(2*root+2,d1),by simp only [go_sem,z3,z4,z5]<;>rfl,?_,?_,fun x en s hq=> ?_⟩
     ·dsimp only;exact ⟨by omega,Yh⟩
     ·dsimp only;omega
     ·exact hq
    |false=>
     have Vz:(c d[first+root]! d[first+(2*root+2)]! <0)=False:=by rw [hlt] at Vv;simpa using Vv
     have e:siftDown lt h first root d=d:=by
      rw [siftDown,dif_neg p,if_pos (by rw [Vr];simp;omega),if_pos (by rw [Vv];rfl)]
     rw [e]
     generalize d[first+root]! =x at*
     generalize d[first+(2*root+1)]! =y at*
     generalize d[first+(2*root+1)+1]! =z at*
     generalize d[first+(2*root+2)]! =w at*
     simp only [go_sem,lp194_0,hm,ha,q,Vu,q2,hfr,VL,Yn,show 2*root+1+1=2*root+2 from rfl,Ys,r10,r11,r12,r13,r20,r21,r22,r23,r30,r31,r32,r33,r40,r41,r42,r43,hc,hk,Vs,Vz,hget,Ya,Yb,nn_,lm_,List.length_set]
   |false=>
    have Vs:(c d[first+(2*root+1)]! d[first+(2*root+1)+1]! <0)=False:=by rw [hlt] at Vr;simpa using Vr
    cases Vv:lt d[first+root]! d[first+(2*root+1)]! with
    |true=>
     have Vz:(c d[first+root]! d[first+(2*root+1)]! <0)=True:=by rw [hlt] at Vv;simpa using Vv
     have e:siftDown lt h first root d=siftDown lt h first (2*root+1) (swp d (first+root) (first+(2*root+1))):=by
      rw [siftDown,dif_neg p,if_neg (by rw [Vr];simp),if_neg (by rw [Vv];simp)]
     rw [e]
     generalize d[first+root]! =x at*
     generalize d[first+(2*root+1)]! =y at*
     generalize d[first+(2*root+1)+1]! =z at*
     generalize swp d (first+root) (first+(2*root+1))=d1 at*
     simp only [go_sem,lp194_0,hm,ha,q,Vu,q2,hfr,VL,Yn,r10,r11,r12,r13,r20,r21,r22,r23,r30,r31,r32,r33,hc,hk,Vs,Vz,Yt,hget,Ya,Yb,nn_,lm_,List.length_set]
     refine ⟨(2*root+1,d1),by simp only [go_sem,z3,z4,z5]<;>rfl,?_,?_,fun x en s hq=> ?_⟩
     ·dsimp only;exact ⟨by omega,Yf⟩
     ·dsimp only;omega
     ·exact hq
    |false=>
     have Vz:(c d[first+root]! d[first+(2*root+1)]! <0)=False:=by rw [hlt] at Vv;simpa using Vv
     have e:siftDown lt h first root d=d:=by
      rw [siftDown,dif_neg p,if_neg (by rw [Vr];simp),if_pos (by rw [Vv];rfl)]
     rw [e]
     generalize d[first+root]! =x at*
     generalize d[first+(2*root+1)]! =y at*
     generalize d[first+(2*root+1)+1]! =z at*
     simp only [go_sem,lp194_0,hm,ha,q,Vu,q2,hfr,VL,Yn,r10,r11,r12,r13,r20,r21,r22,r23,r30,r31,r32,r33,hc,hk,Vs,Vz,hget,Ya,Yb,nn_,lm_,List.length_set]
  ·have q2:(((2*root+1+1:Nat):Int)<(h:Int))=False:=eF (by omega)
   cases Vv:lt d[first+root]! d[first+(2*root+1)]! with
   |true=>
    have Vz:(c d[first+root]! d[first+(2*root+1)]! <0)=True:=by rw [hlt] at Vv;simpa using Vv
    have e:siftDown lt h first root d=siftDown lt h first (2*root+1) (swp d (first+root) (first+(2*root+1))):=by
     rw [siftDown,dif_neg p,if_neg (by simp;omega),if_neg (by rw [Vv];simp)]
    rw [e]
    generalize d[first+root]! =x at*
    generalize d[first+(2*root+1)]! =y at*
    generalize swp d (first+root) (first+(2*root+1))=d1 at*
    simp only [go_sem,lp194_0,hm,ha,q,Vu,q2,hfr,VL,r10,r11,r12,r13,r20,r21,r22,r23,hc,hk,Vz,Yt,hget,Ya,Yb,nn_,lm_,List.length_set]
    refine ⟨(2*root+1,d1),by simp only [go_sem,z3,z4,z5]<;>rfl,?_,?_,fun x en s hq=> ?_⟩
    ·dsimp only;exact ⟨by omega,Yf⟩
    ·dsimp only;omega
    ·exact hq
   |false=>
    have Vz:(c d[first+root]! d[first+(2*root+1)]! <0)=False:=by rw [hlt] at Vv;simpa using Vv
    have e:siftDown lt h first root d=d:=by
     rw [siftDown,dif_neg p,if_neg (by simp;omega),if_pos (by rw [Vv];rfl)]
    rw [e]
    generalize d[first+root]! =x at*
    generalize d[first+(2*root+1)]! =y at*
    simp only [go_sem,lp194_0,hm,ha,q,Vu,q2,hfr,VL,r10,r11,r12,r13,r20,r21,r22,r23,hc,hk,Vz,hget,Ya,Yb,nn_,lm_,List.length_set]
theorem siftl (X0:List (List AV))(h first root:Nat)(hF:first+h≤n)(hr:root≤h)(d:Array (LI))(hsz:d.size=n):
  run L 194 [.rsl l 0 n n 1 ag,J root,J h,J first,.fn (.func k) [] caps] ⟨put S0 l (Dm fL d) X0,T⟩=some (.tup [],⟨put S0 l (Dm fL (siftDown lt h first root d)) X0,T⟩):=by
 rw [z6 (fn:=ir194) rfl rfl]
 simp only [ir194,go_sem]
 generalize hg:lim (headed pure (run L) false _ lp194_0 _ _) _ _=o
 obtain ⟨x,en,s,rfl,h2⟩: ∃x en s,o=some (x,en,s)∧_:=by rw [←hg];exact sift0l S0 T l hl n hn ag k hk caps c lt hlt hc X0 h first hF _ _ root d ⟨hr,hsz⟩ _ _ (by simp only [go_sem]<;>rfl)
 clear hg
 obtain ⟨h2|h2,rfl⟩:=h2
 ·subst h2
  simp only [go_sem]
 ·subst h2
  simp only [go_sem]
theorem heap0l (X0:List (List AV))(h first:Nat)(hF:first+h≤n)(lo hi2:Nat)(k0:Nat)(d:Array (LI))(hok:k0≤h∧d.size=n)(env:Env)(st:St)
  (hg:gcAV false lo hi2 (canon env [0,3,8,9,10,11]) st=([(0,.rsl l 0 n n 1 ag),(3,.fn (.func k) [] caps),(8,J first),(9,I 0),(10,J h),(11,I ((k0:Int)-1))],⟨put S0 l (Dm fL d) X0,T⟩)):
  ∃x_1 en s,lim (headed pure (run L) false [0,3,8,9,10,11] lp174_0 lo hi2) env st=some (x_1,en,s)∧(x_1=.exit 0∧en.get 0=.rsl l 0 n n 1 ag∧en.get 3=.fn (.func k) [] caps∧en.get 8=J first∧en.get 9=I 0∧en.get 10=J h∧s=⟨put S0 l (Dm fL (heapBuild lt h first k0 d)) X0,T⟩):=by
 refine z8 (α:=Nat×Array (LI)) (fun ⟨k0,d⟩=>k0) (fun ⟨k0,d⟩=>k0≤h∧d.size=n) (fun ⟨k0,d⟩=>([(0,.rsl l 0 n n 1 ag),(3,.fn (.func k) [] caps),(8,J first),(9,I 0),(10,J h),(11,I ((k0:Int)-1))],⟨put S0 l (Dm fL d) X0,T⟩)) (fun ⟨k0,d⟩ x_1 en s=>x_1=.exit 0∧en.get 0=.rsl l 0 n n 1 ag∧en.get 3=.fn (.func k) [] caps∧en.get 8=J first∧en.get 9=I 0∧en.get 10=J h∧s=⟨put S0 l (Dm fL (heapBuild lt h first k0 d)) X0,T⟩) (fun ⟨k0,d⟩ hok=> ?_) ⟨k0,d⟩ hok env st hg
 simp only at hok
 obtain ⟨h1,hsz⟩:=hok
 dsimp only at h1 hsz⊢
 cases k0 with
 |zero=>
  have q:((0:Int)≤((0:Nat):Int)-1)=False:=eF (by omega)
  simp only [go_sem,lp174_0,q]
  rfl
 |succ m=>
  have e:heapBuild lt h first (m+1) d=heapBuild lt h first m (siftDown lt h first m d):=rfl
  rw [e]
  have hm:(((m+1:Nat):Int)-1)=(m:Int):=by omega
  have q:((0:Int)≤(m:Int))=True:=eT (by omega)
  have hw:IntKind.i64.wrap ((m:Int)-1)=(m:Int)-1:=by rw [zz]<;>omega
  have hs:=siftl S0 T l hl n hn ag k hk caps c lt hlt hc X0 h first m hF (by omega) d hsz
  have Yf:(siftDown lt h first m d).size=n:=by rw [z07 lt h first _ _ _ (Nat.le_refl _),hsz]
  generalize siftDown lt h first m d=d1 at*
  simp only [go_sem,lp174_0,hm,q,hs,hw]
  refine ⟨(m,d1),by simp only [go_sem,z3,z4,z5]<;>rfl,?_,?_,fun x en s hq=> ?_⟩
  ·dsimp only;exact ⟨by omega,Yf⟩
  ·dsimp only;omega
  ·exact hq
theorem heap1l (X0:List (List AV))(h first:Nat)(hF:first+h≤n)(lo hi2:Nat)(k0:Nat)(d:Array (LI))(hok:k0≤h∧d.size=n)(env:Env)(st:St)
  (hg:gcAV false lo hi2 (canon env [0,3,8,9,12]) st=([(0,.rsl l 0 n n 1 ag),(3,.fn (.func k) [] caps),(8,J first),(9,I 0),(12,I ((k0:Int)-1))],⟨put S0 l (Dm fL d) X0,T⟩)):
  ∃x_1 en s,lim (headed pure (run L) false [0,3,8,9,12] lp174_1 lo hi2) env st=some (x_1,en,s)∧(x_1=.exit 2∧s=⟨put S0 l (Dm fL (heapPop lt first k0 d)) X0,T⟩):=by
 refine z8 (α:=Nat×Array (LI)) (fun ⟨k0,d⟩=>k0) (fun ⟨k0,d⟩=>k0≤h∧d.size=n) (fun ⟨k0,d⟩=>([(0,.rsl l 0 n n 1 ag),(3,.fn (.func k) [] caps),(8,J first),(9,I 0),(12,I ((k0:Int)-1))],⟨put S0 l (Dm fL d) X0,T⟩)) (fun ⟨k0,d⟩ x_1 en s=>x_1=.exit 2∧s=⟨put S0 l (Dm fL (heapPop lt first k0 d)) X0,T⟩) (fun ⟨k0,d⟩ hok=> ?_) ⟨k0,d⟩ hok env st hg
 simp only at hok
 obtain ⟨h1,hsz⟩:=hok
 dsimp only at h1 hsz⊢
 cases k0 with
 |zero=>
  have q:((0:Int)≤((0:Nat):Int)-1)=False:=eF (by omega)
  simp only [go_sem,lp174_1,q]
  rfl
 |succ m=>
  have e:heapPop lt first (m+1) d=heapPop lt first m (siftDown lt m first 0 (swp d first (first+m))):=rfl
  rw [e]
  have hm:(((m+1:Nat):Int)-1)=(m:Int):=by omega
  have q:((0:Int)≤(m:Int))=True:=eT (by omega)
  have hw:IntKind.i64.wrap ((m:Int)-1)=(m:Int)-1:=by rw [zz]<;>omega
  have ha:=z8t first m (by omega)
  have hget:=zg hl
  have Ya:=zf hl
  have Yb:(Dm fL d).length=n:=by rw [zm,hsz]
  have r50:(((first:Nat):Int)<(n:Int))=True:=eT (by omega)
  have r51:((first:Nat)<n)=True:=eT (by omega)
  have r52:((first:Nat)+1≤n)=True:=eT (by omega)
  have r53:(Dm fL d)[first]? =some (fL d[first]!):=zc fL d (by omega)
  have r60:(((first+m:Nat):Int)<(n:Int))=True:=eT (by omega)
  have r61:((first+m:Nat)<n)=True:=eT (by omega)
  have r62:((first+m:Nat)+1≤n)=True:=eT (by omega)
  have r63:(Dm fL d)[first+m]? =some (fL d[first+m]!):=zc fL d (by omega)
  have Vt:=zx fL d first (first+m)
  have Yi:=zh (i:=first) (j:=first+m) hsz
  generalize d[first]! =x at*
  generalize d[first+m]! =y at*
  generalize swp d first (first+m)=d0 at*
  have hs:run L 194 [.rsl l 0 n n 1 ag,I 0,J m,J first,.fn (.func k) [] caps] ⟨put S0 l (Dm fL d0) X0,T⟩=some (.tup [],⟨put S0 l (Dm fL (siftDown lt m first 0 d0)) X0,T⟩):=siftl S0 T l hl n hn ag k hk caps c lt hlt hc X0 m first 0 (by omega) (by omega) d0 Yi
  have Yf:(siftDown lt m first 0 d0).size=n:=by rw [z07 lt m first _ _ _ (Nat.le_refl _),Yi]
  generalize siftDown lt m first 0 d0=d1 at*
  simp only [go_sem,lp174_1,hm,q,ha,r50,r51,r52,r53,r60,r61,r62,r63,Vt,hs,hw,hget,Ya,Yb,nn_,lm_,List.length_set]
  refine ⟨(m,d1),by simp only [go_sem,z3,z4,z5]<;>rfl,?_,?_,fun x en s hq=> ?_⟩
  ·dsimp only;exact ⟨by omega,Yf⟩
  ·dsimp only;omega
  ·exact hq
theorem heapl (X0:List (List AV))(d:Array (LI))(hsz:d.size=n)(a b:Nat)(VA:a<b)(hb:b≤n):
  run L 174 [.rsl l 0 n n 1 ag,J a,J b,.fn (.func k) [] caps] ⟨put S0 l (Dm fL d) X0,T⟩=some (.tup [],⟨put S0 l (Dm fL (Go.Sort.heapSort lt d a b)) X0,T⟩):=by
 rw [z6 (fn:=ir174) rfl rfl]
 have hw:=z6z b a (by omega) (by omega)
 have hw1:=zu (b-a) (by omega) (by omega)
 have hq:IntKind.i64.wrap (Int.tdiv ((b-a-1:Nat):Int) 2)=(((b-a-1) / 2+1:Nat):Int)-1:=by
  rw [show ((((b-a-1) / 2+1:Nat):Int)-1)=(((b-a-1) / 2:Nat):Int) by omega]
  exact zga (b-a-1) 2 (by omega) (by omega)
 have hz0:Go.Sort.heapSort lt d a b=heapPop lt a (b-a) (heapBuild lt (b-a) a ((b-a-1) / 2+1) d):=rfl
 have Yh:(heapBuild lt (b-a) a ((b-a-1) / 2+1) d).size=n:=by rw [z3w,hsz]
 simp only [ir174,go_sem,hw,hw1,hq]
 generalize hg:lim (headed pure (run L) false _ lp174_0 _ _) _ _=o
 obtain ⟨x,en,s,rfl,h2⟩: ∃x en s,o=some (x,en,s)∧_:=by rw [←hg];exact heap0l S0 T l hl n hn ag k hk caps c lt hlt hc X0 (b-a) a (by omega) _ _ ((b-a-1) / 2+1) d ⟨by omega,hsz⟩ _ _ (by simp only [go_sem]<;>rfl)
 clear hg
 obtain ⟨rfl,e0,e3,e8,e9,e10,rfl⟩:=h2
 rw [hz0]
 generalize heapBuild lt (b-a) a ((b-a-1) / 2+1) d=d1 at*
 have hw2:IntKind.i64.wrap (((b-a:Nat):Int)-1)=((b-a:Nat):Int)-1:=by rw [zz]<;>omega
 simp only [go_sem,e0,e3,e8,e9,e10,hw2]
 generalize hg:lim (headed pure (run L) false _ lp174_1 _ _) _ _=o
 obtain ⟨x,en,s,rfl,h2⟩: ∃x en s,o=some (x,en,s)∧_:=by rw [←hg];exact heap1l S0 T l hl n hn ag k hk caps c lt hlt hc X0 (b-a) a (by omega) _ _ (b-a) d1 ⟨Nat.le_refl _,Yh⟩ _ _ (by simp only [go_sem,e0,e3,e8,e9,e10]<;>rfl)
 clear hg
 obtain ⟨rfl,rfl⟩:=h2
 simp only [go_sem]
end
def brkNl (a len md:Nat):Nat→Nat→UInt64×Array (LI)→UInt64×Array (LI)
 |0,_,st=>st
 |k+1,idx,st=>brkNl a len md k (idx+1) (Go.Sort.breakStep a len md st idx)
theorem brk0l (S0:List (List AV))(T:List Nat)(l:Nat)(hl:l<S0.length)(n:Nat)(hn:n≤1000)(ag:Bool)(X0:List (List AV))(a len q md i0:Nat)(hq:q=len / 4)(hi0:i0=a+q*2-1)(h8:13≤len)(hal:a+len≤n)(Qi:md≤2*len)(OD:0<md)(lo hi2:Nat)(j:Nat)(r:UInt64)(d:Array (LI))(hok:j≤3∧d.size=n)(env:Env)(st:St)
  (hg:gcAV false lo hi2 (canon env [0,1,8,9,10,11]) st=([(0,.rsl l 0 n n 1 ag),(1,J a),(8,J len),(9,.ptr (S0.length+X0.length) 0),(10,U md),(11,J (i0+j))],⟨put S0 l (Dm fL d) (X0++ [[U r.toNat]]),T⟩)):
  ∃x_1 en s,lim (headed pure (run L) false [0,1,8,9,10,11] lp175_0 lo hi2) env st=some (x_1,en,s)∧(x_1=.exit 0∧∃z:Nat,s=⟨put S0 l (Dm fL (brkNl a len md (3-j) (i0+j) (r,d)).2) (X0++ [[U z]]),T⟩):=by
 refine z8 (α:=Nat×UInt64×Array (LI)) (fun ⟨j,r,d⟩=>3-j) (fun ⟨j,r,d⟩=>j≤3∧d.size=n) (fun ⟨j,r,d⟩=>([(0,.rsl l 0 n n 1 ag),(1,J a),(8,J len),(9,.ptr (S0.length+X0.length) 0),(10,U md),(11,J (i0+j))],⟨put S0 l (Dm fL d) (X0++ [[U r.toNat]]),T⟩)) (fun ⟨j,r,d⟩ x_1 en s=>x_1=.exit 0∧∃z:Nat,s=⟨put S0 l (Dm fL (brkNl a len md (3-j) (i0+j) (r,d)).2) (X0++ [[U z]]),T⟩) (fun ⟨j,r,d⟩ hok=> ?_) ⟨j,r,d⟩ hok env st hg
 simp only at hok
 obtain ⟨h1,hsz⟩:=hok
 dsimp only at h1 hsz⊢
 have VM:IntKind.i64.wrap (Int.tdiv (len:Int) 4)=((q:Nat):Int):=by rw [hq];exact zga len 4 (by omega) (by omega)
 have hm2:IntKind.i64.wrap ((q:Int)*2)=((q*2:Nat):Int):=by rw [zz]<;>omega
 have Vu:=z8t a (q*2) (by omega)
 have Vx:=za (a+q*2) (by omega)
 by_cases h:j<3
 ·have hle:(((i0+j:Nat):Int)≤((a+q*2+1:Nat):Int))=True:=eT (by omega)
  have hs:=za (i0+j) (by omega)
  have hpl:=fun C B=>z1z (S0:=S0) (l:=l) C X0 B
  have hps:=fun C B B'=>z5y (S0:=S0) (l:=l) C X0 B B'
  have Vy:=fun C B=>z5k (S0:=S0) (l:=l) C (X0++ [B])
  have VS:=fun C=>c183 (put S0 l C (X0++ [[U r.toNat]])) T (S0.length+X0.length) (by rw [z5k];simp) r (z1z C X0 _)
  rw [show 3-j=(3-(j+1))+1 by omega]
  have e:brkNl a len md (3-(j+1)+1) (i0+j) (r,d)=brkNl a len md (3-(j+1)) (i0+j+1) (Go.Sort.breakStep a len md (r,d) (i0+j)):=rfl
  rw [e]
  have e2:Go.Sort.breakStep a len md (r,d) (i0+j)=(xorNext r,swp d (i0+j) (a+(if (xorNext r).toNat&&&(md-1)≥len then ((xorNext r).toNat&&&(md-1))-len else (xorNext r).toNat&&&(md-1)))):=rfl
  rw [e2]
  have hsub:IntKind.u64.wrap ((md:Int)-1)=((md-1:Nat):Int):=by
   have:=z8s (md-1) (by omega)
   rw [←this];congr 1;omega
  have Yu:binAV .and none (U (xorNext r).toNat) (U (md-1))=some (U ((xorNext r).toNat&&&(md-1))):=by
   rw [zn4]
   unfold andN
   rw [Nat.mod_eq_of_lt (UInt64.toNat_lt _),Nat.mod_eq_of_lt (by omega)]
  have hol:(xorNext r).toNat&&&(md-1)≤md-1:=Nat.and_le_right
  generalize xorNext r=r1 at*
  generalize (r1.toNat&&&(md-1))=ot at*
  have VE:IntKind.i64.wrap (ot:Int)=ot:=by rw [zz]<;>omega
  have hget:=zg hl
  have Ya:=zf hl
  have Yb:(Dm fL d).length=n:=by rw [zm,hsz]
  by_cases p:ot≥len
  ·have q1:((len:Int)≤(ot:Int))=True:=eT (by omega)
   have QC:=z6z ot len (by omega) (by omega)
   have Qb:=z8t a (ot-len) (by omega)
   rw [if_pos p]
   have r10:(((i0+j:Nat):Int)<(n:Int))=True:=eT (by omega)
   have r11:((i0+j:Nat)<n)=True:=eT (by omega)
   have r12:((i0+j:Nat)+1≤n)=True:=eT (by omega)
   have r13:(Dm fL d)[i0+j]? =some (fL d[i0+j]!):=zc fL d (by omega)
   have r20:(((a+(ot-len):Nat):Int)<(n:Int))=True:=eT (by omega)
   have r21:((a+(ot-len):Nat)<n)=True:=eT (by omega)
   have r22:((a+(ot-len):Nat)+1≤n)=True:=eT (by omega)
   have r23:(Dm fL d)[a+(ot-len)]? =some (fL d[a+(ot-len)]!):=zc fL d (by omega)
   have Vt:=zx fL d (i0+j) (a+(ot-len))
   have Yf:=zh (i:=i0+j) (j:=a+(ot-len)) hsz
   generalize d[i0+j]! =x at*
   generalize d[a+(ot-len)]! =y at*
   generalize swp d (i0+j) (a+(ot-len))=d1 at*
   simp only [go_sem,lp175_0,VM,hm2,Vu,Vx,hle,VS,hps,hsub,Yu,VE,q1,QC,Qb,r10,r11,r12,r13,r20,r21,r22,r23,Vt,hs,hget,Ya,Yb,nn_,lm_,List.length_set]
   refine ⟨(j+1,r1,d1),by simp only [go_sem,z3,z4,z5]<;>rfl,?_,?_,fun x en s hq=> ?_⟩
   ·dsimp only;exact ⟨by omega,Yf⟩
   ·dsimp only;omega
   ·exact hq
  ·have q1:((len:Int)≤(ot:Int))=False:=eF (by omega)
   have Qb:=z8t a ot (by omega)
   rw [if_neg p]
   have r30:(((i0+j:Nat):Int)<(n:Int))=True:=eT (by omega)
   have r31:((i0+j:Nat)<n)=True:=eT (by omega)
   have r32:((i0+j:Nat)+1≤n)=True:=eT (by omega)
   have r33:(Dm fL d)[i0+j]? =some (fL d[i0+j]!):=zc fL d (by omega)
   have r40:(((a+ot:Nat):Int)<(n:Int))=True:=eT (by omega)
   have r41:((a+ot:Nat)<n)=True:=eT (by omega)
   have r42:((a+ot:Nat)+1≤n)=True:=eT (by omega)
   have r43:(Dm fL d)[a+ot]? =some (fL d[a+ot]!):=zc fL d (by omega)
   have Vt:=zx fL d (i0+j) (a+ot)
   have Yf:=zh (i:=i0+j) (j:=a+ot) hsz
   generalize d[i0+j]! =x at*
   generalize d[a+ot]! =y at*
   generalize swp d (i0+j) (a+ot)=d1 at*
   simp only [go_sem,lp175_0,VM,hm2,Vu,Vx,hle,VS,hps,hsub,Yu,VE,q1,Qb,r30,r31,r32,r33,r40,r41,r42,r43,Vt,hs,hget,Ya,Yb,nn_,lm_,List.length_set]
   refine ⟨(j+1,r1,d1),by simp only [go_sem,z3,z4,z5]<;>rfl,?_,?_,fun x en s hq=> ?_⟩
   ·dsimp only;exact ⟨by omega,Yf⟩
   ·dsimp only;omega
   ·exact hq
 ·have hle:(((i0+j:Nat):Int)≤((a+q*2+1:Nat):Int))=False:=eF (by omega)
  rw [show 3-j=0 by omega]
  simp only [go_sem,lp175_0,VM,hm2,Vu,Vx,hle]
  exact ⟨_,rfl⟩
theorem brkl (S0:List (List AV))(T:List Nat)(l:Nat)(hl:l<S0.length)(n:Nat)(hn:n≤1000)(ag:Bool)(k:Nat)(caps:List AV)(X0:List (List AV))(d:Array (LI))(hsz:d.size=n)(a b:Nat)(VA:a+13≤b)(hb:b≤n)(hb2:b-a<256):
  ∃z:Nat,run L 175 [.rsl l 0 n n 1 ag,J a,J b,.fn (.func k) [] caps] ⟨put S0 l (Dm fL d) X0,T⟩=some (.tup [],⟨put S0 l (Dm fL (breakPatterns d a b)) (X0++ [[U z]]),T⟩):=by
 rw [z6 (fn:=ir175) rfl rfl]
 have hw:=z6z b a (by omega) (by omega)
 obtain ⟨len,hlen⟩: ∃len,len=b-a:=⟨_,rfl⟩
 rw [←hlen] at hw
 have q8:((8:Int)≤(len:Int))=True:=eT (by omega)
 have VM:IntKind.i64.wrap (Int.tdiv (len:Int) 4)=((len / 4:Nat):Int):=zga len 4 (by omega) (by omega)
 obtain ⟨q,VJ⟩: ∃q,q=len / 4:=⟨_,rfl⟩
 rw [←VJ] at VM
 have hm2:IntKind.i64.wrap ((q:Int)*2)=((q*2:Nat):Int):=by rw [zz]<;>omega
 have Vu:=z8t a (q*2) (by omega)
 have Vx:=zu (a+q*2) (by omega) (by omega)
 have Qc:=fun st=>c182 len (by omega) st
 have Qi:=Go.Sort.two_pow_bitsLen_le (n:=len) (by omega)
 have VE:IntKind.u64.wrap (len:Int)=((UInt64.ofNat len).toNat:Int):=by
  rw [z8s len (by omega),UInt64.toNat_ofNat',Nat.mod_eq_of_lt (by omega)]
 have e:breakPatterns d a b=(brkNl a len (2^bitsLen len) 3 (a+q*2-1) (UInt64.ofNat len,d)).2:=by
  unfold breakPatterns
  dsimp only
  rw [←hlen,if_pos (by omega),←VJ,Nat.one_shiftLeft]
  rfl
 rw [e]
 have hp:=Nat.two_pow_pos (bitsLen len)
 generalize 2^bitsLen len=md at*
 have Vy:=fun C=>z5k (S0:=S0) (l:=l) C X0
 have VC:=fun C B=>z8f (S0:=S0) (l:=l) C X0 B
 have hpl:=fun C B=>z1z (S0:=S0) (l:=l) C X0 B
 have hps:=fun C B B'=>z5y (S0:=S0) (l:=l) C X0 B B'
 simp only [ir175,go_sem,hw,q8,VM,hm2,Vu,Vx,Qc,VE,Vy,VC,hpl,hps]
 generalize hg:lim (headed pure (run L) false _ lp175_0 _ _) _ _=o
 obtain ⟨x,en,s,rfl,h2⟩: ∃x en s,o=some (x,en,s)∧_:=by rw [←hg];exact brk0l S0 T l hl n hn ag X0 a len q md (a+q*2-1) VJ rfl (by omega) (by omega) Qi hp _ _ 0 (UInt64.ofNat len) d ⟨by omega,hsz⟩ _ _ (by simp only [go_sem]<;>rfl)
 clear hg
 obtain ⟨rfl,z,rfl⟩:=h2
 refine ⟨z,?_⟩
 simp only [go_sem]
section
variable (S0:List (List AV)) (T:List Nat) (l:Nat) (hl:l<S0.length) (n:Nat) (hn:n≤1000) (ag:Bool) (k:Nat) (hk:pure k=false) (caps:List AV) (c:LI→LI→Int) (lt:LI→LI→Bool) (hlt: ∀x y,lt x y=decide (c x y<0)) (hc: ∀x y X E,run L k (fL x::fL y::caps) ⟨put S0 l X E,T⟩=some (I (c x y),⟨put S0 l X E,T⟩))
include S0 T l hl n hn ag k hk caps c lt hlt hc
theorem par0l (X0:List (List AV))(a j:Nat)(ha:a<n)(Yk:j<n)(d:Array (LI))(hsz:d.size=n)(lo hi2:Nat)(i:Nat)(hok:0<i∧i≤j+1)(env:Env)(st:St)
  (hg:gcAV false lo hi2 (canon env [0,1,4,12,13]) st=([(0,.rsl l 0 n n 1 ag),(1,J a),(4,.fn (.func k) [] caps),(12,J i),(13,J j)],⟨put S0 l (Dm fL d) X0,T⟩)):
  ∃x_1 en s,lim (headed pure (run L) false [0,1,4,12,13] lp180_0 lo hi2) env st=some (x_1,en,s)∧(x_1=.exit 0∧en.get 0=.rsl l 0 n n 1 ag∧en.get 1=J a∧en.get 4=.fn (.func k) [] caps∧en.get 12=J (scanUp (fun x=>lt x d[a]!) d j i)∧en.get 13=J j∧s=⟨put S0 l (Dm fL d) X0,T⟩):=by
 refine z8 (α:=Nat) (fun i=>j+1-i) (fun i=>0<i∧i≤j+1) (fun i=>([(0,.rsl l 0 n n 1 ag),(1,J a),(4,.fn (.func k) [] caps),(12,J i),(13,J j)],⟨put S0 l (Dm fL d) X0,T⟩)) (fun i x_1 en s=>x_1=.exit 0∧en.get 0=.rsl l 0 n n 1 ag∧en.get 1=J a∧en.get 4=.fn (.func k) [] caps∧en.get 12=J (scanUp (fun x=>lt x d[a]!) d j i)∧en.get 13=J j∧s=⟨put S0 l (Dm fL d) X0,T⟩) (fun i hok=> ?_) i hok env st hg
 obtain ⟨h1,h2⟩:=hok
 have hget:=zg hl
 have Ya:=zf hl
 have Yb:(Dm fL d).length=n:=by rw [zm,hsz]
 by_cases h:i≤j
 ·have hle:((i:Int)≤(j:Int))=True:=eT (by omega)
  have hs:=za i (by omega)
  have r10:(((a:Nat):Int)<(n:Int))=True:=eT (by omega)
  have r11:((a:Nat)<n)=True:=eT (by omega)
  have r12:((a:Nat)+1≤n)=True:=eT (by omega)
  have r13:(Dm fL d)[a]? =some (fL d[a]!):=zc fL d (by omega)
  have r20:(((i:Nat):Int)<(n:Int))=True:=eT (by omega)
  have r21:((i:Nat)<n)=True:=eT (by omega)
  have r22:((i:Nat)+1≤n)=True:=eT (by omega)
  have r23:(Dm fL d)[i]? =some (fL d[i]!):=zc fL d (by omega)
  cases Vr:lt d[i]! d[a]! with
  |true=>
   have Vs:(c d[i]! d[a]! <0)=True:=by rw [hlt] at Vr;simpa using Vr
   rw [z4a _ d j i h (by simp [Vr])]
   generalize d[a]! =x at*
   generalize d[i]! =y at*
   simp only [go_sem,lp180_0,hle,hs,r10,r11,r12,r13,r20,r21,r22,r23,hc,hk,Vs,hget,Ya,Yb,nn_,lm_,List.length_set]
   refine ⟨i+1,by simp only [go_sem,z3,z4,z5]<;>rfl,?_,?_,fun x en s hq=> ?_⟩
   ·omega
   ·omega
   ·exact hq
  |false=>
   have Vs:(c d[i]! d[a]! <0)=False:=by rw [hlt] at Vr;simpa using Vr
   rw [z00 _ d _ _ (by simp [Vr])]
   generalize d[a]! =x at*
   generalize d[i]! =y at*
   simp only [go_sem,lp180_0,hle,r10,r11,r12,r13,r20,r21,r22,r23,hc,hk,Vs,hget,Ya,Yb,nn_,lm_,List.length_set]
 ·have hle:((i:Int)≤(j:Int))=False:=eF (by omega)
  rw [z00 _ d _ _ (by simp;omega)]
  simp only [go_sem,lp180_0,hle]
theorem par1l (X0:List (List AV))(a i:Nat)(ha:a<n)(Yk:0<i)(d:Array (LI))(hsz:d.size=n)(lo hi2:Nat)(j:Nat)(hok:i≤j+1∧j<n)(env:Env)(st:St)
  (hg:gcAV false lo hi2 (canon env [0,1,4,12,13]) st=([(0,.rsl l 0 n n 1 ag),(1,J a),(4,.fn (.func k) [] caps),(12,J i),(13,J j)],⟨put S0 l (Dm fL d) X0,T⟩)):
  ∃x_1 en s,lim (headed pure (run L) false [0,1,4,12,13] lp180_1 lo hi2) env st=some (x_1,en,s)∧(x_1=.exit 2∧en.get 0=.rsl l 0 n n 1 ag∧en.get 1=J a∧en.get 4=.fn (.func k) [] caps∧en.get 12=J i∧en.get 13=J (scanDown (fun x=> !lt x d[a]!) d i j)∧s=⟨put S0 l (Dm fL d) X0,T⟩):=by
 refine z8 (α:=Nat) (fun j=>j) (fun j=>i≤j+1∧j<n) (fun j=>([(0,.rsl l 0 n n 1 ag),(1,J a),(4,.fn (.func k) [] caps),(12,J i),(13,J j)],⟨put S0 l (Dm fL d) X0,T⟩)) (fun j x_1 en s=>x_1=.exit 2∧en.get 0=.rsl l 0 n n 1 ag∧en.get 1=J a∧en.get 4=.fn (.func k) [] caps∧en.get 12=J i∧en.get 13=J (scanDown (fun x=> !lt x d[a]!) d i j)∧s=⟨put S0 l (Dm fL d) X0,T⟩) (fun j hok=> ?_) j hok env st hg
 obtain ⟨h1,h2⟩:=hok
 have hget:=zg hl
 have Ya:=zf hl
 have Yb:(Dm fL d).length=n:=by rw [zm,hsz]
 by_cases h:i≤j
 ·have hle:((i:Int)≤(j:Int))=True:=eT (by omega)
  have hs:=zu j (by omega) (by omega)
  have r30:(((a:Nat):Int)<(n:Int))=True:=eT (by omega)
  have r31:((a:Nat)<n)=True:=eT (by omega)
  have r32:((a:Nat)+1≤n)=True:=eT (by omega)
  have r33:(Dm fL d)[a]? =some (fL d[a]!):=zc fL d (by omega)
  have r40:(((j:Nat):Int)<(n:Int))=True:=eT (by omega)
  have r41:((j:Nat)<n)=True:=eT (by omega)
  have r42:((j:Nat)+1≤n)=True:=eT (by omega)
  have r43:(Dm fL d)[j]? =some (fL d[j]!):=zc fL d (by omega)
  cases Vr:lt d[j]! d[a]! with
  |true=>
   have Vs:(c d[j]! d[a]! <0)=True:=by rw [hlt] at Vr;simpa using Vr
   rw [zw _ d _ _ (by simp [Vr])]
   generalize d[a]! =x at*
   generalize d[j]! =y at*
   simp only [go_sem,lp180_1,hle,r30,r31,r32,r33,r40,r41,r42,r43,hc,hk,Vs,hget,Ya,Yb,nn_,lm_,List.length_set]
  |false=>
   have Vs:(c d[j]! d[a]! <0)=False:=by rw [hlt] at Vr;simpa using Vr
   rw [z1y _ d i j h (by omega) (by simp [Vr])]
   generalize d[a]! =x at*
   generalize d[j]! =y at*
   simp only [go_sem,lp180_1,hle,hs,r30,r31,r32,r33,r40,r41,r42,r43,hc,hk,Vs,hget,Ya,Yb,nn_,lm_,List.length_set]
   refine ⟨j-1,by simp only [go_sem,z3,z4,z5]<;>rfl,?_,?_,fun x en s hq=> ?_⟩
   ·omega
   ·omega
   ·exact hq
 ·have hle:((i:Int)≤(j:Int))=False:=eF (by omega)
  rw [zw _ d _ _ (by simp;omega)]
  simp only [go_sem,lp180_1,hle]
theorem par2l (X0:List (List AV))(a j:Nat)(ha:a<n)(Yk:j<n)(d:Array (LI))(hsz:d.size=n)(lo hi2:Nat)(i:Nat)(hok:0<i∧i≤j+1)(env:Env)(st:St)
  (hg:gcAV false lo hi2 (canon env [0,1,4,12,13]) st=([(0,.rsl l 0 n n 1 ag),(1,J a),(4,.fn (.func k) [] caps),(12,J i),(13,J j)],⟨put S0 l (Dm fL d) X0,T⟩)):
  ∃x_1 en s,lim (headed pure (run L) false [0,1,4,12,13] lp180_2 lo hi2) env st=some (x_1,en,s)∧(x_1=.exit 6∧en.get 0=.rsl l 0 n n 1 ag∧en.get 1=J a∧en.get 4=.fn (.func k) [] caps∧en.get 12=J (scanUp (fun x=>lt x d[a]!) d j i)∧en.get 13=J j∧s=⟨put S0 l (Dm fL d) X0,T⟩):=by
 refine z8 (α:=Nat) (fun i=>j+1-i) (fun i=>0<i∧i≤j+1) (fun i=>([(0,.rsl l 0 n n 1 ag),(1,J a),(4,.fn (.func k) [] caps),(12,J i),(13,J j)],⟨put S0 l (Dm fL d) X0,T⟩)) (fun i x_1 en s=>x_1=.exit 6∧en.get 0=.rsl l 0 n n 1 ag∧en.get 1=J a∧en.get 4=.fn (.func k) [] caps∧en.get 12=J (scanUp (fun x=>lt x d[a]!) d j i)∧en.get 13=J j∧s=⟨put S0 l (Dm fL d) X0,T⟩) (fun i hok=> ?_) i hok env st hg
 obtain ⟨h1,h2⟩:=hok
 have hget:=zg hl
 have Ya:=zf hl
 have Yb:(Dm fL d).length=n:=by rw [zm,hsz]
 by_cases h:i≤j
 ·have hle:((i:Int)≤(j:Int))=True:=eT (by omega)
  have hs:=za i (by omega)
  have r50:(((a:Nat):Int)<(n:Int))=True:=eT (by omega)
  have r51:((a:Nat)<n)=True:=eT (by omega)
  have r52:((a:Nat)+1≤n)=True:=eT (by omega)
  have r53:(Dm fL d)[a]? =some (fL d[a]!):=zc fL d (by omega)
  have r60:(((i:Nat):Int)<(n:Int))=True:=eT (by omega)
  have r61:((i:Nat)<n)=True:=eT (by omega)
  have r62:((i:Nat)+1≤n)=True:=eT (by omega)
  have r63:(Dm fL d)[i]? =some (fL d[i]!):=zc fL d (by omega)
  cases Vr:lt d[i]! d[a]! with
  |true=>
   have Vs:(c d[i]! d[a]! <0)=True:=by rw [hlt] at Vr;simpa using Vr
   rw [z4a _ d j i h (by simp [Vr])]
   generalize d[a]! =x at*
   generalize d[i]! =y at*
   simp only [go_sem,lp180_2,hle,hs,r50,r51,r52,r53,r60,r61,r62,r63,hc,hk,Vs,hget,Ya,Yb,nn_,lm_,List.length_set]
   refine ⟨i+1,by simp only [go_sem,z3,z4,z5]<;>rfl,?_,?_,fun x en s hq=> ?_⟩
   ·omega
   ·omega
   ·exact hq
  |false=>
   have Vs:(c d[i]! d[a]! <0)=False:=by rw [hlt] at Vr;simpa using Vr
   rw [z00 _ d _ _ (by simp [Vr])]
   generalize d[a]! =x at*
   generalize d[i]! =y at*
   simp only [go_sem,lp180_2,hle,r50,r51,r52,r53,r60,r61,r62,r63,hc,hk,Vs,hget,Ya,Yb,nn_,lm_,List.length_set]
 ·have hle:((i:Int)≤(j:Int))=False:=eF (by omega)
  rw [z00 _ d _ _ (by simp;omega)]
  simp only [go_sem,lp180_2,hle]
theorem par3l (X0:List (List AV))(a i:Nat)(ha:a<n)(Yk:0<i)(d:Array (LI))(hsz:d.size=n)(lo hi2:Nat)(j:Nat)(hok:i≤j+1∧j<n)(env:Env)(st:St)
  (hg:gcAV false lo hi2 (canon env [0,1,4,12,13]) st=([(0,.rsl l 0 n n 1 ag),(1,J a),(4,.fn (.func k) [] caps),(12,J i),(13,J j)],⟨put S0 l (Dm fL d) X0,T⟩)):
  ∃x_1 en s,lim (headed pure (run L) false [0,1,4,12,13] lp180_3 lo hi2) env st=some (x_1,en,s)∧(x_1=.exit 8∧en.get 0=.rsl l 0 n n 1 ag∧en.get 1=J a∧en.get 4=.fn (.func k) [] caps∧en.get 12=J i∧en.get 13=J (scanDown (fun x=> !lt x d[a]!) d i j)∧s=⟨put S0 l (Dm fL d) X0,T⟩):=by
 refine z8 (α:=Nat) (fun j=>j) (fun j=>i≤j+1∧j<n) (fun j=>([(0,.rsl l 0 n n 1 ag),(1,J a),(4,.fn (.func k) [] caps),(12,J i),(13,J j)],⟨put S0 l (Dm fL d) X0,T⟩)) (fun j x_1 en s=>x_1=.exit 8∧en.get 0=.rsl l 0 n n 1 ag∧en.get 1=J a∧en.get 4=.fn (.func k) [] caps∧en.get 12=J i∧en.get 13=J (scanDown (fun x=> !lt x d[a]!) d i j)∧s=⟨put S0 l (Dm fL d) X0,T⟩) (fun j hok=> ?_) j hok env st hg
 obtain ⟨h1,h2⟩:=hok
 have hget:=zg hl
 have Ya:=zf hl
 have Yb:(Dm fL d).length=n:=by rw [zm,hsz]
 by_cases h:i≤j
 ·have hle:((i:Int)≤(j:Int))=True:=eT (by omega)
  have hs:=zu j (by omega) (by omega)
  have r70:(((a:Nat):Int)<(n:Int))=True:=eT (by omega)
  have r71:((a:Nat)<n)=True:=eT (by omega)
  have r72:((a:Nat)+1≤n)=True:=eT (by omega)
  have r73:(Dm fL d)[a]? =some (fL d[a]!):=zc fL d (by omega)
  have r80:(((j:Nat):Int)<(n:Int))=True:=eT (by omega)
  have r81:((j:Nat)<n)=True:=eT (by omega)
  have r82:((j:Nat)+1≤n)=True:=eT (by omega)
  have r83:(Dm fL d)[j]? =some (fL d[j]!):=zc fL d (by omega)
  cases Vr:lt d[j]! d[a]! with
  |true=>
   have Vs:(c d[j]! d[a]! <0)=True:=by rw [hlt] at Vr;simpa using Vr
   rw [zw _ d _ _ (by simp [Vr])]
   generalize d[a]! =x at*
   generalize d[j]! =y at*
   simp only [go_sem,lp180_3,hle,r70,r71,r72,r73,r80,r81,r82,r83,hc,hk,Vs,hget,Ya,Yb,nn_,lm_,List.length_set]
  |false=>
   have Vs:(c d[j]! d[a]! <0)=False:=by rw [hlt] at Vr;simpa using Vr
   rw [z1y _ d i j h (by omega) (by simp [Vr])]
   generalize d[a]! =x at*
   generalize d[j]! =y at*
   simp only [go_sem,lp180_3,hle,hs,r70,r71,r72,r73,r80,r81,r82,r83,hc,hk,Vs,hget,Ya,Yb,nn_,lm_,List.length_set]
   refine ⟨j-1,by simp only [go_sem,z3,z4,z5]<;>rfl,?_,?_,fun x en s hq=> ?_⟩
   ·omega
   ·omega
   ·exact hq
 ·have hle:((i:Int)≤(j:Int))=False:=eF (by omega)
  rw [zw _ d _ _ (by simp;omega)]
  simp only [go_sem,lp180_3,hle]
theorem peq0l (X0:List (List AV))(a j:Nat)(ha:a<n)(Yk:j<n)(d:Array (LI))(hsz:d.size=n)(lo hi2:Nat)(i:Nat)(hok:0<i∧i≤j+1)(env:Env)(st:St)
  (hg:gcAV false lo hi2 (canon env [0,1,4,11,12]) st=([(0,.rsl l 0 n n 1 ag),(1,J a),(4,.fn (.func k) [] caps),(11,J i),(12,J j)],⟨put S0 l (Dm fL d) X0,T⟩)):
  ∃x_1 en s,lim (headed pure (run L) false [0,1,4,11,12] lp179_0 lo hi2) env st=some (x_1,en,s)∧(x_1=.exit 2∧en.get 0=.rsl l 0 n n 1 ag∧en.get 1=J a∧en.get 4=.fn (.func k) [] caps∧en.get 11=J (scanUp (fun x=> !lt d[a]! x) d j i)∧en.get 12=J j∧s=⟨put S0 l (Dm fL d) X0,T⟩):=by
 refine z8 (α:=Nat) (fun i=>j+1-i) (fun i=>0<i∧i≤j+1) (fun i=>([(0,.rsl l 0 n n 1 ag),(1,J a),(4,.fn (.func k) [] caps),(11,J i),(12,J j)],⟨put S0 l (Dm fL d) X0,T⟩)) (fun i x_1 en s=>x_1=.exit 2∧en.get 0=.rsl l 0 n n 1 ag∧en.get 1=J a∧en.get 4=.fn (.func k) [] caps∧en.get 11=J (scanUp (fun x=> !lt d[a]! x) d j i)∧en.get 12=J j∧s=⟨put S0 l (Dm fL d) X0,T⟩) (fun i hok=> ?_) i hok env st hg
 obtain ⟨h1,h2⟩:=hok
 have hget:=zg hl
 have Ya:=zf hl
 have Yb:(Dm fL d).length=n:=by rw [zm,hsz]
 by_cases h:i≤j
 ·have hle:((i:Int)≤(j:Int))=True:=eT (by omega)
  have hs:=za i (by omega)
  have r90:(((a:Nat):Int)<(n:Int))=True:=eT (by omega)
  have r91:((a:Nat)<n)=True:=eT (by omega)
  have r92:((a:Nat)+1≤n)=True:=eT (by omega)
  have r93:(Dm fL d)[a]? =some (fL d[a]!):=zc fL d (by omega)
  have r100:(((i:Nat):Int)<(n:Int))=True:=eT (by omega)
  have r101:((i:Nat)<n)=True:=eT (by omega)
  have r102:((i:Nat)+1≤n)=True:=eT (by omega)
  have r103:(Dm fL d)[i]? =some (fL d[i]!):=zc fL d (by omega)
  cases Vr:lt d[a]! d[i]! with
  |true=>
   have Vs:(c d[a]! d[i]! <0)=True:=by rw [hlt] at Vr;simpa using Vr
   rw [z00 _ d _ _ (by simp [Vr])]
   generalize d[a]! =x at*
   generalize d[i]! =y at*
   simp only [go_sem,lp179_0,hle,r90,r91,r92,r93,r100,r101,r102,r103,hc,hk,Vs,hget,Ya,Yb,nn_,lm_,List.length_set]
  |false=>
   have Vs:(c d[a]! d[i]! <0)=False:=by rw [hlt] at Vr;simpa using Vr
   rw [z4a _ d j i h (by simp [Vr])]
   generalize d[a]! =x at*
   generalize d[i]! =y at*
   simp only [go_sem,lp179_0,hle,hs,r90,r91,r92,r93,r100,r101,r102,r103,hc,hk,Vs,hget,Ya,Yb,nn_,lm_,List.length_set]
   refine ⟨i+1,by simp only [go_sem,z3,z4,z5]<;>rfl,?_,?_,fun x en s hq=> ?_⟩
   ·omega
   ·omega
   ·exact hq
 ·have hle:((i:Int)≤(j:Int))=False:=eF (by omega)
  rw [z00 _ d _ _ (by simp;omega)]
  simp only [go_sem,lp179_0,hle]
theorem peq1l (X0:List (List AV))(a i:Nat)(ha:a<n)(Yk:0<i)(d:Array (LI))(hsz:d.size=n)(lo hi2:Nat)(j:Nat)(hok:i≤j+1∧j<n)(env:Env)(st:St)
  (hg:gcAV false lo hi2 (canon env [0,1,4,11,12]) st=([(0,.rsl l 0 n n 1 ag),(1,J a),(4,.fn (.func k) [] caps),(11,J i),(12,J j)],⟨put S0 l (Dm fL d) X0,T⟩)):
  ∃x_1 en s,lim (headed pure (run L) false [0,1,4,11,12] lp179_1 lo hi2) env st=some (x_1,en,s)∧(x_1=.exit 4∧en.get 0=.rsl l 0 n n 1 ag∧en.get 1=J a∧en.get 4=.fn (.func k) [] caps∧en.get 11=J i∧en.get 12=J (scanDown (fun x=>lt d[a]! x) d i j)∧s=⟨put S0 l (Dm fL d) X0,T⟩):=by
 refine z8 (α:=Nat) (fun j=>j) (fun j=>i≤j+1∧j<n) (fun j=>([(0,.rsl l 0 n n 1 ag),(1,J a),(4,.fn (.func k) [] caps),(11,J i),(12,J j)],⟨put S0 l (Dm fL d) X0,T⟩)) (fun j x_1 en s=>x_1=.exit 4∧en.get 0=.rsl l 0 n n 1 ag∧en.get 1=J a∧en.get 4=.fn (.func k) [] caps∧en.get 11=J i∧en.get 12=J (scanDown (fun x=>lt d[a]! x) d i j)∧s=⟨put S0 l (Dm fL d) X0,T⟩) (fun j hok=> ?_) j hok env st hg
 obtain ⟨h1,h2⟩:=hok
 have hget:=zg hl
 have Ya:=zf hl
 have Yb:(Dm fL d).length=n:=by rw [zm,hsz]
 by_cases h:i≤j
 ·have hle:((i:Int)≤(j:Int))=True:=eT (by omega)
  have hs:=zu j (by omega) (by omega)
  have r110:(((a:Nat):Int)<(n:Int))=True:=eT (by omega)
  have r111:((a:Nat)<n)=True:=eT (by omega)
  have r112:((a:Nat)+1≤n)=True:=eT (by omega)
  have r113:(Dm fL d)[a]? =some (fL d[a]!):=zc fL d (by omega)
  have r120:(((j:Nat):Int)<(n:Int))=True:=eT (by omega)
  have r121:((j:Nat)<n)=True:=eT (by omega)
  have r122:((j:Nat)+1≤n)=True:=eT (by omega)
  have r123:(Dm fL d)[j]? =some (fL d[j]!):=zc fL d (by omega)
  cases Vr:lt d[a]! d[j]! with
  |true=>
   have Vs:(c d[a]! d[j]! <0)=True:=by rw [hlt] at Vr;simpa using Vr
   rw [z1y _ d i j h (by omega) (by simp [Vr])]
   generalize d[a]! =x at*
   generalize d[j]! =y at*
   simp only [go_sem,lp179_1,hle,hs,r110,r111,r112,r113,r120,r121,r122,r123,hc,hk,Vs,hget,Ya,Yb,nn_,lm_,List.length_set]
   refine ⟨j-1,by simp only [go_sem,z3,z4,z5]<;>rfl,?_,?_,fun x en s hq=> ?_⟩
   ·omega
   ·omega
   ·exact hq
  |false=>
   have Vs:(c d[a]! d[j]! <0)=False:=by rw [hlt] at Vr;simpa using Vr
   rw [zw _ d _ _ (by simp [Vr])]
   generalize d[a]! =x at*
   generalize d[j]! =y at*
   simp only [go_sem,lp179_1,hle,r110,r111,r112,r113,r120,r121,r122,r123,hc,hk,Vs,hget,Ya,Yb,nn_,lm_,List.length_set]
 ·have hle:((i:Int)≤(j:Int))=False:=eF (by omega)
  rw [zw _ d _ _ (by simp;omega)]
  simp only [go_sem,lp179_1,hle]
theorem par4l (X0:List (List AV))(a:Nat)(ha:a<n)(lo hi2:Nat)(i:Nat)(j:Nat)(d:Array (LI))(hok:a<i∧i≤j+1∧j<n∧d.size=n)(env:Env)(st:St)
  (hg:gcAV false lo hi2 (canon env [0,1,4,12,13]) st=([(0,.rsl l 0 n n 1 ag),(1,J a),(4,.fn (.func k) [] caps),(12,J i),(13,J j)],⟨put S0 l (Dm fL d) X0,T⟩)):
  ∃x_1 en s,lim (headed pure (run L) false [0,1,4,12,13] lp180_4 lo hi2) env st=some (x_1,en,s)∧(x_1=.exit 4∧en.get 0=.rsl l 0 n n 1 ag∧en.get 1=J a∧en.get 4=.fn (.func k) [] caps∧en.get 13=J (partLoop lt a i j d).1∧s=⟨put S0 l (Dm fL (partLoop lt a i j d).2) X0,T⟩):=by
 refine z8 (α:=Nat×Nat×Array (LI)) (fun ⟨i,j,d⟩=>j+1-i) (fun ⟨i,j,d⟩=>a<i∧i≤j+1∧j<n∧d.size=n) (fun ⟨i,j,d⟩=>([(0,.rsl l 0 n n 1 ag),(1,J a),(4,.fn (.func k) [] caps),(12,J i),(13,J j)],⟨put S0 l (Dm fL d) X0,T⟩)) (fun ⟨i,j,d⟩ x_1 en s=>x_1=.exit 4∧en.get 0=.rsl l 0 n n 1 ag∧en.get 1=J a∧en.get 4=.fn (.func k) [] caps∧en.get 13=J (partLoop lt a i j d).1∧s=⟨put S0 l (Dm fL (partLoop lt a i j d).2) X0,T⟩) (fun ⟨i,j,d⟩ hok=> ?_) ⟨i,j,d⟩ hok env st hg
 simp only at hok
 obtain ⟨h1,h2,h3,hsz⟩:=hok
 dsimp only at h1 h2 h3 hsz⊢
 have hf:=z3l (fun x=>lt x d[a]!) (fun x=> !lt x d[a]!) (fun _=>rfl) d (i:=i) (j:=j) (by omega) h2
 rw [Go.Sort.partLoop_eq]
 simp only [go_sem,lp180_4]
 generalize hg:lim (headed pure (run L) false _ lp180_2 _ _) _ _=o
 obtain ⟨x,en,s,rfl,h2⟩: ∃x en s,o=some (x,en,s)∧_:=by rw [←hg];exact par2l S0 T l hl n hn ag k hk caps c lt hlt hc X0 a j ha h3 d hsz _ _ i ⟨by omega,h2⟩ _ _ (by simp only [go_sem]<;>rfl)
 clear hg
 obtain ⟨rfl,e0,e1,e4,e12,e13,rfl⟩:=h2
 generalize scanUp (fun x=>lt x d[a]!) d j i=i2 at*
 simp only [go_sem,lp180_4,e0,e1,e4,e12,e13]
 generalize hg:lim (headed pure (run L) false _ lp180_3 _ _) _ _=o
 obtain ⟨x,en,s,rfl,h2⟩: ∃x en s,o=some (x,en,s)∧_:=by rw [←hg];exact par3l S0 T l hl n hn ag k hk caps c lt hlt hc X0 a i2 ha (by omega) d hsz _ _ j ⟨by omega,h3⟩ _ _ (by simp only [go_sem,e0,e1,e4,e12,e13]<;>rfl)
 clear hg
 clear e0 e1 e4 e12 e13
 obtain ⟨rfl,e0,e1,e4,e12,e13,rfl⟩:=h2
 generalize scanDown (fun x=> !lt x d[a]!) d i2 j=j2 at*
 by_cases p:i2>j2
 ·have q:((j2:Int)<(i2:Int))=True:=eT (by omega)
  rw [if_pos p]
  simp only [go_sem,lp180_4,e0,e1,e4,e12,e13,q]
 ·have q:((j2:Int)<(i2:Int))=False:=eF (by omega)
  rw [if_neg p]
  have Qu:=hf.2.2.2.2 p
  have hs:=za i2 (by omega)
  have hw:=zu j2 (by omega) (by omega)
  have hget:=zg hl
  have Ya:=zf hl
  have Yb:(Dm fL d).length=n:=by rw [zm,hsz]
  have r130:(((i2:Nat):Int)<(n:Int))=True:=eT (by omega)
  have r131:((i2:Nat)<n)=True:=eT (by omega)
  have r132:((i2:Nat)+1≤n)=True:=eT (by omega)
  have r133:(Dm fL d)[i2]? =some (fL d[i2]!):=zc fL d (by omega)
  have r140:(((j2:Nat):Int)<(n:Int))=True:=eT (by omega)
  have r141:((j2:Nat)<n)=True:=eT (by omega)
  have r142:((j2:Nat)+1≤n)=True:=eT (by omega)
  have r143:(Dm fL d)[j2]? =some (fL d[j2]!):=zc fL d (by omega)
  have Vt:=zx fL d i2 j2
  have Yf:=zh (i:=i2) (j:=j2) hsz
  generalize d[i2]! =x at*
  generalize d[j2]! =y at*
  generalize swp d i2 j2=d1 at*
  simp only [go_sem,lp180_4,e0,e1,e4,e12,e13,q,hs,hw,r130,r131,r132,r133,r140,r141,r142,r143,Vt,hget,Ya,Yb,nn_,lm_,List.length_set]
  refine ⟨(i2+1,j2-1,d1),by simp only [go_sem,z3,z4,z5,e0,e1,e4]<;>rfl,?_,?_,fun x en s hq=> ?_⟩
  ·dsimp only;exact ⟨by omega,by omega,by omega,Yf⟩
  ·dsimp only;omega
  ·exact hq
theorem parl (X0:List (List AV))(d:Array (LI))(hsz:d.size=n)(a b v:Nat)(VA:a+1<b)(hb:b≤n)(hv:v<n):
  run L 180 [.rsl l 0 n n 1 ag,J a,J b,J v,.fn (.func k) [] caps] ⟨put S0 l (Dm fL d) X0,T⟩=some (.tup [J (partition lt d a b v).1,B (partition lt d a b v).2.1],⟨put S0 l (Dm fL (partition lt d a b v).2.2) X0,T⟩):=by
 rw [z6 (fn:=ir180) rfl rfl]
 have VB:=za a (by omega)
 have hb1:=zu b (by omega) (by omega)
 have e:partition lt d a b v=(let d0:=swp d a v;let i:=scanUp (fun x=>lt x d0[a]!) d0 (b-1) (a+1);let j:=scanDown (fun x=> !lt x d0[a]!) d0 i (b-1);if i>j then (j,true,swp d0 j a) else ((partLoop lt a (i+1) (j-1) (swp d0 i j)).1,false,swp (partLoop lt a (i+1) (j-1) (swp d0 i j)).2 (partLoop lt a (i+1) (j-1) (swp d0 i j)).1 a)):=rfl
 rw [e]
 have hget:=zg hl
 have Ya:=zf hl
 have Yb:(Dm fL d).length=n:=by rw [zm,hsz]
 have r150:(((a:Nat):Int)<(n:Int))=True:=eT (by omega)
 have r151:((a:Nat)<n)=True:=eT (by omega)
 have r152:((a:Nat)+1≤n)=True:=eT (by omega)
 have r153:(Dm fL d)[a]? =some (fL d[a]!):=zc fL d (by omega)
 have r160:(((v:Nat):Int)<(n:Int))=True:=eT (by omega)
 have r161:((v:Nat)<n)=True:=eT (by omega)
 have r162:((v:Nat)+1≤n)=True:=eT (by omega)
 have r163:(Dm fL d)[v]? =some (fL d[v]!):=zc fL d (by omega)
 have Vt:=zx fL d a v
 have Yi:=zh (i:=a) (j:=v) hsz
 generalize d[a]! =x at*
 generalize d[v]! =y at*
 generalize swp d a v=d0 at*
 simp only [ir180,go_sem,VB,hb1,r150,r151,r152,r153,r160,r161,r162,r163,Vt,hget,Ya,Yb,nn_,lm_,List.length_set]
 have hf:=z3l (fun x=>lt x d0[a]!) (fun x=> !lt x d0[a]!) (fun _=>rfl) d0 (i:=a+1) (j:=b-1) (by omega) (by omega)
 generalize hg:lim (headed pure (run L) false _ lp180_0 _ _) _ _=o
 obtain ⟨x,en,s,rfl,h2⟩: ∃x en s,o=some (x,en,s)∧_:=by rw [←hg];exact par0l S0 T l hl n hn ag k hk caps c lt hlt hc X0 a (b-1) (by omega) (by omega) d0 Yi _ _ (a+1) ⟨by omega,by omega⟩ _ _ (by simp only [go_sem]<;>rfl)
 clear hg
 obtain ⟨rfl,e0,e1,e4,e12,e13,rfl⟩:=h2
 generalize scanUp (fun x=>lt x d0[a]!) d0 (b-1) (a+1)=i2 at*
 simp only [go_sem,e0,e1,e4,e12,e13]
 generalize hg:lim (headed pure (run L) false _ lp180_1 _ _) _ _=o
 obtain ⟨x,en,s,rfl,h2⟩: ∃x en s,o=some (x,en,s)∧_:=by rw [←hg];exact par1l S0 T l hl n hn ag k hk caps c lt hlt hc X0 a i2 (by omega) (by omega) d0 Yi _ _ (b-1) ⟨by omega,by omega⟩ _ _ (by simp only [go_sem,e0,e1,e4,e12,e13]<;>rfl)
 clear hg
 clear e0 e1 e4 e12 e13
 obtain ⟨rfl,e0,e1,e4,e12,e13,rfl⟩:=h2
 generalize scanDown (fun x=> !lt x d0[a]!) d0 i2 (b-1)=j2 at*
 clear hget Ya Yb
 have hget:=zg hl
 have Ya:=zf hl
 have Yb:(Dm fL d0).length=n:=by rw [zm,Yi]
 by_cases p:i2>j2
 ·have q:((j2:Int)<(i2:Int))=True:=eT (by omega)
  rw [if_pos p]
  have r170:(((j2:Nat):Int)<(n:Int))=True:=eT (by omega)
  have r171:((j2:Nat)<n)=True:=eT (by omega)
  have r172:((j2:Nat)+1≤n)=True:=eT (by omega)
  have r173:(Dm fL d0)[j2]? =some (fL d0[j2]!):=zc fL d0 (by omega)
  have r180:(((a:Nat):Int)<(n:Int))=True:=eT (by omega)
  have r181:((a:Nat)<n)=True:=eT (by omega)
  have r182:((a:Nat)+1≤n)=True:=eT (by omega)
  have r183:(Dm fL d0)[a]? =some (fL d0[a]!):=zc fL d0 (by omega)
  have Yj:=zx fL d0 j2 a
  generalize d0[a]! =x2 at*
  generalize d0[j2]! =y2 at*
  simp only [go_sem,e0,e1,e4,e12,e13,q,r170,r171,r172,r173,r180,r181,r182,r183,Yj,hget,Ya,Yb,nn_,lm_,List.length_set]
 ·have q:((j2:Int)<(i2:Int))=False:=eF (by omega)
  rw [if_neg p]
  have Qu:=hf.2.2.2.2 p
  have hs:=za i2 (by omega)
  have hw:=zu j2 (by omega) (by omega)
  have r190:(((i2:Nat):Int)<(n:Int))=True:=eT (by omega)
  have r191:((i2:Nat)<n)=True:=eT (by omega)
  have r192:((i2:Nat)+1≤n)=True:=eT (by omega)
  have r193:(Dm fL d0)[i2]? =some (fL d0[i2]!):=zc fL d0 (by omega)
  have r200:(((j2:Nat):Int)<(n:Int))=True:=eT (by omega)
  have r201:((j2:Nat)<n)=True:=eT (by omega)
  have r202:((j2:Nat)+1≤n)=True:=eT (by omega)
  have r203:(Dm fL d0)[j2]? =some (fL d0[j2]!):=zc fL d0 (by omega)
  have Yj:=zx fL d0 i2 j2
  have Yf:=zh (i:=i2) (j:=j2) Yi
  generalize d0[i2]! =x2 at*
  generalize d0[j2]! =y2 at*
  generalize swp d0 i2 j2=d1 at*
  simp only [go_sem,e0,e1,e4,e12,e13,q,hs,hw,r190,r191,r192,r193,r200,r201,r202,r203,Yj,hget,Ya,Yb,nn_,lm_,List.length_set]
  have V4:=z68 lt a _ (i2+1) (j2-1) d1 (Nat.le_refl _) (by omega) (by omega)
  generalize hg:lim (headed pure (run L) false _ lp180_4 _ _) _ _=o
  obtain ⟨x,en,s,rfl,h2⟩: ∃x en s,o=some (x,en,s)∧_:=by rw [←hg];exact par4l S0 T l hl n hn ag k hk caps c lt hlt hc X0 a (by omega) _ _ (i2+1) (j2-1) d1 ⟨by omega,by omega,by omega,Yf⟩ _ _ (by simp only [go_sem,e0,e1,e4,e12,e13]<;>rfl)
  clear hg
  clear e0 e1 e4 e12 e13 hget Ya Yb
  obtain ⟨rfl,e0,e1,e4,e13,rfl⟩:=h2
  generalize partLoop lt a (i2+1) (j2-1) d1=r at*
  obtain ⟨j3,d2⟩:=r
  dsimp only at*
  have Yh:d2.size=n:=by rw [V4.1,Yf]
  have hget:=zg hl
  have Ya:=zf hl
  have Yb:(Dm fL d2).length=n:=by rw [zm,Yh]
  have r210:(((j3:Nat):Int)<(n:Int))=True:=eT (by omega)
  have r211:((j3:Nat)<n)=True:=eT (by omega)
  have r212:((j3:Nat)+1≤n)=True:=eT (by omega)
  have r213:(Dm fL d2)[j3]? =some (fL d2[j3]!):=zc fL d2 (by omega)
  have r220:(((a:Nat):Int)<(n:Int))=True:=eT (by omega)
  have r221:((a:Nat)<n)=True:=eT (by omega)
  have r222:((a:Nat)+1≤n)=True:=eT (by omega)
  have r223:(Dm fL d2)[a]? =some (fL d2[a]!):=zc fL d2 (by omega)
  have Yz:=zx fL d2 j3 a
  generalize d2[j3]! =x3 at*
  generalize d2[a]! =y3 at*
  simp only [go_sem,e0,e1,e4,e13,r210,r211,r212,r213,r220,r221,r222,r223,Yz,hget,Ya,Yb,nn_,lm_,List.length_set]
theorem peq2l (X0:List (List AV))(a:Nat)(ha:a<n)(lo hi2:Nat)(i:Nat)(j:Nat)(d:Array (LI))(hok:a<i∧i≤j+1∧j<n∧d.size=n)(env:Env)(st:St)
  (hg:gcAV false lo hi2 (canon env [0,1,4,11,12]) st=([(0,.rsl l 0 n n 1 ag),(1,J a),(4,.fn (.func k) [] caps),(11,J i),(12,J j)],⟨put S0 l (Dm fL d) X0,T⟩)):
  ∃x_1 en s,lim (headed pure (run L) false [0,1,4,11,12] lp179_2 lo hi2) env st=some (x_1,en,s)∧(x_1=.exit 0∧en.get 11=J (partEqLoop lt a i j d).1∧s=⟨put S0 l (Dm fL (partEqLoop lt a i j d).2) X0,T⟩):=by
 refine z8 (α:=Nat×Nat×Array (LI)) (fun ⟨i,j,d⟩=>j+1-i) (fun ⟨i,j,d⟩=>a<i∧i≤j+1∧j<n∧d.size=n) (fun ⟨i,j,d⟩=>([(0,.rsl l 0 n n 1 ag),(1,J a),(4,.fn (.func k) [] caps),(11,J i),(12,J j)],⟨put S0 l (Dm fL d) X0,T⟩)) (fun ⟨i,j,d⟩ x_1 en s=>x_1=.exit 0∧en.get 11=J (partEqLoop lt a i j d).1∧s=⟨put S0 l (Dm fL (partEqLoop lt a i j d).2) X0,T⟩) (fun ⟨i,j,d⟩ hok=> ?_) ⟨i,j,d⟩ hok env st hg
 simp only at hok
 obtain ⟨h1,h2,h3,hsz⟩:=hok
 dsimp only at h1 h2 h3 hsz⊢
 have hf:=z3l (fun x=> !lt d[a]! x) (fun x=>lt d[a]! x) (fun x=>by simp) d (i:=i) (j:=j) (by omega) h2
 rw [Go.Sort.partEqLoop_eq]
 simp only [go_sem,lp179_2]
 generalize hg:lim (headed pure (run L) false _ lp179_0 _ _) _ _=o
 obtain ⟨x,en,s,rfl,h2⟩: ∃x en s,o=some (x,en,s)∧_:=by rw [←hg];exact peq0l S0 T l hl n hn ag k hk caps c lt hlt hc X0 a j ha h3 d hsz _ _ i ⟨by omega,h2⟩ _ _ (by simp only [go_sem]<;>rfl)
 clear hg
 obtain ⟨rfl,e0,e1,e4,e12,e13,rfl⟩:=h2
 generalize scanUp (fun x=> !lt d[a]! x) d j i=i2 at*
 simp only [go_sem,lp179_2,e0,e1,e4,e12,e13]
 generalize hg:lim (headed pure (run L) false _ lp179_1 _ _) _ _=o
 obtain ⟨x,en,s,rfl,h2⟩: ∃x en s,o=some (x,en,s)∧_:=by rw [←hg];exact peq1l S0 T l hl n hn ag k hk caps c lt hlt hc X0 a i2 ha (by omega) d hsz _ _ j ⟨by omega,h3⟩ _ _ (by simp only [go_sem,e0,e1,e4,e12,e13]<;>rfl)
 clear hg
 clear e0 e1 e4 e12 e13
 obtain ⟨rfl,e0,e1,e4,e12,e13,rfl⟩:=h2
 generalize scanDown (fun x=>lt d[a]! x) d i2 j=j2 at*
 by_cases p:i2>j2
 ·have q:((j2:Int)<(i2:Int))=True:=eT (by omega)
  rw [if_pos p]
  simp only [go_sem,lp179_2,e0,e1,e4,e12,e13,q]
 ·have q:((j2:Int)<(i2:Int))=False:=eF (by omega)
  rw [if_neg p]
  have Qu:=hf.2.2.2.2 p
  have hs:=za i2 (by omega)
  have hw:=zu j2 (by omega) (by omega)
  have hget:=zg hl
  have Ya:=zf hl
  have Yb:(Dm fL d).length=n:=by rw [zm,hsz]
  have r230:(((i2:Nat):Int)<(n:Int))=True:=eT (by omega)
  have r231:((i2:Nat)<n)=True:=eT (by omega)
  have r232:((i2:Nat)+1≤n)=True:=eT (by omega)
  have r233:(Dm fL d)[i2]? =some (fL d[i2]!):=zc fL d (by omega)
  have r240:(((j2:Nat):Int)<(n:Int))=True:=eT (by omega)
  have r241:((j2:Nat)<n)=True:=eT (by omega)
  have r242:((j2:Nat)+1≤n)=True:=eT (by omega)
  have r243:(Dm fL d)[j2]? =some (fL d[j2]!):=zc fL d (by omega)
  have Vt:=zx fL d i2 j2
  have Yf:=zh (i:=i2) (j:=j2) hsz
  generalize d[i2]! =x at*
  generalize d[j2]! =y at*
  generalize swp d i2 j2=d1 at*
  simp only [go_sem,lp179_2,e0,e1,e4,e12,e13,q,hs,hw,r230,r231,r232,r233,r240,r241,r242,r243,Vt,hget,Ya,Yb,nn_,lm_,List.length_set]
  refine ⟨(i2+1,j2-1,d1),by simp only [go_sem,z3,z4,z5,e0,e1,e4]<;>rfl,?_,?_,fun x en s hq=> ?_⟩
  ·dsimp only;exact ⟨by omega,by omega,by omega,Yf⟩
  ·dsimp only;omega
  ·exact hq
theorem peql (X0:List (List AV))(d:Array (LI))(hsz:d.size=n)(a b v:Nat)(VA:a+1<b)(hb:b≤n)(hv:v<n):
  run L 179 [.rsl l 0 n n 1 ag,J a,J b,J v,.fn (.func k) [] caps] ⟨put S0 l (Dm fL d) X0,T⟩=some (J (partitionEqual lt d a b v).1,⟨put S0 l (Dm fL (partitionEqual lt d a b v).2) X0,T⟩):=by
 rw [z6 (fn:=ir179) rfl rfl]
 have VB:=za a (by omega)
 have hb1:=zu b (by omega) (by omega)
 have e:partitionEqual lt d a b v=partEqLoop lt a (a+1) (b-1) (swp d a v):=rfl
 rw [e]
 have hget:=zg hl
 have Ya:=zf hl
 have Yb:(Dm fL d).length=n:=by rw [zm,hsz]
 have r250:(((a:Nat):Int)<(n:Int))=True:=eT (by omega)
 have r251:((a:Nat)<n)=True:=eT (by omega)
 have r252:((a:Nat)+1≤n)=True:=eT (by omega)
 have r253:(Dm fL d)[a]? =some (fL d[a]!):=zc fL d (by omega)
 have r260:(((v:Nat):Int)<(n:Int))=True:=eT (by omega)
 have r261:((v:Nat)<n)=True:=eT (by omega)
 have r262:((v:Nat)+1≤n)=True:=eT (by omega)
 have r263:(Dm fL d)[v]? =some (fL d[v]!):=zc fL d (by omega)
 have Vt:=zx fL d a v
 have Yi:=zh (i:=a) (j:=v) hsz
 generalize d[a]! =x at*
 generalize d[v]! =y at*
 generalize swp d a v=d0 at*
 simp only [ir179,go_sem,VB,hb1,r250,r251,r252,r253,r260,r261,r262,r263,Vt,hget,Ya,Yb,nn_,lm_,List.length_set]
 generalize hg:lim (headed pure (run L) false _ lp179_2 _ _) _ _=o
 obtain ⟨x,en,s,rfl,h2⟩: ∃x en s,o=some (x,en,s)∧_:=by rw [←hg];exact peq2l S0 T l hl n hn ag k hk caps c lt hlt hc X0 a (by omega) _ _ (a+1) (b-1) d0 ⟨by omega,by omega,by omega,Yi⟩ _ _ (by simp only [go_sem]<;>rfl)
 clear hg
 obtain ⟨rfl,e11,rfl⟩:=h2
 simp only [go_sem,e11]
end
def tl140:IC:=(.seq (.seq (.ops [⟨(some 81),none,.move (.tmp 1)⟩,⟨(some 82),none,.bin .gtr none (.tmp 81) (.const (.int .i64 0))⟩,⟨(some 83),none,.move (.tmp 82)⟩,⟨(some 84),(some (83,true)),.move (.tmp 4)⟩,⟨(some 85),(some (83,true)),.move (.tmp 0)⟩,⟨(some 86),(some (83,true)),.move (.tmp 1)⟩,⟨(some 87),(some (83,true)),.bin .sub none (.tmp 86) (.const (.int .i64 1))⟩,⟨(some 88),(some (83,true)),.indexS 1 (.tmp 85) (.tmp 87)⟩,⟨(some 89),(some (83,true)),.load 1 false (.tmp 88)⟩,⟨(some 90),(some (83,true)),.move (.tmp 0)⟩,⟨(some 91),(some (83,true)),.move (.tmp 13)⟩,⟨(some 92),(some (83,true)),.indexS 1 (.tmp 90) (.tmp 91)⟩,⟨(some 93),(some (83,true)),.load 1 false (.tmp 92)⟩,⟨(some 94),(some (83,true)),.callv false (.tmp 84) [(.tmp 89),(.tmp 93)]⟩,⟨(some 95),(some (83,true)),.bin .lss none (.tmp 94) (.const (.int .i64 0))⟩,⟨(some 96),(some (83,true)),.not (.tmp 95)⟩,⟨(some 97),none,.pick (.tmp 83) (.tmp 96) (.const (.bool false))⟩])
 (.cond (.tmp 97) (.seq (.ops [⟨(some 98),none,.move (.tmp 0)⟩,⟨(some 99),none,.move (.tmp 1)⟩,⟨(some 100),none,.move (.tmp 2)⟩,⟨(some 101),none,.move (.tmp 13)⟩,⟨(some 102),none,.move (.tmp 4)⟩,⟨(some 103),none,.call false 179 [(.tmp 98),(.tmp 99),(.tmp 100),(.tmp 101),(.tmp 102)]⟩,⟨(some 15),none,.move (.tmp 103)⟩])
  (.seq (.ops [⟨(some 104),none,.move (.tmp 15)⟩,⟨(some 1),none,.move (.tmp 104)⟩])
  (.exit 1)))
 .skip))
 (.seq (.ops [⟨(some 106),none,.move (.tmp 0)⟩,⟨(some 107),none,.move (.tmp 1)⟩,⟨(some 108),none,.move (.tmp 2)⟩,⟨(some 109),none,.move (.tmp 13)⟩,⟨(some 110),none,.move (.tmp 4)⟩,⟨(some 111),none,.call false 180 [(.tmp 106),(.tmp 107),(.tmp 108),(.tmp 109),(.tmp 110)]⟩,⟨(some 105),none,.move (.tmp 111)⟩,⟨(some 112),none,.extract 0 (.tmp 105)⟩,⟨(some 113),none,.extract 1 (.tmp 105)⟩,⟨(some 16),none,.move (.tmp 112)⟩,⟨(some 17),none,.move (.tmp 113)⟩])
 (.seq (.ops [⟨(some 114),none,.move (.tmp 17)⟩,⟨(some 11),none,.move (.tmp 114)⟩])
 (.seq (.ops [⟨(some 115),none,.move (.tmp 16)⟩,⟨(some 116),none,.move (.tmp 1)⟩,⟨(some 117),none,.bin .sub none (.tmp 115) (.tmp 116)⟩,⟨(some 118),none,.move (.tmp 2)⟩,⟨(some 119),none,.move (.tmp 16)⟩,⟨(some 120),none,.bin .sub none (.tmp 118) (.tmp 119)⟩,⟨(some 18),none,.move (.tmp 117)⟩,⟨(some 19),none,.move (.tmp 120)⟩])
 (.seq (.ops [⟨(some 121),none,.move (.tmp 12)⟩,⟨(some 122),none,.bin .quo none (.tmp 121) (.const (.int .i64 8))⟩,⟨(some 20),none,.move (.tmp 122)⟩])
 (.seq (.ops [⟨(some 123),none,.move (.tmp 18)⟩,⟨(some 124),none,.move (.tmp 19)⟩,⟨(some 125),none,.bin .lss none (.tmp 123) (.tmp 124)⟩])
 (.cond (.tmp 125) (.seq (.ops [⟨(some 126),none,.move (.tmp 18)⟩,⟨(some 127),none,.move (.tmp 20)⟩,⟨(some 128),none,.bin .geq none (.tmp 126) (.tmp 127)⟩,⟨(some 10),none,.move (.tmp 128)⟩])
  (.seq (.ops [⟨(some 129),none,.move (.tmp 0)⟩,⟨(some 130),none,.move (.tmp 1)⟩,⟨(some 131),none,.move (.tmp 16)⟩,⟨(some 132),none,.move (.tmp 3)⟩,⟨(some 133),none,.move (.tmp 4)⟩,⟨(some 134),none,.call false 140 [(.tmp 129),(.tmp 130),(.tmp 131),(.tmp 132),(.tmp 133)]⟩])
  (.ops [⟨(some 135),none,.move (.tmp 16)⟩,⟨(some 136),none,.bin .add none (.tmp 135) (.const (.int .i64 1))⟩,⟨(some 1),none,.move (.tmp 136)⟩])))
 (.seq (.ops [⟨(some 137),none,.move (.tmp 19)⟩,⟨(some 138),none,.move (.tmp 20)⟩,⟨(some 139),none,.bin .geq none (.tmp 137) (.tmp 138)⟩,⟨(some 10),none,.move (.tmp 139)⟩])
  (.seq (.ops [⟨(some 140),none,.move (.tmp 0)⟩,⟨(some 141),none,.move (.tmp 16)⟩,⟨(some 142),none,.bin .add none (.tmp 141) (.const (.int .i64 1))⟩,⟨(some 143),none,.move (.tmp 2)⟩,⟨(some 144),none,.move (.tmp 3)⟩,⟨(some 145),none,.move (.tmp 4)⟩,⟨(some 146),none,.call false 140 [(.tmp 140),(.tmp 142),(.tmp 143),(.tmp 144),(.tmp 145)]⟩])
  (.ops [⟨(some 147),none,.move (.tmp 16)⟩,⟨(some 2),none,.move (.tmp 147)⟩]))))))))))
theorem zlz:lp140_0=(.block 1 (.seq (.ops [⟨(some 21),none,.move (.tmp 2)⟩,⟨(some 22),none,.move (.tmp 1)⟩,⟨(some 23),none,.bin .sub none (.tmp 21) (.tmp 22)⟩,⟨(some 12),none,.move (.tmp 23)⟩])
 (.seq (.seq (.ops [⟨(some 24),none,.move (.tmp 12)⟩,⟨(some 25),none,.bin .leq none (.tmp 24) (.const (.int .i64 12))⟩])
 (.cond (.tmp 25) (.seq (.ops [⟨(some 26),none,.move (.tmp 0)⟩,⟨(some 27),none,.move (.tmp 1)⟩,⟨(some 28),none,.move (.tmp 2)⟩,⟨(some 29),none,.move (.tmp 4)⟩,⟨(some 30),none,.call false 173 [(.tmp 26),(.tmp 27),(.tmp 28),(.tmp 29)]⟩])
  .ret)
 .skip))
 (.seq (.seq (.ops [⟨(some 31),none,.move (.tmp 3)⟩,⟨(some 32),none,.bin .eql none (.tmp 31) (.const (.int .i64 0))⟩])
 (.cond (.tmp 32) (.seq (.ops [⟨(some 33),none,.move (.tmp 0)⟩,⟨(some 34),none,.move (.tmp 1)⟩,⟨(some 35),none,.move (.tmp 2)⟩,⟨(some 36),none,.move (.tmp 4)⟩,⟨(some 37),none,.call false 174 [(.tmp 33),(.tmp 34),(.tmp 35),(.tmp 36)]⟩])
  .ret)
 .skip))
 (.seq (.seq (.ops [⟨(some 38),none,.move (.tmp 10)⟩,⟨(some 39),none,.not (.tmp 38)⟩])
 (.cond (.tmp 39) (.seq (.ops [⟨(some 40),none,.move (.tmp 0)⟩,⟨(some 41),none,.move (.tmp 1)⟩,⟨(some 42),none,.move (.tmp 2)⟩,⟨(some 43),none,.move (.tmp 4)⟩,⟨(some 44),none,.call false 175 [(.tmp 40),(.tmp 41),(.tmp 42),(.tmp 43)]⟩])
  (.ops [⟨(some 45),none,.move (.tmp 3)⟩,⟨(some 46),none,.bin .sub none (.tmp 45) (.const (.int .i64 1))⟩,⟨(some 3),none,.move (.tmp 46)⟩]))
 .skip))
 (.seq (.ops [⟨(some 48),none,.move (.tmp 0)⟩,⟨(some 49),none,.move (.tmp 1)⟩,⟨(some 50),none,.move (.tmp 2)⟩,⟨(some 51),none,.move (.tmp 4)⟩,⟨(some 52),none,.call false 176 [(.tmp 48),(.tmp 49),(.tmp 50),(.tmp 51)]⟩,⟨(some 47),none,.move (.tmp 52)⟩,⟨(some 53),none,.extract 0 (.tmp 47)⟩,⟨(some 54),none,.extract 1 (.tmp 47)⟩,⟨(some 13),none,.move (.tmp 53)⟩,⟨(some 14),none,.move (.tmp 54)⟩])
 (.seq (.seq (.ops [⟨(some 55),none,.move (.tmp 14)⟩,⟨(some 56),none,.bin .eql none (.tmp 55) (.const (.int .i64 2))⟩])
 (.cond (.tmp 56) (.seq (.ops [⟨(some 57),none,.move (.tmp 0)⟩,⟨(some 58),none,.move (.tmp 1)⟩,⟨(some 59),none,.move (.tmp 2)⟩,⟨(some 60),none,.move (.tmp 4)⟩,⟨(some 61),none,.call false 177 [(.tmp 57),(.tmp 58),(.tmp 59),(.tmp 60)]⟩])
  (.seq (.ops [⟨(some 62),none,.move (.tmp 2)⟩,⟨(some 63),none,.bin .sub none (.tmp 62) (.const (.int .i64 1))⟩,⟨(some 64),none,.move (.tmp 13)⟩,⟨(some 65),none,.move (.tmp 1)⟩,⟨(some 66),none,.bin .sub none (.tmp 64) (.tmp 65)⟩,⟨(some 67),none,.bin .sub none (.tmp 63) (.tmp 66)⟩,⟨(some 13),none,.move (.tmp 67)⟩])
  (.ops [⟨(some 14),none,.move (.const (.int .i64 1))⟩])))
 .skip))
 (.seq (.seq (.ops [⟨(some 68),none,.move (.tmp 10)⟩,⟨(some 69),none,.move (.tmp 68)⟩,⟨(some 70),(some (69,true)),.move (.tmp 11)⟩,⟨(some 71),none,.pick (.tmp 69) (.tmp 70) (.const (.bool false))⟩,⟨(some 72),none,.move (.tmp 71)⟩,⟨(some 73),(some (72,true)),.move (.tmp 14)⟩,⟨(some 74),(some (72,true)),.bin .eql none (.tmp 73) (.const (.int .i64 1))⟩,⟨(some 75),none,.pick (.tmp 72) (.tmp 74) (.const (.bool false))⟩])
 (.cond (.tmp 75) (.seq (.ops [⟨(some 76),none,.move (.tmp 0)⟩,⟨(some 77),none,.move (.tmp 1)⟩,⟨(some 78),none,.move (.tmp 2)⟩,⟨(some 79),none,.move (.tmp 4)⟩,⟨(some 80),none,.call false 178 [(.tmp 76),(.tmp 77),(.tmp 78),(.tmp 79)]⟩])
  (.cond (.tmp 80) .ret
  .skip))
 .skip))
 tl140)))))))):=rfl
def endsl (k:Nat) (caps:List AV) (l n:Nat) (ag:Bool) (en:Env) (a b li:Nat) (wb wp:Bool):Prop:=
 en.get 0=.rsl l 0 n n 1 ag∧en.get 1=J a∧en.get 2=J b∧en.get 3=J li∧en.get 4=.fn (.func k) [] caps∧en.get 10=B wb∧en.get 11=B wp
section
variable (S0:List (List AV)) (T:List Nat) (l:Nat) (hl:l<S0.length) (n:Nat) (hn:n≤1000) (ag:Bool) (k:Nat) (hk:pure k=false) (caps:List AV) (c:LI→LI→Int) (lt:LI→LI→Bool) (hlt: ∀x y,lt x y=decide (c x y<0)) (hc: ∀x y X E,run L k (fL x::fL y::caps) ⟨put S0 l X E,T⟩=some (I (c x y),⟨put S0 l X E,T⟩))
include S0 T l hl n hn ag k hk caps c lt hlt hc
theorem zdu (N:Nat)(ih:(∀(a b li:Nat) (d:Array (LI)) (X0:List (List AV)),a≤b→b≤n→d.size=n→li<1000→b-a<N→(pdq lt d a b li true true).size=n∧∃X1,(PL X0→PL X1)∧run L 140 [.rsl l 0 n n 1 ag,J a,J b,J li,.fn (.func k) [] caps] ⟨put S0 l (Dm fL d) X0,T⟩=some (.tup [],⟨put S0 l (Dm fL (pdq lt d a b li true true)) X1,T⟩)))
  (X0:List (List AV)) (en:Env) (a b li p:Nat) (wb wp:Bool) (d:Array (LI)) (hsz:d.size=n) (VA:a+13≤b) (hb:b≤n) (hN:b-a≤N) (QR:a≤p) (Q3:p<b) (VN:li<1000)
  (e0:en.get 0=.rsl l 0 n n 1 ag) (e1:en.get 1=J a) (e2:en.get 2=J b) (e3:en.get 3=J li) (e4:en.get 4=.fn (.func k) [] caps) (e10:en.get 10=B wb) (e11:en.get 11=B wp) (e12:en.get 12=J (b-a)) (e13:en.get 13=J p)
  (NN:Env→St→Prop) (QQ:X→Env→St→Prop)
  (Ye: ∀en' a' b' wb' wp' (d':Array (LI)) X1,endsl k caps l n ag en' a' b' li wb' wp'→(PL X0→PL X1)→a'≤b'→b'≤n→b'-a'<b-a→d'.size=n→pdqT lt d a b p li wb wp=pdq lt d' a' b' li wb' wp'→NN en' ⟨put S0 l (Dm fL d') X1,T⟩):
  Then (blockK 1 (codeAV pure (run L) lim tl140 en ⟨put S0 l (Dm fL d) X0,T⟩)) NN QQ:=by
 have V4:=z6v lt d (a:=a) (b:=b) (p:=p) (by omega)
 have VF:=z3m lt d (a:=a) (b:=b) (p:=p) (by omega)
 have VY:=parl S0 T l hl n hn ag k hk caps c lt hlt hc X0 d hsz a b p (by omega) hb (by omega)
 have QS:=peql S0 T l hl n hn ag k hk caps c lt hlt hc X0 d hsz a b p (by omega) hb (by omega)
 have hT:pdqT lt d a b p li wb wp=if (decide (a>0)&& !lt d[a-1]! d[p]!)=true then pdq lt (partitionEqual lt d a b p).2 (partitionEqual lt d a b p).1 b li wb wp
  else if (partition lt d a b p).1-a<b-(partition lt d a b p).1 then
   pdq lt (pdq lt (partition lt d a b p).2.2 a (partition lt d a b p).1 li true true) ((partition lt d a b p).1+1) b li (decide ((b-a) / 8≤(partition lt d a b p).1-a)) (partition lt d a b p).2.1
  else
   pdq lt (pdq lt (partition lt d a b p).2.2 ((partition lt d a b p).1+1) b li true true) a (partition lt d a b p).1 li (decide ((b-a) / 8≤b-(partition lt d a b p).1)) (partition lt d a b p).2.1:=rfl
 rw [hT] at Ye
 generalize partition lt d a b p=q at*
 generalize partitionEqual lt d a b p=qe at*
 obtain ⟨mid,ap,d4⟩:=q
 obtain ⟨mid2,d5⟩:=qe
 dsimp only at*
 have hget:=zg hl
 have Ya:=zf hl
 have Yb:(Dm fL d).length=n:=by rw [zm,hsz]
 have r10:(((p:Nat):Int)<(n:Int))=True:=eT (by omega)
 have r11:((p:Nat)<n)=True:=eT (by omega)
 have r12:((p:Nat)+1≤n)=True:=eT (by omega)
 have r13:(Dm fL d)[p]? =some (fL d[p]!):=zc fL d (by omega)
 have VZ:IntKind.i64.wrap (Int.tdiv ((b-a:Nat):Int) 8)=(((b-a) / 8:Nat):Int):=zga (b-a) 8 (by omega) (by omega)
 have VQ:=z6z mid a (by omega) (by omega)
 have V0:=z6z b mid (by omega) (by omega)
 have hm1:=za mid (by omega)
 have b1:((((b-a) / 8:Nat):Int)≤((mid-a:Nat):Int))=((b-a) / 8≤mid-a):=propext (by omega)
 have b2:((((b-a) / 8:Nat):Int)≤((b-mid:Nat):Int))=((b-a) / 8≤b-mid):=propext (by omega)
 have dd: ∀(P:Prop) [Decidable P] (v:Bool),v=decide P→decide P=v:=fun _ _ _ h=>h.symm
 have i1:=ih a mid li d4 X0 (by omega) (by omega) (by omega) VN (by omega)
 have i2:=ih (mid+1) b li d4 X0 (by omega) (by omega) (by omega) VN (by omega)
 obtain ⟨z1,Y1,y1,i1⟩:=i1
 obtain ⟨z2,Y2,y2,i2⟩:=i2
 generalize pdq lt d4 a mid li true true=d6 at*
 generalize pdq lt d4 (mid+1) b li true true=d7 at*
 generalize (b-a) / 8=bal at*
 by_cases h0:a=0
 ·have q0:((0:Int)<(a:Int))=False:=eF (by omega)
  rw [show decide (a>0)=false from decide_eq_false (by omega),Bool.false_and,if_neg (by simp)] at Ye
  by_cases hc2:mid-a<b-mid
  ·have q1:(((mid-a:Nat):Int)<((b-mid:Nat):Int))=True:=eT (by omega)
   rw [if_pos hc2] at Ye
   simp only [go_sem,tl140,e0,e1,e2,e3,e4,e10,e11,e12,e13,q0,VY,VQ,V0,VZ,q1,b1,i1,hm1]
   exact Ye _ _ _ _ _ _ _ ⟨by simp only [go_sem,e0],by simp only [go_sem],by simp only [go_sem,e2],by simp only [go_sem,e3],by simp only [go_sem,e4],by simp only [go_sem],by simp only [go_sem]⟩ y1 (by omega) hb (by omega) z1 rfl
  ·have q1:(((mid-a:Nat):Int)<((b-mid:Nat):Int))=False:=eF (by omega)
   rw [if_neg hc2] at Ye
   simp only [go_sem,tl140,e0,e1,e2,e3,e4,e10,e11,e12,e13,q0,VY,VQ,V0,VZ,q1,b2,i2,hm1]
   exact Ye _ _ _ _ _ _ _ ⟨by simp only [go_sem,e0],by simp only [go_sem,e1],by simp only [go_sem],by simp only [go_sem,e3],by simp only [go_sem,e4],by simp only [go_sem],by simp only [go_sem]⟩ y2 (by omega) (by omega) (by omega) z2 rfl
 ·have q0:((0:Int)<(a:Int))=True:=eT (by omega)
  have hw:=zu a (by omega) (by omega)
  have r20:(((a-1:Nat):Int)<(n:Int))=True:=eT (by omega)
  have r21:((a-1:Nat)<n)=True:=eT (by omega)
  have r22:((a-1:Nat)+1≤n)=True:=eT (by omega)
  have r23:(Dm fL d)[a-1]? =some (fL d[a-1]!):=zc fL d (by omega)
  rw [show decide (a>0)=true from decide_eq_true (by omega),Bool.true_and] at Ye
  cases Vr:lt d[a-1]! d[p]! with
  |true=>
   have Vs:(c d[a-1]! d[p]! <0)=True:=by rw [hlt] at Vr;simpa using Vr
   rw [Vr,if_neg (by simp)] at Ye
   generalize d[a-1]! =x at*
   generalize d[p]! =y at*
   by_cases hc2:mid-a<b-mid
   ·have q1:(((mid-a:Nat):Int)<((b-mid:Nat):Int))=True:=eT (by omega)
    rw [if_pos hc2] at Ye
    simp only [go_sem,tl140,e0,e1,e2,e3,e4,e10,e11,e12,e13,q0,hw,r10,r11,r12,r13,r20,r21,r22,r23,hc,hk,Vs,VY,VQ,V0,VZ,q1,b1,i1,hm1,hget,Ya,Yb,nn_,lm_,List.length_set]
    exact Ye _ _ _ _ _ _ _ ⟨by simp only [go_sem,e0],by simp only [go_sem],by simp only [go_sem,e2],by simp only [go_sem,e3],by simp only [go_sem,e4],by simp only [go_sem],by simp only [go_sem]⟩ y1 (by omega) hb (by omega) z1 rfl
   ·have q1:(((mid-a:Nat):Int)<((b-mid:Nat):Int))=False:=eF (by omega)
    rw [if_neg hc2] at Ye
    simp only [go_sem,tl140,e0,e1,e2,e3,e4,e10,e11,e12,e13,q0,hw,r10,r11,r12,r13,r20,r21,r22,r23,hc,hk,Vs,VY,VQ,V0,VZ,q1,b2,i2,hm1,hget,Ya,Yb,nn_,lm_,List.length_set]
    exact Ye _ _ _ _ _ _ _ ⟨by simp only [go_sem,e0],by simp only [go_sem,e1],by simp only [go_sem],by simp only [go_sem,e3],by simp only [go_sem,e4],by simp only [go_sem],by simp only [go_sem]⟩ y2 (by omega) (by omega) (by omega) z2 rfl
  |false=>
   have Vs:(c d[a-1]! d[p]! <0)=False:=by rw [hlt] at Vr;simpa using Vr
   rw [Vr,if_pos (show (!false)=true from rfl)] at Ye
   generalize d[a-1]! =x at*
   generalize d[p]! =y at*
   simp only [go_sem,tl140,e0,e1,e2,e3,e4,e10,e11,e12,e13,q0,hw,r10,r11,r12,r13,r20,r21,r22,r23,hc,hk,Vs,QS,hget,Ya,Yb,nn_,lm_,List.length_set]
   exact Ye _ _ _ _ _ _ _ ⟨by simp only [go_sem,e0],by simp only [go_sem],by simp only [go_sem,e2],by simp only [go_sem,e3],by simp only [go_sem,e4],by simp only [go_sem,e10],by simp only [go_sem,e11]⟩ id (by omega) hb (by omega) (by rw [VF.1,hsz]) rfl
theorem pdq0l (hn2:n<256)(N:Nat)(ih:(∀(a b li:Nat) (d:Array (LI)) (X0:List (List AV)),a≤b→b≤n→d.size=n→li<1000→b-a<N→(pdq lt d a b li true true).size=n∧∃X1,(PL X0→PL X1)∧run L 140 [.rsl l 0 n n 1 ag,J a,J b,J li,.fn (.func k) [] caps] ⟨put S0 l (Dm fL d) X0,T⟩=some (.tup [],⟨put S0 l (Dm fL (pdq lt d a b li true true)) X1,T⟩)))(lo hi2:Nat)(a:Nat)(b:Nat)(li:Nat)(wb:Bool)(wp:Bool)(d:Array (LI))(X0:List (List AV))(hok:a≤b∧b≤n∧d.size=n∧li<1000∧b-a≤N)(env:Env)(st:St)
  (hg:gcAV false lo hi2 (canon env [0,1,2,3,4,10,11]) st=([(0,.rsl l 0 n n 1 ag),(1,J a),(2,J b),(3,J li),(4,.fn (.func k) [] caps),(10,B wb),(11,B wp)],⟨put S0 l (Dm fL d) X0,T⟩)):
  ∃x_1 en s,lim (headed pure (run L) false [0,1,2,3,4,10,11] lp140_0 lo hi2) env st=some (x_1,en,s)∧(x_1=.ret∧(pdq lt d a b li wb wp).size=n∧∃X1,(PL X0→PL X1)∧s=⟨put S0 l (Dm fL (pdq lt d a b li wb wp)) X1,T⟩):=by
 refine z8 (α:=Nat×Nat×Nat×Bool×Bool×Array (LI)×List (List AV)) (fun ⟨a,b,li,wb,wp,d,X0⟩=>b-a) (fun ⟨a,b,li,wb,wp,d,X0⟩=>a≤b∧b≤n∧d.size=n∧li<1000∧b-a≤N) (fun ⟨a,b,li,wb,wp,d,X0⟩=>([(0,.rsl l 0 n n 1 ag),(1,J a),(2,J b),(3,J li),(4,.fn (.func k) [] caps),(10,B wb),(11,B wp)],⟨put S0 l (Dm fL d) X0,T⟩)) (fun ⟨a,b,li,wb,wp,d,X0⟩ x_1 en s=>x_1=.ret∧(pdq lt d a b li wb wp).size=n∧∃X1,(PL X0→PL X1)∧s=⟨put S0 l (Dm fL (pdq lt d a b li wb wp)) X1,T⟩) (fun ⟨a,b,li,wb,wp,d,X0⟩ hok=> ?_) ⟨a,b,li,wb,wp,d,X0⟩ hok env st hg
 simp only at hok
 obtain ⟨h1,h2,hsz,VN,hN⟩:=hok
 dsimp only at h1 h2 hsz VN hN⊢
 have hw:=z6z b a h1 (by omega)
 rw [zlz]
 by_cases VD:b-a≤12
 ·have q12:(((b-a:Nat):Int)≤12)=True:=eT (by omega)
  have e:pdq lt d a b li wb wp=insertionSort lt d a b:=by rw [pdq,if_pos VD]
  rw [e]
  have hi:=insl S0 T l hl n hn ag k hk caps c lt hlt hc X0 a b (by omega) h2 d hsz
  simp only [go_sem,lp140_0,hw,q12,hi]
  exact ⟨by rw [z50,hsz],_,id,rfl⟩
 ·have q12:(((b-a:Nat):Int)≤12)=False:=eF (by omega)
  by_cases hl0:li=0
  ·have ql:((li:Int)=0)=True:=eT (by omega)
   have e:pdq lt d a b li wb wp=Go.Sort.heapSort lt d a b:=by rw [pdq,if_neg VD,if_pos hl0]
   rw [e]
   have hh:=heapl S0 T l hl n hn ag k hk caps c lt hlt hc X0 d hsz a b (by omega) h2
   simp only [go_sem,lp140_0,hw,q12,ql,hh]
   exact ⟨by rw [z7f,hsz],_,id,rfl⟩
  ·have ql:((li:Int)=0)=False:=eF (by omega)
   have hb1:=zu b (by omega) (by omega)
   cases wb with
   |false=>
    obtain ⟨BB,hbr⟩:=brkl S0 T l hl n hn ag k caps X0 d hsz a b (by omega) h2 (by omega)
    have hz1:(breakPatterns d a b).size=n:=by rw [z5c,hsz]
    have hpl:=zu li (by omega) (by omega)
    generalize hd1:breakPatterns d a b=d1 at*
    obtain ⟨B2,hpv⟩:=pivl S0 T l hl n hn ag k hk caps c lt hlt hc (X0++ [[U BB]]) d1 hz1 a b (by omega) h2
    have hpr:=Go.Sort.choosePivot_holds lt d1 a b (by omega)
    generalize Vr:choosePivot lt d1 a b=cc at*
    obtain ⟨pv,Ym⟩:=cc
    dsimp only at hpr hpv
    cases Ym with
    |unknown=>
     have hpv:run L 176 [.rsl l 0 n n 1 ag,J a,J b,.fn (.func k) [] caps] ⟨put S0 l (Dm fL d1) (X0++ [[U BB]]),T⟩=some (.tup [J pv,I 0],⟨put S0 l (Dm fL d1) ((X0++ [[U BB]])++ [[J B2]]),T⟩):=hpv
     have e:pdq lt d a b li false wp=pdqT lt d1 a b pv (li-1) false wp:=by rw [zr lt d false wp (by omega) hl0];simp [hd1,Vr]
     rw [e]
     simp only [go_sem,lp140_0,hw,q12,ql,hbr,hpl,hpv]
     refine zdu S0 T l hl n hn ag k hk caps c lt hlt hc N ih _ _ a b (li-1) pv false wp d1 hz1 (by omega) h2 hN (by omega) (by omega) (by omega) rfl rfl rfl rfl rfl rfl rfl rfl rfl _ _ (fun E a2 b2 w2 v2 d9 X9 he gx g1 g2 g3 g4 g5=> ?_)
     obtain ⟨f0,f1,f2,f3,f4,f5,f6⟩:=he
     exact ⟨(a2,b2,(li-1),w2,v2,d9,X9),by simp only [go_sem,f0,f1,f2,f3,f4,f5,f6],by dsimp only;exact ⟨g1,g2,g4,by omega,by omega⟩,g3,fun x en s ⟨q1,q2,X8,q4,q5⟩=>by rw [g5];exact ⟨q1,q2,X8,fun h0=>q4 (gx ((h0.snoc _ _).snoc _ _)),q5⟩⟩
    |increasing=>
     have hpv:run L 176 [.rsl l 0 n n 1 ag,J a,J b,.fn (.func k) [] caps] ⟨put S0 l (Dm fL d1) (X0++ [[U BB]]),T⟩=some (.tup [J pv,I 1],⟨put S0 l (Dm fL d1) ((X0++ [[U BB]])++ [[J B2]]),T⟩):=hpv
     have e:pdq lt d a b li false wp=pdqT lt d1 a b pv (li-1) false wp:=by rw [zr lt d false wp (by omega) hl0];simp [hd1,Vr]
     rw [e]
     simp only [go_sem,lp140_0,hw,q12,ql,hbr,hpl,hpv]
     refine zdu S0 T l hl n hn ag k hk caps c lt hlt hc N ih _ _ a b (li-1) pv false wp d1 hz1 (by omega) h2 hN (by omega) (by omega) (by omega) rfl rfl rfl rfl rfl rfl rfl rfl rfl _ _ (fun E a2 b2 w2 v2 d9 X9 he gx g1 g2 g3 g4 g5=> ?_)
     obtain ⟨f0,f1,f2,f3,f4,f5,f6⟩:=he
     exact ⟨(a2,b2,(li-1),w2,v2,d9,X9),by simp only [go_sem,f0,f1,f2,f3,f4,f5,f6],by dsimp only;exact ⟨g1,g2,g4,by omega,by omega⟩,g3,fun x en s ⟨q1,q2,X8,q4,q5⟩=>by rw [g5];exact ⟨q1,q2,X8,fun h0=>q4 (gx ((h0.snoc _ _).snoc _ _)),q5⟩⟩
    |decreasing=>
     have hpv:run L 176 [.rsl l 0 n n 1 ag,J a,J b,.fn (.func k) [] caps] ⟨put S0 l (Dm fL d1) (X0++ [[U BB]]),T⟩=some (.tup [J pv,I 2],⟨put S0 l (Dm fL d1) ((X0++ [[U BB]])++ [[J B2]]),T⟩):=hpv
     have VT:=revl S0 T l hl n hn ag k caps ((X0++ [[U BB]])++ [[J B2]]) d1 hz1 a b (by omega) h2
     have hz2:(reverseRange d1 a b).size=n:=by rw [z0l,hz1]
     have VO:=z6z pv a (by omega) (by omega)
     have VU:=z6z (b-1) (pv-a) (by omega) (by omega)
     generalize hd2:reverseRange d1 a b=d2 at*
     have e:pdq lt d a b li false wp=pdqT lt d2 a b (b-1-(pv-a)) (li-1) false wp:=by rw [zr lt d false wp (by omega) hl0];simp [hd1,Vr,hd2]
     rw [e]
     simp only [go_sem,lp140_0,hw,q12,ql,hbr,hpl,hpv,VT,hb1,VO,VU]
     refine zdu S0 T l hl n hn ag k hk caps c lt hlt hc N ih _ _ a b (li-1) (b-1-(pv-a)) false wp d2 hz2 (by omega) h2 hN (by omega) (by omega) (by omega) rfl rfl rfl rfl rfl rfl rfl rfl rfl _ _ (fun E a2 b2 w2 v2 d9 X9 he gx g1 g2 g3 g4 g5=> ?_)
     obtain ⟨f0,f1,f2,f3,f4,f5,f6⟩:=he
     exact ⟨(a2,b2,(li-1),w2,v2,d9,X9),by simp only [go_sem,f0,f1,f2,f3,f4,f5,f6],by dsimp only;exact ⟨g1,g2,g4,by omega,by omega⟩,g3,fun x en s ⟨q1,q2,X8,q4,q5⟩=>by rw [g5];exact ⟨q1,q2,X8,fun h0=>q4 (gx ((h0.snoc _ _).snoc _ _)),q5⟩⟩
   |true=>
    obtain ⟨B2,hpv⟩:=pivl S0 T l hl n hn ag k hk caps c lt hlt hc X0 d hsz a b (by omega) h2
    have hpr:=Go.Sort.choosePivot_holds lt d a b (by omega)
    generalize Vr:choosePivot lt d a b=cc at*
    obtain ⟨pv,Ym⟩:=cc
    dsimp only at hpr hpv
    cases Ym with
    |unknown=>
     have hpv:run L 176 [.rsl l 0 n n 1 ag,J a,J b,.fn (.func k) [] caps] ⟨put S0 l (Dm fL d) X0,T⟩=some (.tup [J pv,I 0],⟨put S0 l (Dm fL d) (X0++ [[J B2]]),T⟩):=hpv
     have e:pdq lt d a b li true wp=pdqT lt d a b pv li true wp:=by rw [zr lt d true wp (by omega) hl0];simp [Vr]
     rw [e]
     cases wp with
     |false=>
      simp only [go_sem,lp140_0,hw,q12,ql,hpv]
      refine zdu S0 T l hl n hn ag k hk caps c lt hlt hc N ih _ _ a b li pv true false d hsz (by omega) h2 hN (by omega) (by omega) (by omega) rfl rfl rfl rfl rfl rfl rfl rfl rfl _ _ (fun E a2 b2 w2 v2 d9 X9 he gx g1 g2 g3 g4 g5=> ?_)
      obtain ⟨f0,f1,f2,f3,f4,f5,f6⟩:=he
      exact ⟨(a2,b2,li,w2,v2,d9,X9),by simp only [go_sem,f0,f1,f2,f3,f4,f5,f6],by dsimp only;exact ⟨g1,g2,g4,by omega,by omega⟩,g3,fun x en s ⟨q1,q2,X8,q4,q5⟩=>by rw [g5];exact ⟨q1,q2,X8,fun h0=>q4 (gx (h0.snoc _ _)),q5⟩⟩
     |true=>
      simp only [go_sem,lp140_0,hw,q12,ql,hpv]
      refine zdu S0 T l hl n hn ag k hk caps c lt hlt hc N ih _ _ a b li pv true true d hsz (by omega) h2 hN (by omega) (by omega) (by omega) rfl rfl rfl rfl rfl rfl rfl rfl rfl _ _ (fun E a2 b2 w2 v2 d9 X9 he gx g1 g2 g3 g4 g5=> ?_)
      obtain ⟨f0,f1,f2,f3,f4,f5,f6⟩:=he
      exact ⟨(a2,b2,li,w2,v2,d9,X9),by simp only [go_sem,f0,f1,f2,f3,f4,f5,f6],by dsimp only;exact ⟨g1,g2,g4,by omega,by omega⟩,g3,fun x en s ⟨q1,q2,X8,q4,q5⟩=>by rw [g5];exact ⟨q1,q2,X8,fun h0=>q4 (gx (h0.snoc _ _)),q5⟩⟩
    |increasing=>
     have hpv:run L 176 [.rsl l 0 n n 1 ag,J a,J b,.fn (.func k) [] caps] ⟨put S0 l (Dm fL d) X0,T⟩=some (.tup [J pv,I 1],⟨put S0 l (Dm fL d) (X0++ [[J B2]]),T⟩):=hpv
     cases wp with
     |false=>
      have e:pdq lt d a b li true false=pdqT lt d a b pv li true false:=by rw [zr lt d true false (by omega) hl0];simp [Vr]
      rw [e]
      simp only [go_sem,lp140_0,hw,q12,ql,hpv]
      refine zdu S0 T l hl n hn ag k hk caps c lt hlt hc N ih _ _ a b li pv true false d hsz (by omega) h2 hN (by omega) (by omega) (by omega) rfl rfl rfl rfl rfl rfl rfl rfl rfl _ _ (fun E a2 b2 w2 v2 d9 X9 he gx g1 g2 g3 g4 g5=> ?_)
      obtain ⟨f0,f1,f2,f3,f4,f5,f6⟩:=he
      exact ⟨(a2,b2,li,w2,v2,d9,X9),by simp only [go_sem,f0,f1,f2,f3,f4,f5,f6],by dsimp only;exact ⟨g1,g2,g4,by omega,by omega⟩,g3,fun x en s ⟨q1,q2,X8,q4,q5⟩=>by rw [g5];exact ⟨q1,q2,X8,fun h0=>q4 (gx (h0.snoc _ _)),q5⟩⟩
     |true=>
      have VG:=pisl S0 T l hl n hn ag k hk caps c lt hlt hc (X0++ [[J B2]]) d hsz a b (by omega) h2
      have VH:(partialInsertionSort lt d a b).1.size=n:=by unfold partialInsertionSort;rw [z0t,hsz]
      generalize VF:partialInsertionSort lt d a b=pi at*
      obtain ⟨d3,ok⟩:=pi
      dsimp only at VG VH
      cases ok with
      |true=>
       have e:pdq lt d a b li true true=d3:=by rw [zr lt d true true (by omega) hl0];simp [Vr,VF]
       rw [e]
       simp only [go_sem,lp140_0,hw,q12,ql,hpv,VG]
       exact ⟨VH,_,fun h0=>(h0.snoc _ _),rfl⟩
      |false=>
       have e:pdq lt d a b li true true=pdqT lt d3 a b pv li true true:=by rw [zr lt d true true (by omega) hl0];simp [Vr,VF]
       rw [e]
       simp only [go_sem,lp140_0,hw,q12,ql,hpv,VG]
       refine zdu S0 T l hl n hn ag k hk caps c lt hlt hc N ih _ _ a b li pv true true d3 VH (by omega) h2 hN (by omega) (by omega) (by omega) rfl rfl rfl rfl rfl rfl rfl rfl rfl _ _ (fun E a2 b2 w2 v2 d9 X9 he gx g1 g2 g3 g4 g5=> ?_)
       obtain ⟨f0,f1,f2,f3,f4,f5,f6⟩:=he
       exact ⟨(a2,b2,li,w2,v2,d9,X9),by simp only [go_sem,f0,f1,f2,f3,f4,f5,f6],by dsimp only;exact ⟨g1,g2,g4,by omega,by omega⟩,g3,fun x en s ⟨q1,q2,X8,q4,q5⟩=>by rw [g5];exact ⟨q1,q2,X8,fun h0=>q4 (gx (h0.snoc _ _)),q5⟩⟩
    |decreasing=>
     have hpv:run L 176 [.rsl l 0 n n 1 ag,J a,J b,.fn (.func k) [] caps] ⟨put S0 l (Dm fL d) X0,T⟩=some (.tup [J pv,I 2],⟨put S0 l (Dm fL d) (X0++ [[J B2]]),T⟩):=hpv
     have VT:=revl S0 T l hl n hn ag k caps (X0++ [[J B2]]) d hsz a b (by omega) h2
     have hz2:(reverseRange d a b).size=n:=by rw [z0l,hsz]
     have VO:=z6z pv a (by omega) (by omega)
     have VU:=z6z (b-1) (pv-a) (by omega) (by omega)
     generalize hd2:reverseRange d a b=d2 at*
     cases wp with
     |false=>
      have e:pdq lt d a b li true false=pdqT lt d2 a b (b-1-(pv-a)) li true false:=by rw [zr lt d true false (by omega) hl0];simp [Vr,hd2]
      rw [e]
      simp only [go_sem,lp140_0,hw,q12,ql,hpv,VT,hb1,VO,VU]
      refine zdu S0 T l hl n hn ag k hk caps c lt hlt hc N ih _ _ a b li (b-1-(pv-a)) true false d2 hz2 (by omega) h2 hN (by omega) (by omega) (by omega) rfl rfl rfl rfl rfl rfl rfl rfl rfl _ _ (fun E a2 b2 w2 v2 d9 X9 he gx g1 g2 g3 g4 g5=> ?_)
      obtain ⟨f0,f1,f2,f3,f4,f5,f6⟩:=he
      exact ⟨(a2,b2,li,w2,v2,d9,X9),by simp only [go_sem,f0,f1,f2,f3,f4,f5,f6],by dsimp only;exact ⟨g1,g2,g4,by omega,by omega⟩,g3,fun x en s ⟨q1,q2,X8,q4,q5⟩=>by rw [g5];exact ⟨q1,q2,X8,fun h0=>q4 (gx (h0.snoc _ _)),q5⟩⟩
     |true=>
      have VG:=pisl S0 T l hl n hn ag k hk caps c lt hlt hc (X0++ [[J B2]]) d2 hz2 a b (by omega) h2
      have VH:(partialInsertionSort lt d2 a b).1.size=n:=by unfold partialInsertionSort;rw [z0t,hz2]
      generalize VF:partialInsertionSort lt d2 a b=pi at*
      obtain ⟨d3,ok⟩:=pi
      dsimp only at VG VH
      cases ok with
      |true=>
       have e:pdq lt d a b li true true=d3:=by rw [zr lt d true true (by omega) hl0];simp [Vr,hd2,VF]
       rw [e]
       simp only [go_sem,lp140_0,hw,q12,ql,hpv,VT,hb1,VO,VU,VG]
       exact ⟨VH,_,fun h0=>(h0.snoc _ _),rfl⟩
      |false=>
       have e:pdq lt d a b li true true=pdqT lt d3 a b (b-1-(pv-a)) li true true:=by rw [zr lt d true true (by omega) hl0];simp [Vr,hd2,VF]
       rw [e]
       simp only [go_sem,lp140_0,hw,q12,ql,hpv,VT,hb1,VO,VU,VG]
       refine zdu S0 T l hl n hn ag k hk caps c lt hlt hc N ih _ _ a b li (b-1-(pv-a)) true true d3 VH (by omega) h2 hN (by omega) (by omega) (by omega) rfl rfl rfl rfl rfl rfl rfl rfl rfl _ _ (fun E a2 b2 w2 v2 d9 X9 he gx g1 g2 g3 g4 g5=> ?_)
       obtain ⟨f0,f1,f2,f3,f4,f5,f6⟩:=he
       exact ⟨(a2,b2,li,w2,v2,d9,X9),by simp only [go_sem,f0,f1,f2,f3,f4,f5,f6],by dsimp only;exact ⟨g1,g2,g4,by omega,by omega⟩,g3,fun x en s ⟨q1,q2,X8,q4,q5⟩=>by rw [g5];exact ⟨q1,q2,X8,fun h0=>q4 (gx (h0.snoc _ _)),q5⟩⟩
end
theorem pdql (S0:List (List AV))(T:List Nat)(l:Nat)(hl:l<S0.length)(n:Nat)(hn:n≤1000)(ag:Bool)(k:Nat)(hk:pure k=false)(caps:List AV)(c:LI→LI→Int)(lt:LI→LI→Bool)(hlt: ∀x y,lt x y=decide (c x y<0))(hc: ∀x y X E,run L k (fL x::fL y::caps) ⟨put S0 l X E,T⟩=some (I (c x y),⟨put S0 l X E,T⟩))(hn2:n<256): ∀(N a b li:Nat) (d:Array (LI)) (X0:List (List AV)),a≤b→b≤n→d.size=n→li<1000→b-a<N→(pdq lt d a b li true true).size=n∧∃X1,(PL X0→PL X1)∧run L 140 [.rsl l 0 n n 1 ag,J a,J b,J li,.fn (.func k) [] caps] ⟨put S0 l (Dm fL d) X0,T⟩=some (.tup [],⟨put S0 l (Dm fL (pdq lt d a b li true true)) X1,T⟩)
 |0,_,_,_,_,_,_,_,_,_,h=>by omega
 |N+1,a,b,li,d,X0,h1,h2,hsz,VN,hN=>by
  have ih:=pdql S0 T l hl n hn ag k hk caps c lt hlt hc hn2 N
  rw [z6 (fn:=ir140) rfl rfl]
  simp only [ir140,go_sem]
  generalize hg:lim (headed pure (run L) false _ lp140_0 _ _) _ _=o
  obtain ⟨x,en,s,rfl,h2⟩: ∃x en s,o=some (x,en,s)∧_:=by rw [←hg];exact pdq0l S0 T l hl n hn ag k hk caps c lt hlt hc hn2 N ih _ _ a b li true true d X0 ⟨h1,h2,hsz,VN,by omega⟩ _ _ (by simp only [go_sem]<;>rfl)
  clear hg
  obtain ⟨rfl,hz,X1,hX1,rfl⟩:=h2
  refine ⟨hz,X1,hX1,?_⟩
  simp only [go_sem]
section
variable (S0:List (List AV)) (T:List Nat) (l:Nat) (hl:l<S0.length) (n:Nat) (hn:n≤1000) (ag:Bool) (k:Nat) (hk:pure k=false) (caps:List AV) (c:LI→LI→Int) (lt:LI→LI→Bool) (hlt: ∀x y,lt x y=decide (c x y<0)) (hc: ∀x y X E,run L k (fL x::fL y::caps) ⟨put S0 l X E,T⟩=some (I (c x y),⟨put S0 l X E,T⟩))
include S0 T l hl n hn ag k hk caps c lt hlt hc
theorem sortl (hn2:n<256)(d:Array (LI))(hsz:d.size=n)(X0:List (List AV)):
  ∃X1,(PL X0→PL X1)∧run L 113 [.rsl l 0 n n 1 ag,.fn (.func k) [] caps] ⟨put S0 l (Dm fL d) X0,T⟩=some (.tup [],⟨put S0 l (Dm fL (Go.Sort.sort lt d)) X1,T⟩):=by
 rw [z6 (fn:=ir113) rfl rfl]
 have VE:=z8s n (by omega)
 have VI:=fun st=>c115 n hn2 st
 have hbl:bitsLen n<1000:=by
  have:=(Go.Sort.bitsLen_le_iff n 8).2 (by omega)
  omega
 obtain ⟨hz,X1,hX1,h⟩:=pdql S0 T l hl n hn ag k hk caps c lt hlt hc hn2 (n+1) 0 n (bitsLen n) d X0 (by omega) (by omega) hsz hbl (by omega)
 refine ⟨X1,hX1,?_⟩
 have e:Go.Sort.sort lt d=pdq lt d 0 n (bitsLen n) true true:=by unfold Go.Sort.sort;rw [hsz]
 rw [e]
 have h:run L 140 [.rsl l 0 n n 1 ag,I 0,J n,J (bitsLen n),.fn (.func k) [] caps] ⟨put S0 l (Dm fL d) X0,T⟩=_:=h
 simp only [ir113,go_sem,VE,VI,h]
end
theorem zh2 {a b:Nat} (ha:a<512)(hb:b<512)(h:memb a=memb b):a=b:=by
 apply Nat.eq_of_testBit_eq;intro i
 have h1:=zb0 ha (i:Int)
 have h2:=zb0 hb (i:Int)
 rw [h] at h1
 have h3:(∃j:Nat,(i:Int)=j∧a.testBit j=true)↔(∃j:Nat,(i:Int)=j∧b.testBit j=true):=h1.symm.trans h2
 cases ha':a.testBit i
 ·cases hb':b.testBit i
  ·rfl
  ·obtain ⟨j,hj,hj2⟩:=h3.2 ⟨i,rfl,hb'⟩
   have:i=j:=by omega
   subst this
   rw [ha'] at hj2;cases hj2
 ·obtain ⟨j,hj,hj2⟩:=h3.1 ⟨i,rfl,ha'⟩
  have:i=j:=by omega
  subst this
  exact hj2.symm
theorem zdv {α:Type} (f:α→List Int):Go.Sort.SWO (fun x y=>lexLt (f x) (f y)) where
 irrefl x:=zd7 _
 trans x y z:=zbv _ _ _
 ntrans x y z h1 h2:=zne h2 h1
def sortA {α:Type} [Inhabited α] (lt:α→α→Bool) (l:List α):List α:=(Go.Sort.sort lt l.toArray).toList
theorem zcu {α:Type} [Inhabited α] {lt:α→α→Bool} (h:Go.Sort.SWO lt)(l:List α):(sortA lt l).Perm l:=by
 have h1:=(Go.Sort.sort_sorts lt h l.toArray).1
 have h2:=h1.2.2
 have hs:(Go.Sort.sort lt l.toArray).size=l.toArray.size:=h1.1
 rw [Go.Sort.extract_toList _ _ _ (by rw [hs];exact Nat.le_refl _),Go.Sort.extract_toList _ _ _ (Nat.le_refl _)] at h2
 have key: ∀(d:Array α),(List.range' 0 (d.size-0)).map (fun i=>d[i]!)=d.toList:=by
  intro d
  apply List.ext_getElem
  ·simp
  ·intro i h1 h2
   simp at h1 h2⊢
   exact getElem!_pos d i h2
 have e1:=key (Go.Sort.sort lt l.toArray)
 rw [hs] at e1
 rw [e1,key] at h2
 exact h2
theorem zaj {α:Type} [Inhabited α] {lt:α→α→Bool} (h:Go.Sort.SWO lt)(l:List α):(sortA lt l).Pairwise (fun x y=>lt y x=false):=by
 have h1:=Go.Sort.sort_sorts lt h l.toArray
 have hs:(Go.Sort.sort lt l.toArray).size=l.toArray.size:=h1.1.1
 rw [List.pairwise_iff_getElem]
 intro i j hi hj hij
 unfold sortA at hi hj⊢
 simp only [Array.length_toList] at hi hj
 have:=h1.2 i j (Nat.zero_le _) hij (by rw [←hs];exact hj)
 rw [getElem!_pos _ i hi,getElem!_pos _ j hj] at this
 simpa using this
theorem z93 {α:Type} {R:α→α→Prop} (hR: ∀x y,R x y→R y x→x=y): ∀(l m:List α),l.Perm m→l.Pairwise R→m.Pairwise R→l=m
 | [],m,h,_,_=>(List.Perm.nil_eq h)
 |x::l,m,h,h1,h2=>by
  cases m with
  |nil=>exact absurd h.length_eq (by simp)
  |cons y m=>
   have hx:x∈y::m:=h.mem_iff.1 (by simp)
   have hy:y∈x::l:=h.mem_iff.2 (by simp)
   rw [List.pairwise_cons] at h1 h2
   have e:x=y:=by
    rw [List.mem_cons] at hx hy
    rcases hx with e|hx
    ·exact e
    ·rcases hy with e|hy
     ·exact e.symm
     ·exact hR _ _ (h1.1 y hy) (h2.1 x hx)
   subst e
   rw [z93 hR l m (List.Perm.cons_inv h) h1.2 h2.2]
def lt8 (x y:Fin 256):Bool:=lexLt (memb x.val) (memb y.val)
def fin8 (ss:List Nat):List (Fin 256):=ss.map fun x=>⟨x % 256,Nat.mod_lt _ (by decide)⟩
theorem zed {ss:List Nat} (h: ∀s∈ss,s<256):(fin8 ss).map (fun x=>x.val)=ss:=by
 unfold fin8
 rw [List.map_map]
 conv=>rhs;rw [←List.map_id ss]
 apply List.map_congr_left
 intro x hx
 exact Nat.mod_eq_of_lt (h x hx)
def srt (ss:List Nat):List Nat:=(sortA lt8 (fin8 ss)).map (fun x=>x.val)
theorem ziy (ss:List Nat): ∀s∈srt ss,s<256:=by
 intro s hs
 unfold srt at hs
 rw [List.mem_map] at hs
 obtain ⟨x,_,rfl⟩:=hs
 exact x.isLt
theorem z47 {ss:List Nat} (h: ∀s∈ss,s<256):(srt ss).Perm ss:=by
 have:=(zcu (zdv (fun x:Fin 256=>memb x.val)) (fin8 ss)).map (fun x=>x.val)
 rw [zed h] at this
 exact this
def LexLe (a b:Nat):Prop:=lexLt (memb b) (memb a)=false
theorem LexLe.anti {a b:Nat} (ha:a<512)(hb:b<512)(h1:LexLe a b)(h2:LexLe b a):a=b:=zh2 ha hb (z82 _ _ h2 h1)
theorem z8c (ss:List Nat):(srt ss).Pairwise LexLe:=by
 unfold srt
 rw [List.pairwise_map]
 exact zaj (zdv (fun x:Fin 256=>memb x.val)) (fin8 ss)
theorem z91 {ss:List Nat} (h: ∀s∈ss,s<256):(srt ss).length=ss.length:=(z47 h).length_eq
theorem zdw {ss ts:List Nat} (h: ∀s∈ss,s<256)(hp:ts.Perm ss)(hs:ts.Pairwise LexLe):ts=srt ss:=by
 have h2: ∀s∈ts,s<256:=fun s hs=>h s (hp.mem_iff.1 hs)
 have key: ∀(l m:List Nat),(∀s∈l,s<256)→(∀s∈m,s<256)→l.Perm m→l.Pairwise LexLe→m.Pairwise LexLe→l=m:=by
  intro l m hl hm O6 h1 h2
  refine z93 (R:=fun a b=>a<256∧b<256∧LexLe a b) (fun x y hx hy=>hx.2.2.anti (by omega) (by omega) hy.2.2) l m O6 ?_ ?_
  ·exact h1.imp_of_mem (fun ha hb VA=>⟨hl _ ha,hl _ hb,VA⟩)
  ·exact h2.imp_of_mem (fun ha hb VA=>⟨hm _ ha,hm _ hb,VA⟩)
 exact key _ _ h2 (ziy ss) (hp.trans (z47 h).symm) hs (z8c ss)
theorem ziz {ss ts:List Nat} (h: ∀s∈ss,s<256)(hp:ts.Perm ss):srt ts=srt ss:=
 zdw h ((z47 (fun s hs=>h s (hp.mem_iff.1 hs))).trans hp) (z8c ts)
theorem znr {ss:List Nat} (h: ∀s∈ss,s<256):srt (srt ss)=srt ss:=ziz h (z47 h)
theorem c81 (a b:Nat)(ha:a<256)(hb:b<256)(st:St):run L 81 [E8 a,E8 b] st=some (I (cmpN (memb a) (memb b)),st):=by
 rw [run_pure (fn:=ir81) rfl rfl]
 have h1:=fun st=>c94 a ha st
 have h2:=fun st=>c94 b hb st
 have hm:=z4t a
 have h3: ∀st,run L 42 [tAV (memb a),tAV (memb b)] st=some (I (cmpN (memb a) (memb b)),st):=fun st=>c42 true true (memb a) (memb b) (by omega) st
 simp only [ir81,go_sem,h1,h2,h3]
theorem zpm {X:List (List AV)} (h:PL X)(n:Nat):okStore n X=true:=by
 induction X with
 |nil=>rfl
 |cons B r ih=>
  obtain ⟨k,i,rfl⟩:=h B (by simp)
  simp only [okStore,ih (fun C hC=>h C (by simp [hC])),okRefs,okRef,Bool.and_self]
theorem zl7 {X:List (List AV)} (h:PL X)(n:Nat)(T:List Nat)(acc:List (Nat×Nat)):renStore n T acc X=(X,acc):=by
 induction X generalizing acc with
 |nil=>rfl
 |cons B r ih=>
  obtain ⟨k,i,rfl⟩:=h B (by simp)
  simp only [renStore,renCells,ren1,ih (fun C hC=>h C (by simp [hC]))]
theorem zl4 {α:Type} (X:List α)(c:α):(X++ [c])[X.length]? =some c:=by simp
theorem zgr {α:Type} (X:List α)(c d:α):(X++ [c]).set X.length d=X++ [d]:=by simp
theorem ziv {α:Type} (X:List α)(c:α):(X++ [c]).take X.length=X:=by simp
abbrev cmpS:AV:=.fn (.func 81) [] []
theorem zpq {ss:List Nat} (h: ∀s∈ss,s<256):Dm gS (fin8 ss).toArray=ss.map u8:=by
 unfold Dm
 show (fin8 ss).map (fun x=>u8 x.val)=ss.map u8
 rw [show (fun x:Fin 256=>u8 x.val)=u8∘(fun x:Fin 256=>x.val) from rfl,←List.map_map,zed h]
theorem Dm_srt (ss:List Nat):Dm gS (Go.Sort.sort lt8 (fin8 ss).toArray)=(srt ss).map u8:=by
 unfold Dm srt sortA
 rw [List.map_map];rfl
theorem c80 (S0:List (List AV))(T:List Nat)(l:Nat)(hl:l<S0.length)(ag:Bool)(ss:List Nat)(h: ∀s∈ss,s<256)(hn:ss.length<256):
  ∃X1,PL X1∧run L 80 [.rsl l 0 ss.length ss.length 1 ag,cmpS] ⟨S0.set l (ss.map u8),T⟩=some (.tup [],⟨S0.set l ((srt ss).map u8)++X1,T⟩):=by
 obtain ⟨X1,h1,h2⟩:=sorts S0 T l hl ss.length (by omega) ag 81 rfl [] (fun x y=>cmpN (memb x.val) (memb y.val)) lt8 (fun x y=>(zcc _ _).symm)
  (fun x y X E=>c81 x.val y.val x.isLt y.isLt _) hn (fin8 ss).toArray (by simp [fin8]) []
 rw [zpq h,Dm_srt] at h2
 unfold put at h2
 rw [List.append_nil] at h2
 exact ⟨X1,h1 PL.nil,h2⟩
theorem ins1n (st0:St)(lo hi:Nat)(i:Nat)(hok:True)(env:Env)(st:St)
  (hg:gcAV false lo hi (canon env [0,1,2,3,8]) st=([(0,.v (.slice none 0 0)),(1,I 0),(2,I 0),(3,cmpS),(8,J i)],st0)):
  ∃x_1 en s,lim (headed pure (run L) false [0,1,2,3,8] lp161_1 lo hi) env st=some (x_1,en,s)∧(x_1=.exit 0∧s=st0):=by
 refine z8 (α:=Nat) (fun i=>0) (fun i=>True) (fun i=>([(0,.v (.slice none 0 0)),(1,I 0),(2,I 0),(3,cmpS),(8,J i)],st0)) (fun i x_1 en s=>x_1=.exit 0∧s=st0) (fun i hok=> ?_) i hok env st hg
 have hlt:((i:Int)<0)=False:=eF (by omega)
 simp only [go_sem,lp161_1,hlt]
theorem c161n (st:St):run L 161 [.v (.slice none 0 0),I 0,I 0,cmpS] st=some (.tup [],st):=by
 rw [z6 (fn:=ir161) rfl rfl]
 have h1:IntKind.i64.wrap 1=1:=by decide
 simp only [ir161,go_sem,h1]
 generalize hg:lim (headed pure (run L) false _ lp161_1 _ _) _ _=o
 obtain ⟨x,en,s,rfl,h2⟩: ∃x en s,o=some (x,en,s)∧_:=by rw [←hg];exact ins1n st _ _ 1 trivial _ _ (by simp only [go_sem,show I 1=J 1 from rfl]<;>rfl)
 clear hg
 obtain ⟨rfl,rfl⟩:=h2
 simp only [go_sem]
theorem pdqn (st0:St)(lo hi:Nat)(i:Nat)(hok:True)(env:Env)(st:St)
  (hg:gcAV false lo hi (canon env [0,1,2,3,4,10,11]) st=([(0,.v (.slice none 0 0)),(1,I 0),(2,I 0),(3,J i),(4,cmpS),(10,B true),(11,B true)],st0)):
  ∃x_1 en s,lim (headed pure (run L) false [0,1,2,3,4,10,11] lp129_0 lo hi) env st=some (x_1,en,s)∧(x_1=.ret∧s=st0):=by
 refine z8 (α:=Nat) (fun i=>0) (fun i=>True) (fun i=>([(0,.v (.slice none 0 0)),(1,I 0),(2,I 0),(3,J i),(4,cmpS),(10,B true),(11,B true)],st0)) (fun i x_1 en s=>x_1=.ret∧s=st0) (fun i hok=> ?_) i hok env st hg
 have h1:IntKind.i64.wrap 0=0:=by decide
 have h2:((0:Int)≤12)=True:=eT (by omega)
 simp only [go_sem,lp129_0,h1,h2,c161n]
theorem c80n (st:St):run L 80 [.v (.slice none 0 0),cmpS] st=some (.tup [],st):=by
 have Qd: ∀i:Nat,run L 129 [.v (.slice none 0 0),I 0,I 0,J i,cmpS] st=some (.tup [],st):=by
  intro i
  rw [z6 (fn:=ir129) rfl rfl]
  simp only [ir129,go_sem]
  generalize hg:lim (headed pure (run L) false _ lp129_0 _ _) _ _=o
  obtain ⟨x,en,s,rfl,h2⟩: ∃x en s,o=some (x,en,s)∧_:=by rw [←hg];exact pdqn st _ _ i trivial _ _ (by simp only [go_sem]<;>rfl)
  clear hg
  obtain ⟨rfl,rfl⟩:=h2
  simp only [go_sem]
 rw [z6 (fn:=ir80) rfl rfl]
 have VI: ∀st,run L 115 [.v (.int .u64 0)] st=some (J (bitsLen 0),st):=fun st=>c115 0 (by omega) st
 have VE:IntKind.u64.wrap 0=0:=by decide
 simp only [ir80,go_sem,VE,VI,Qd]
theorem zdx:srt []=[]:=List.Perm.eq_nil (z47 (by simp))
theorem c79 (n:Nat)(h2:2≤n)(hn:n≤8)(nl:Bool)(X:List Nat)(hX: ∀v∈X,v<2^n∧v≠0∧v≠2^n-1)(hnd:(X.map (smlN n)).Nodup)(hl:X.length≤13):
  (clP (X.map (smlN n)) 0=none→∃X1,PL X1∧run L 79 [J n,sl 1 nl (X.map tM)] ⟨[],[]⟩=some (.tup [kA (srt (X.map (smlN n))),I 0],⟨kS (srt (X.map (smlN n)))++X1,[]⟩))∧
  (clP (X.map (smlN n)) 0≠none→run L 79 [J n,sl 1 nl (X.map tM)] ⟨[],[]⟩=some (.tup [.v (.slice none 0 0),I 12],⟨kS (X.map (smlN n)),[]⟩)):=by
 rw [z6 (fn:=ir79) rfl rfl]
 have V9:2^n≤256:=Nat.pow_le_pow_right (n:=2) (by decide) hn
 have QT:=c70 n h2 hn nl X hX hnd (by omega)
 have VV: ∀x∈X.map (smlN n),x<256:=by
  intro x hx
  rw [List.mem_map] at hx
  obtain ⟨v,hv,rfl⟩:=hx
  exact Nat.lt_of_lt_of_le (zg4 (hX v hv).1) V9
 have hk:(X.map (smlN n)).length≤13:=by rw [lm_];exact hl
 generalize X.map (smlN n)=ss at*
 have QM:=fun st=>c71 true ss VV hk st
 have hpl:=zji (clP ss 0)
 by_cases he:ss=[]
 ·subst he
  rw [show kA []=.v (.slice none 0 0) from rfl,show kS []=[] from rfl] at QT
  rw [show sl 1 true (([]:List Nat).map E8)=AV.v (.slice none 0 0) from rfl,show clA (clP [] 0)=.tup [I 0,I 0,B false] from rfl] at QM
  rw [show clA (clP [] 0)=.tup [I 0,I 0,B false] from rfl] at hpl
  refine ⟨fun _=>⟨[],PL.nil,?_⟩,fun h=>absurd rfl h⟩
  rw [zdx]
  simp only [ir79,go_sem,QT,show pure 70=false from rfl,show pure 71=true from rfl,shStore,shV,shVs,zmx,QM,hpl,c80n]
  rfl
 ·rw [zk8 he,zi6 he] at QT
  have hsv:=zj2 0 ss
  obtain ⟨S2,hfr⟩:=zpa he []
  refine ⟨fun hc=> ?_,fun hc=> ?_⟩
  ·rw [hc,show clA none=.tup [I 0,I 0,B false] from rfl] at QM hpl
   obtain ⟨X1,hX1,QF⟩:=c80 [ss.map u8] [] 0 (by simp) true ss VV (by omega)
   refine ⟨X1,hX1,?_⟩
   have QF:run L 80 [.rsl 0 0 ss.length ss.length 1 true,cmpS] ⟨[ss.map u8],[]⟩=some (.tup [],⟨[(srt ss).map u8]++X1,[]⟩):=QF
   have Qv:srt ss≠[]:=fun e=>he (List.eq_nil_of_length_eq_zero (by rw [←z91 VV,e];rfl))
   rw [zk8 Qv,zi6 Qv,z91 VV]
   simp only [ir79,go_sem,QT,show pure 70=false from rfl,show pure 71=true from rfl,shStore,shV,shVs,hsv,hfr,QM,hpl,QF]
  ·obtain ⟨p,hp⟩:=Option.ne_none_iff_exists'.1 hc
   obtain ⟨a,b⟩:=p
   rw [hp,show clA (some (a,b))=.tup [J a,J b,B true] from rfl] at QM hpl
   rw [zi6 he]
   simp only [ir79,go_sem,QT,show pure 70=false from rfl,show pure 71=true from rfl,shStore,shV,shVs,hsv,hfr,QM,hpl]
abbrev fK {m:Nat} (x:Fin m):AV:=J x.val
theorem ins0k (m:Nat) [NeZero m] (S0:List (List AV))(T:List Nat)(l:Nat)(hl:l<S0.length)(n:Nat)(hn:n≤1000)(ag:Bool)(k:Nat)(hk:pure k=false)(caps:List AV)(c:Fin m→Fin m→Int)(lt:Fin m→Fin m→Bool)(hlt: ∀x y,lt x y=decide (c x y<0))(hc: ∀x y X E,run L k (fK x::fK y::caps) ⟨put S0 l X E,T⟩=some (I (c x y),⟨put S0 l X E,T⟩))(X0:List (List AV))(a b i:Nat)(hi:i<n)(lo hi2:Nat)(j:Nat)(d:Array (Fin m))(hok:j≤i∧d.size=n)(env:Env)(st:St)
  (hg:gcAV false lo hi2 (canon env [0,1,2,3,8,9]) st=([(0,.rsl l 0 n n 1 ag),(1,J a),(2,J b),(3,.fn (.func k) [] caps),(8,J i),(9,J j)],⟨put S0 l (Dm fK d) X0,T⟩)):
  ∃x_1 en s,lim (headed pure (run L) false [0,1,2,3,8,9] lp171_0 lo hi2) env st=some (x_1,en,s)∧(x_1=.exit 2∧en.get 0=.rsl l 0 n n 1 ag∧en.get 1=J a∧en.get 2=J b∧en.get 3=.fn (.func k) [] caps∧en.get 8=J i∧s=⟨put S0 l (Dm fK (insInner lt a j d)) X0,T⟩):=by
 refine z8 (α:=Nat×Array (Fin m)) (fun ⟨j,d⟩=>j) (fun ⟨j,d⟩=>j≤i∧d.size=n) (fun ⟨j,d⟩=>([(0,.rsl l 0 n n 1 ag),(1,J a),(2,J b),(3,.fn (.func k) [] caps),(8,J i),(9,J j)],⟨put S0 l (Dm fK d) X0,T⟩)) (fun ⟨j,d⟩ x_1 en s=>x_1=.exit 2∧en.get 0=.rsl l 0 n n 1 ag∧en.get 1=J a∧en.get 2=J b∧en.get 3=.fn (.func k) [] caps∧en.get 8=J i∧s=⟨put S0 l (Dm fK (insInner lt a j d)) X0,T⟩) (fun ⟨j,d⟩ hok=> ?_) ⟨j,d⟩ hok env st hg
 simp only at hok
 obtain ⟨h1,hsz⟩:=hok
 dsimp only at h1 hsz⊢
 have hget:=zg hl
 have Ya:=zf hl
 have Yb:(Dm fK d).length=n:=by rw [zm,hsz]
 by_cases h:a<j
 ·obtain ⟨m0,rfl⟩: ∃m0,j=m0+1:=⟨j-1,by omega⟩
  have e:insInner lt a (m0+1) d=if (decide (m0+1>a)&&lt d[m0+1]! d[m0]!)=true then insInner lt a m0 (swp d (m0+1) m0) else d:=rfl
  rw [e]
  have hgt:((a:Int)<((m0+1:Nat):Int))=True:=eT (by omega)
  have hw:IntKind.i64.wrap (((m0+1:Nat):Int)-1)=((m0:Nat):Int):=by rw [zz]<;>omega
  have r10:(((m0+1:Nat):Int)<(n:Int))=True:=eT (by omega)
  have r11:((m0+1:Nat)<n)=True:=eT (by omega)
  have r12:((m0+1:Nat)+1≤n)=True:=eT (by omega)
  have r13:(Dm fK d)[m0+1]? =some (fK d[m0+1]!):=zc fK d (by omega)
  have r20:(((m0:Nat):Int)<(n:Int))=True:=eT (by omega)
  have r21:((m0:Nat)<n)=True:=eT (by omega)
  have r22:((m0:Nat)+1≤n)=True:=eT (by omega)
  have r23:(Dm fK d)[m0]? =some (fK d[m0]!):=zc fK d (by omega)
  have hd:decide (m0+1>a)=true:=decide_eq_true (by omega)
  have Vt:=zx fK d (m0+1) m0
  rw [hd,Bool.true_and]
  cases Vr:lt d[m0+1]! d[m0]! with
  |true=>
   have Vs:(c d[m0+1]! d[m0]! <0)=True:=by rw [hlt] at Vr;simpa using Vr
   rw [if_pos rfl]
   generalize d[m0+1]! =x at*
   generalize d[m0]! =y at*
   simp only [go_sem,lp171_0,hgt,hw,r10,r11,r12,r13,r20,r21,r22,r23,hc,hk,Vs,hget,Ya,Yb,nn_,lm_,List.length_set]
   refine ⟨(m0,swp d (m0+1) m0),by simp only [go_sem,z3,z4,z5,Vt]<;>rfl,?_,?_,fun x en s hq=> ?_⟩
   ·dsimp only;exact ⟨by omega,zh hsz⟩
   ·dsimp only;omega
   ·exact hq
  |false=>
   have Vs:(c d[m0+1]! d[m0]! <0)=False:=by rw [hlt] at Vr;simpa using Vr
   rw [if_neg (by simp)]
   generalize d[m0+1]! =x at*
   generalize d[m0]! =y at*
   simp only [go_sem,lp171_0,hgt,hw,r10,r11,r12,r13,r20,r21,r22,r23,hc,hk,Vs,hget,Ya,Yb,nn_,lm_,List.length_set]
 ·have hgt:((a:Int)<(j:Int))=False:=eF (by omega)
  have e:insInner lt a j d=d:=by
   cases j with
   |zero=>rfl
   |succ m0=>unfold insInner;rw [if_neg (by simp;omega)]
  rw [e]
  simp only [go_sem,lp171_0,hgt]
theorem ins1k (m:Nat) [NeZero m] (S0:List (List AV))(T:List Nat)(l:Nat)(hl:l<S0.length)(n:Nat)(hn:n≤1000)(ag:Bool)(k:Nat)(hk:pure k=false)(caps:List AV)(c:Fin m→Fin m→Int)(lt:Fin m→Fin m→Bool)(hlt: ∀x y,lt x y=decide (c x y<0))(hc: ∀x y X E,run L k (fK x::fK y::caps) ⟨put S0 l X E,T⟩=some (I (c x y),⟨put S0 l X E,T⟩))(X0:List (List AV))(a b:Nat)(hb:b≤n)(lo hi2:Nat)(i:Nat)(d:Array (Fin m))(hok:i≤n+1∧d.size=n)(env:Env)(st:St)
  (hg:gcAV false lo hi2 (canon env [0,1,2,3,8]) st=([(0,.rsl l 0 n n 1 ag),(1,J a),(2,J b),(3,.fn (.func k) [] caps),(8,J i)],⟨put S0 l (Dm fK d) X0,T⟩)):
  ∃x_1 en s,lim (headed pure (run L) false [0,1,2,3,8] lp171_1 lo hi2) env st=some (x_1,en,s)∧(x_1=.exit 0∧s=⟨put S0 l (Dm fK (insOuter lt a b i d)) X0,T⟩):=by
 refine z8 (α:=Nat×Array (Fin m)) (fun ⟨i,d⟩=>b-i) (fun ⟨i,d⟩=>i≤n+1∧d.size=n) (fun ⟨i,d⟩=>([(0,.rsl l 0 n n 1 ag),(1,J a),(2,J b),(3,.fn (.func k) [] caps),(8,J i)],⟨put S0 l (Dm fK d) X0,T⟩)) (fun ⟨i,d⟩ x_1 en s=>x_1=.exit 0∧s=⟨put S0 l (Dm fK (insOuter lt a b i d)) X0,T⟩) (fun ⟨i,d⟩ hok=> ?_) ⟨i,d⟩ hok env st hg
 simp only at hok
 obtain ⟨h1,hsz⟩:=hok
 dsimp only at h1 hsz⊢
 by_cases h:i<b
 ·have e:insOuter lt a b i d=insOuter lt a b (i+1) (insInner lt a i d):=by
   rw [insOuter,if_pos h]
  rw [e]
  have Yc:((i:Int)<(b:Int))=True:=eT (by omega)
  have hs:=za i (by omega)
  have hz:(insInner lt a i d).size=n:=by rw [z3o,hsz]
  simp only [go_sem,lp171_1,Yc]
  generalize hg:lim (headed pure (run L) false _ lp171_0 _ _) _ _=o
  obtain ⟨x,en,s,rfl,h2⟩: ∃x en s,o=some (x,en,s)∧_:=by rw [←hg];exact ins0k m S0 T l hl n hn ag k hk caps c lt hlt hc X0 a b i (by omega) _ _ i d ⟨Nat.le_refl _,hsz⟩ _ _ (by simp only [go_sem]<;>rfl)
  clear hg
  obtain ⟨rfl,e0,e1,e2,e3,e8,rfl⟩:=h2
  simp only [go_sem,lp171_1,e0,e1,e2,e3,e8,hs]
  refine ⟨(i+1,insInner lt a i d),by simp only [go_sem,z3,z4,z5,e0,e1,e2,e3,e8]<;>rfl,?_,?_,fun x en s hq=> ?_⟩
  ·dsimp only;exact ⟨by omega,hz⟩
  ·dsimp only;omega
  ·exact hq
 ·have e:insOuter lt a b i d=d:=by rw [insOuter,if_neg h]
  rw [e]
  have Yc:((i:Int)<(b:Int))=False:=eF (by omega)
  simp only [go_sem,lp171_1,Yc]
theorem insk (m:Nat) [NeZero m] (S0:List (List AV))(T:List Nat)(l:Nat)(hl:l<S0.length)(n:Nat)(hn:n≤1000)(ag:Bool)(k:Nat)(hk:pure k=false)(caps:List AV)(c:Fin m→Fin m→Int)(lt:Fin m→Fin m→Bool)(hlt: ∀x y,lt x y=decide (c x y<0))(hc: ∀x y X E,run L k (fK x::fK y::caps) ⟨put S0 l X E,T⟩=some (I (c x y),⟨put S0 l X E,T⟩))(X0:List (List AV))(a b:Nat)(ha:a≤n)(hb:b≤n)(d:Array (Fin m))(hsz:d.size=n):
  run L 171 [.rsl l 0 n n 1 ag,J a,J b,.fn (.func k) [] caps] ⟨put S0 l (Dm fK d) X0,T⟩=some (.tup [],⟨put S0 l (Dm fK (insertionSort lt d a b)) X0,T⟩):=by
 rw [z6 (fn:=ir171) rfl rfl]
 have hs:=za a (by omega)
 simp only [ir171,go_sem,hs]
 generalize hg:lim (headed pure (run L) false _ lp171_1 _ _) _ _=o
 obtain ⟨x,en,s,rfl,h2⟩: ∃x en s,o=some (x,en,s)∧_:=by rw [←hg];exact ins1k m S0 T l hl n hn ag k hk caps c lt hlt hc X0 a b hb _ _ (a+1) d ⟨by omega,hsz⟩ _ _ (by simp only [go_sem]<;>rfl)
 clear hg
 obtain ⟨rfl,rfl⟩:=h2
 simp only [go_sem]
 rfl
theorem u8s_E (ss:List Nat):u8s (ss.map E8)=some (ss.map fun (s:Nat)=>(s:Int)):=by
 induction ss with
 |nil=>rfl
 |cons s r ih=>simp only [List.map_cons,u8s,ih,Option.map_some]
theorem zl2 (nl:Bool)(ss:List Nat)(hk:ss.length≤1000)(st:St):bytesOf st (sl 1 nl (ss.map E8))=some (ss.map fun (s:Nat)=>(s:Int)):=by
 unfold bytesOf
 rw [z3y]
 simp only [Option.bind_some,u8s_E,lm_,if_pos hk]
theorem c130 (x:AV)(ss:List Nat)(hx: ∀st,bytesOf st x=some (ss.map fun (s:Nat)=>(s:Int)))(h: ∀s∈ss,s<256)(hk:ss.length<256):
  (ss=[]→run L 130 [.fn (.func 170) [] [.ptr 0 0],cmpS] ⟨[[x]],[]⟩=some (.v (.slice none 0 0),⟨[[x]],[]⟩))∧
  (ss≠[]→∃X1,PL X1∧run L 130 [.fn (.func 170) [] [.ptr 0 0],cmpS] ⟨[[x]],[]⟩=some (.rsl 1 0 ss.length ss.length 1 true,⟨[[x],(srt ss).map u8]++X1,[]⟩)):=by
 rw [z6 (fn:=ir130) rfl rfl]
 have hb:=hx ⟨[[x]],[]⟩
 have V5: ∀r st',primSeq 192 170 192 [.v (.slice none 0 0),.fn (.func 170) [] [.ptr 0 0]] ⟨[[x]],[]⟩=some (r,st')→1≤st'.store.length→
   run L 192 [.v (.slice none 0 0),.fn (.func 170) [] [.ptr 0 0]] ⟨[[x]],[]⟩=some (r,st'):=by
  intro r st' hp h1
  exact zlg rfl rfl hp h1 (Nat.zero_le _)
 refine ⟨fun he=> ?_,fun he=> ?_⟩
 ·rw [he,List.map_nil] at hb
  have QG:=V5 (.v (.slice none 0 0)) ⟨[[x]],[]⟩ (by
   simp only [primSeq,if_true,List.getElem?_cons_zero,hb]) (by simp)
  have V5:run L 169 [.fn (.func 170) [] [.ptr 0 0]] ⟨[[x]],[]⟩=some (.v (.slice none 0 0),⟨[[x]],[]⟩):=by
   rw [z6 (fn:=ir169) rfl rfl]
   simp only [ir169,go_sem,QG,show pure 192=false from rfl]
  simp only [ir130,go_sem,V5,c80n]
 ·obtain ⟨z,zs,rfl⟩: ∃z zs,ss=z::zs:=by cases ss with|nil=>exact absurd rfl he|cons z zs=>exact ⟨z,zs,rfl⟩
  generalize VV:z::zs=ss at*
  have QG:=V5 (.rsl 1 0 ss.length ss.length 1 true) ⟨[[x],ss.map u8],[]⟩ (by
   have e:(ss.map fun (s:Nat)=>(s:Int))=(z:Int)::zs.map fun (s:Nat)=>(s:Int):=by rw [←VV];rfl
   rw [e] at hb
   simp only [primSeq,if_true,List.getElem?_cons_zero,hb]
   have e1:((z:Int)::zs.map fun (s:Nat)=>(s:Int)).length=ss.length:=by rw [←VV];simp
   have e2:(((z:Int)::zs.map fun (s:Nat)=>(s:Int)).map fun z=>AV.v (.int .u8 z))=ss.map u8:=by rw [←VV];simp
   rw [e1,e2];rfl) (by simp)
  have V5:run L 169 [.fn (.func 170) [] [.ptr 0 0]] ⟨[[x]],[]⟩=some (.rsl 1 0 ss.length ss.length 1 true,⟨[[x],ss.map u8],[]⟩):=by
   rw [z6 (fn:=ir169) rfl rfl]
   simp only [ir169,go_sem,QG,show pure 192=false from rfl]
  obtain ⟨X1,hX1,QF⟩:=c80 [[x],ss.map u8] [] 1 (by simp) true ss h hk
  have QF:run L 80 [.rsl 1 0 ss.length ss.length 1 true,cmpS] ⟨[[x],ss.map u8],[]⟩=some (.tup [],⟨[[x],(srt ss).map u8]++X1,[]⟩):=QF
  refine ⟨X1,hX1,?_⟩
  simp only [ir130,go_sem,V5,QF]
theorem loop84 (C:List AV)(QH: ∀n,okRefs n C=true)(QI: ∀n T acc,renCells n T acc C=(C,acc))(X1:List (List AV))(hX:PL X1)(ss:List Nat)(Vw: ∀s∈ss,s<256)(hk:ss.length<256)(i:Nat)(o:List Nat)(hok:i≤ss.length∧o.length≤i)(env:Env)(st:St)
  (hg:gcAV true (X1.length+1+1) 0 (canon env [3,8,9,10]) st=([(3,oA (o.map tM)),(8,.rsl 1 0 ss.length ss.length 1 true),(9,J ss.length),(10,J i)],⟨C::ss.map u8::X1,oT (o.map tM)⟩)):
  ∃x_1 en s,lim (headed pure (run L) true [3,8,9,10] lp84_0 (X1.length+1+1) 0) env st=some (x_1,en,s)∧(x_1=.exit 0∧en.get 3=oA ((o++ss.drop i).map tM)):=by
 refine z8 (α:=Nat×List Nat) (fun ⟨i,o⟩=>ss.length-i) (fun ⟨i,o⟩=>i≤ss.length∧o.length≤i) (fun ⟨i,o⟩=>([(3,oA (o.map tM)),(8,.rsl 1 0 ss.length ss.length 1 true),(9,J ss.length),(10,J i)],⟨C::ss.map u8::X1,oT (o.map tM)⟩)) (fun ⟨i,o⟩ x_1 en s=>x_1=.exit 0∧en.get 3=oA ((o++ss.drop i).map tM)) (fun ⟨i,o⟩ hok=> ?_) ⟨i,o⟩ hok env st hg
 simp only at hok
 obtain ⟨h1,h2⟩:=hok
 dsimp only at h1 h2⊢
 by_cases h:i<ss.length
 ·have hs:=za i (by omega)
  have hlt:((i:Int)<(ss.length:Int))=True:=eT (by omega)
  have hd:ss.drop i=ss.getD i 0::ss.drop (i+1):=by
   rw [List.drop_eq_getElem_cons h];simp [List.getD_eq_getElem?_getD,h]
  have hb:ss.getD i 0<256:=by
   rw [List.getD_eq_getElem?_getD,List.getElem?_eq_getElem h];exact Vw _ (List.getElem_mem h)
  have hg:=zgo ss i h
  have hil:(i+1≤ss.length)=True:=eT (by omega)
  have hin:((i:Int).toNat<ss.length)=True:=eT (by omega)
  rw [hd]
  generalize ss.getD i 0=v at*
  have Of:=fun st=>c94 v hb st
  have happ:=fun S=>z9x (o.map tM) (tM v) S (by rw [lm_];omega)
  have g1:=zl4 X1 [u8 v]
  have g2:=zgr X1 [u8 v] [u8 v]
  have g0:=zl4 X1 [u8 0]
  have g3:=zgr X1 [u8 0] [u8 v]
  have g4:=ziv X1 [u8 v]
  have hl1:(1<X1.length+1+1)=True:=eT (by omega)
  simp only [go_sem,lp84_0,hlt,hs,hil,hin,hg,Of,happ,g0,g1,g2,g3,nn_,lm_,show AV.v (.int .u8 0)=u8 0 from rfl]
  refine ⟨(i+1,o++ [v]),by simp only [go_sem,z3,z4,z5,zex,z9l,List.map_append,QH,QI,z5l,z23,zpm hX,zl7 hX,g4,hl1]<;>rfl,?_,?_,fun x en s hq=> ?_⟩
  ·dsimp only;exact ⟨by omega,by rw [List.length_append,List.length_singleton];omega⟩
  ·dsimp only;omega
  ·simp only [List.append_assoc,List.singleton_append] at hq;exact hq
 ·have hd:ss.drop i=[]:=List.drop_eq_nil_of_le (by omega)
  have hlt:((i:Int)<(ss.length:Int))=False:=eF (by omega)
  rw [hd,List.append_nil]
  simp only [go_sem,lp84_0,hlt]
theorem zop (C:List AV)(QH: ∀n,okRefs n C=true)(QI: ∀n T acc,renCells n T acc C=(C,acc))(i:Nat)(hok:i=0)(env:Env)(st:St)
  (hg:gcAV true 1 0 (canon env [3,8,9,10]) st=([(3,.v (.slice none 0 0)),(8,.v (.slice none 0 0)),(9,I 0),(10,J i)],⟨[C],[]⟩)):
  ∃x_1 en s,lim (headed pure (run L) true [3,8,9,10] lp84_0 1 0) env st=some (x_1,en,s)∧(x_1=.exit 0∧en.get 3=.v (.slice none 0 0)):=by
 refine z8 (α:=Nat) (fun i=>i) (fun i=>i=0) (fun i=>([(3,.v (.slice none 0 0)),(8,.v (.slice none 0 0)),(9,I 0),(10,J i)],⟨[C],[]⟩)) (fun i x_1 en s=>x_1=.exit 0∧en.get 3=.v (.slice none 0 0)) (fun i hok=> ?_) i hok env st hg
 subst hok
 have hlt:(((0:Nat):Int)<0)=False:=eF (by omega)
 simp only [go_sem,lp84_0,hlt]
theorem c84 (nl:Bool)(ss:List Nat)(h: ∀s∈ss,s<256)(hk:ss.length<256)(st:St):run L 84 [sl 1 nl (ss.map E8)] st=some (sl 1 true ((srt ss).map tM),st):=by
 rw [run_pure (fn:=ir84) rfl rfl]
 have QU:run L 131 [sl 1 nl (ss.map E8)] ⟨[],[]⟩=some (.fn (.func 170) [] [.ptr 0 0],⟨[[sl 1 nl (ss.map E8)]],[]⟩):=by
  rw [z6 (fn:=ir131) rfl rfl]
  simp only [ir131,go_sem]
 have V6:=c130 (sl 1 nl (ss.map E8)) ss (fun st=>zl2 nl ss (by omega) st) h hk
 have hp:pub (sl 1 nl (ss.map E8))=sl 1 nl (ss.map E8):=z3t _ _ _
 have ho: ∀n,okRef n (sl 1 nl (ss.map E8))=true:=fun n=>z1a _ _ _ _
 have hr: ∀n T acc,ren1 n T acc (sl 1 nl (ss.map E8))=(sl 1 nl (ss.map E8),acc):=fun n T acc=>z3u _ _ _ _ _ _
 generalize sl 1 nl (ss.map E8)=x at*
 have QH: ∀n,okRefs n [x]=true:=fun n=>by simp only [okRefs,ho,Bool.and_self]
 have QI: ∀n T acc,renCells n T acc [x]=([x],acc):=fun n T acc=>by simp only [renCells,hr]
 by_cases he:ss=[]
 ·have V6:=V6.1 he
  have hz:srt ss=[]:=by rw [he,zdx]
  rw [hz]
  simp only [ir84,go_sem,hp,QU,V6]
  generalize hg:lim (headed pure (run L) true _ lp84_0 _ _) _ _=o
  obtain ⟨x,en,s,rfl,h2⟩: ∃x en s,o=some (x,en,s)∧_:=by rw [←hg];exact zop [x] QH QI 0 rfl _ _ (by simp only [go_sem,ho,hr,Int.natCast_zero]<;>rfl)
  clear hg
  obtain ⟨rfl,e3⟩:=h2
  simp only [go_sem,e3]
  rfl
 ·obtain ⟨X1,hX1,V6⟩:=V6.2 he
  have hsl:=z91 h
  have hl1:(1<X1.length+1+1)=True:=eT (by omega)
  simp only [ir84,go_sem,hp,QU,V6]
  rw [←hsl]
  generalize hg:lim (headed pure (run L) true _ lp84_0 _ _) _ _=o
  obtain ⟨x,en,s,rfl,h2⟩: ∃x en s,o=some (x,en,s)∧_:=by rw [←hg];exact loop84 [x] QH QI X1 hX1 (srt ss) (ziy ss) (by omega) 0 [] ⟨by omega,by simp⟩ _ _ (by simp only [go_sem,ho,hr,z5l,z23,zpm hX1,zl7 hX1,hl1,Int.natCast_zero,List.map_nil,←zgd,zd2,List.take_length]<;>rfl)
  clear hg
  rw [List.drop_zero] at h2
  obtain ⟨rfl,e3⟩:=h2
  simp only [go_sem,e3]
end Go.Proofs.YtdnmhlfjafjkbaaGreatDoor.Vm
