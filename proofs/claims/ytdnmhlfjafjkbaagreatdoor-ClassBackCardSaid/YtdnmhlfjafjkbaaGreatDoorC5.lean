/- What is proved: what each function of this program computes, as equations on the evaluator. No condition. -/
import Derived.Test.YtdnmhlfjafjkbaaGreatDoorC4
import Derived.Test.YtdnmhlfjafjkbaaGreatDoorT0
set_option linter.all false
namespace Go.Proofs.YtdnmhlfjafjkbaaGreatDoor.Vm
open Go Go.Ev
set_option maxRecDepth 100000
set_option maxHeartbeats 4000000
theorem pub_o1 (o:List AV):pub (o1A o)=sl 1 true o:=by
 unfold o1A
 split
 ·next h=>rw [List.eq_nil_of_length_eq_zero h];rfl
 ·next h=>rw [za3 (fun e=>h (by rw [e];rfl))];rfl
theorem zp9 (l:Nat)(cs o:List AV):frzV l cs (o1A o)=o1A o:=by
 unfold o1A;split<;>rfl
theorem zo7 (l o n c z:Nat)(a:Bool)(x:List AV):rslsOf [.rsl l o n c z a,o1A x]=[l]:=by
 unfold o1A;split<;>rfl
theorem Num.frzApp {A:List (List AV)} (h:Num A)(l:Nat)(cs:List AV)(L:List (List AV)):frzStore l cs (A++L)=A++frzStore l cs L:=by
 induction A with
 |nil=>rfl
 |cons a r ih=>
  obtain ⟨xs,rfl⟩:=h a List.mem_cons_self
  simp only [List.cons_append,frzStore,zae,ih (fun C hC=>h C (List.mem_cons_of_mem _ hC))]
theorem shVs_J (n:Nat)(X:List Nat):shVs n (X.map J)=X.map J:=by
 have:=zgq n (X.map fun (a:Nat)=>Value.int .i64 (a:Int))
 rwa [List.map_map] at this
theorem frzV_J (l:Nat)(X:List Nat)(h:X≠[]):frzV l (X.map J) (.rsl l 0 X.length X.length 1 false)=sl 1 true (X.map J):=by
 have:=frzV_I l (X.map fun (a:Nat)=>(a:Int)) (by simpa using h)
 rw [lm_,List.map_map] at this
 exact this
theorem c11 (a g:Nat)(ha:a<256)(zs:List Nat)(hz:zs.length=13)(hzs: ∀z∈zs,z<256)(m w:Nat)(hm:m<256)(x1 x2:Nat)(hx1:x1<256)(hx2:x2<256):
  run L 11 [cutAV a g zs m w,u8 x1,u8 x2] ⟨[],[]⟩=some (B true,⟨[],[]⟩):=by
 rw [run_pure (fn:=ir11) rfl rfl]
 have hd:=Nat.mod_lt a (show 0<7 by decide)
 have Ob:run L 38 [.agg (cutC a 1 zs m w),I 8] ⟨[],[]⟩=some (.tup [J (2+a % 7),mU (madeS (2+a % 7) 1 zs (m % 14))],⟨cutC a 1 zs m w::mS (madeS (2+a % 7) 1 zs (m % 14)),[]⟩):=c38 a 1 ha zs hz hzs m w hm 8 7 (.inr (.inr ⟨rfl,rfl⟩))
 have Qe:=zol (n:=2+a % 7) (by omega) 1 zs (m % 14)
 have hag:=zom (n:=2+a % 7) (by omega) 1 rfl zs (m % 14)
 have Vq:m % 14≤13:=by omega
 generalize hn:2+a % 7=n at*
 have hn2:2≤n∧n≤8:=by omega
 have V9:2^n≤256:=Nat.pow_le_pow_right (n:=2) (by decide) hn2.2
 obtain ⟨hS,KN⟩:=Qe
 generalize madeS n 1 zs (m % 14)=ss at*
 have Q9:cutAV a g zs m w=.agg (cutC a g zs m w):=rfl
 have YS:(cutC a g zs m w).length=17:=lenC a g zs hz m w
 have YG:(cutC a 1 zs m w).length=17:=lenC a 1 zs hz m w
 have htk:(cutC a 1 zs m w).take 17=cutC a 1 zs m w:=List.take_of_length_le (by omega)
 have Vw: ∀s∈ss,s<256:=fun s h=>Nat.lt_of_lt_of_le (hS.lt s h) V9
 have hs1:=zpe a g zs m w
 have Yl:=(hS.lam hn2.2 hag).srt hn2.2
 have Vf:=zke hn2.2 Yl
 have hsl:=z91 Vw
 have Qy:=z8c ss
 have hL:=ziy ss
 have Yr:=znr Vw
 have YT:pure 38=false:=rfl
 have YU:pure 52=false:=rfl
 have Vg:pure 62=false:=rfl
 have Qx:(srt ss).map (smlN n)=srt ss:=by
  conv=>rhs;rw [←List.map_id (srt ss)]
  exact List.map_congr_left (fun s hs=>zlc (hS.even s ((z47 Vw).mem_iff.1 hs)))
 have hX: ∀v∈srt ss,v<2^n∧v≠0∧v≠2^n-1:=fun v hv=>by
  have hm:=(z47 Vw).mem_iff.1 hv
  refine ⟨hS.lt v hm,hS.ne v hm,fun e=> ?_⟩
  have h2:=hS.even v hm
  rw [e,zkk,decide_eq_true (by omega)] at h2
  cases h2
 have hnd:(srt ss).Nodup:=(z47 Vw).nodup_iff.2 hS.nd
 have hcl:clP (srt ss) 0=none:=(zb6 (srt ss) 0).2 (Yl.nd.imp_of_mem (fun ha hb _=>Yl.ag _ ha _ hb))
 have QY:=fun st=>c26 n hn2.1 hn2.2 true (srt ss) hX (by rw [Qx];exact hnd) (by omega) (by rw [Qx];exact hcl) st
 rw [Qx,Yr] at QY
 have Oc:=fun st=>c51 true (srt ss) hL (by omega) st
 rw [Yr] at Oc
 have Ox:=fun st=>c23M true true (srt ss) (srt ss) (by omega) st
 rw [decide_eq_true rfl] at Ox
 have V7:=z7d U true (srt ss)
 have KO:=z7d tM true (srt ss)
 have Yx:=Vf
 generalize growN (srt ss) n (ordG (srt ss))=UW at*
 obtain ⟨Ug,Wg⟩:=UW
 dsimp only at Yx
 generalize Ky:srt ss=L0 at*
 by_cases he:ss=[]
 ·have OV:L0=[]:=List.length_eq_zero_iff.1 (by rw [hsl,he];rfl)
  have m1:mU ss=.v (.slice none 0 0):=if_pos he
  have m2:mS ss=[]:=if_pos he
  rw [m1,m2] at Ob
  have eU0:sl 1 true (L0.map U)=.v (.slice none 0 0):=by rw [OV];rfl
  have hl0:L0.length=0:=by rw [OV];rfl
  rw [eU0] at Oc V7
  rw [hl0] at V7
  have c52n':=c52n
  simp only [ir11,Q9,go_sem,z4r,z13,zoa,zb9,YS,YG,htk,hs1,Ob,YT,YU,shStore,shV,shVs,znb,c52n,zb5,zfp,frzAV,frzPs,frzP1,frzT,frzLs,rslsOf,frzEnv_get,zdc,z8p,lm_,V7]
  have hA0:Num [cutC a 1 zs m w,cutC a 1 zs m w,[]]:=by
   intro C hC
   simp only [List.mem_cons,List.not_mem_nil,or_false] at hC
   rcases hC with rfl|rfl|rfl
   ·exact znd a 1 zs m w _ (List.mem_singleton.2 rfl)
   ·exact znd a 1 zs m w _ (List.mem_singleton.2 rfl)
   ·exact ⟨[],rfl⟩
  have ebE:bE L0=.eptr (.agg [.v (.slice none 0 0)]) 0:=by unfold bE;rw [eU0]
  have Kz:J L0.length=AV.v (.int .i64 0):=by rw [hl0];rfl
  generalize hg:lim (headed pure (run L) true _ lp11_0 _ _) _ _=o
  obtain ⟨x,en,s,rfl,h2⟩: ∃x en s,o=some (x,en,s)∧_:=by rw [←hg];exact zh5 [cutC a 1 zs m w,cutC a 1 zs m w,[]] hA0 3 4 rfl rfl n L0 hL (by omega) x1 x2 0 [] ⟨by omega,rfl,fun k hk=>by omega⟩ _ _ (by simp only [go_sem,frzEnv_get,zdc,z8p,z4r,z13,List.cons_append,List.nil_append,List.map_nil,Int.natCast_zero,show oA []=nilA from rfl,zd2,ebE,eU0,Kz,hl0]<;>rfl)
  clear hg
  obtain ⟨rfl,e1,e2,e7,e8,e9,e10,us,hul,hup,rfl⟩:=h2
  have hus:us=[]:=List.length_eq_zero_iff.1 (by rw [hul,hl0])
  have ho:oA (us.map J)=nilA:=by rw [hus];rfl
  have hT:oT (us.map J)=[]:=by rw [hus];rfl
  simp only [go_sem,e1,e2,e7,e8,e9,e10,ho,hT]
  generalize hg:lim (headed pure (run L) true _ lp11_1 _ _) _ _=o
  obtain ⟨x,en,s,rfl,h2⟩: ∃x en s,o=some (x,en,s)∧_:=by rw [←hg];exact zjz [cutC a 1 zs m w,cutC a 1 zs m w,[]] hA0 3 4 rfl rfl n hn2.2 L0 hL (by omega) x1 x2 0 [] ⟨by omega,rfl,fun k hk=>by omega⟩ _ _ (by simp only [go_sem,e1,e2,e7,e8,e9,e10,z4r,z13,List.cons_append,List.nil_append,okE,renE,Int.natCast_zero,List.map_nil,show oA []=nilA from rfl,zd2]<;>rfl)
  clear hg
  obtain ⟨rfl,f1,f2,f7,f8,f10,ws,Qm,hwp,rfl⟩:=h2
  have Qn:IsTree L0 n us ws:=⟨hul,Qm,hup,hwp⟩
  have Yv:=zep hn2.2 Yl Qn (by omega) Qy
  have tU:=zgm hn2.2 Yl Qn
  have tA:=zit hn2.2 Yl Qn
  obtain ⟨u1,u2⟩:=zka hn2.2 Yl Qn Yx
  subst u1 u2
  have eJ0:sl 1 true (us.map J)=.v (.slice none 0 0):=by rw [hus];rfl
  have Oy: ∀st,run L 28 [J n,.agg [.v (.slice none 0 0),oA (ws.map J)]] st=some (.tup [sl 1 true (L0.map tM),I 0],st):=fun st=>by
   have h:=c28N n hn2.1 hn2.2 true true us ws tU tA (by omega) Qm st
   rw [Yv] at h
   unfold sidesA at h
   rw [if_pos rfl,Yr,eJ0] at h
   rw [←h]
   exact z5v (fn:=ir28) rfl rfl st (by simp only [pubs,pub,z0y,z3t])
  have Oz: ∀st,run L 30 [J n,.agg [.v (.slice none 0 0),oA (ws.map J)]] st=some (I 0,st):=fun st=>by
   have h:=c30N n hn2.1 hn2.2 true true us ws tU tA (by omega) Qm st
   rw [Yv,eJ0] at h
   rw [←h]
   exact z5v (fn:=ir30) rfl rfl st (by simp only [pubs,pub,z0y,z3t])
  have QK: ∀st,run L 22 [sl 1 false (us.map J),.v (.slice none 0 0)] st=some (B true,st):=fun st=>by
   have h:=c22 false true (us.map fun (a:Nat)=>(a:Int)) (us.map fun (a:Nat)=>(a:Int)) (by rw [lm_];omega) st
   rw [decide_eq_true rfl,mapJ,eJ0] at h
   exact h
  have QL: ∀st,run L 22 [sl 1 false (ws.map J),oA (ws.map J)] st=some (B true,st):=fun st=>by
   have h:=c22 false true (ws.map fun (a:Nat)=>(a:Int)) (ws.map fun (a:Nat)=>(a:Int)) (by rw [lm_];omega) st
   rw [decide_eq_true rfl,mapJ] at h
   rw [←h]
   exact z5v (fn:=ir22) rfl rfl st (by simp only [pubs,z0y,z3t])
  have YJ:treeA (us,ws)=.agg [sl 1 false (us.map J),sl 1 false (ws.map J)]:=rfl
  rw [YJ] at QY
  simp only [go_sem,f1,f2,f7,f8,f10,Oy,Oz,Oc,Ox,QY,QK,QL,ebE,V7,zd,zt,zl,List.cons_append,List.nil_append,List.set_cons_succ,List.set_cons_zero,c15]
 ·have hne1:ss.map U≠[]:=by simpa using he
  rw [zon he,zoo he] at Ob
  have YE:L0≠[]:=by intro e;rw [e] at hsl;exact he (List.length_eq_zero_iff.1 hsl.symm)
  have Vh:L0.map U≠[]:=by simpa using YE
  obtain ⟨X1,hX1,OA⟩:=c52b [cutC a 1 zs m w,cutC a 1 zs m w,ss.map U,[.rsl 2 0 ss.length ss.length 1 false]] [] 2 (by simp) false ss Vw (by omega)
  rw [Ky] at OA
  have OW:=hX1.num
  simp only [List.set_cons_succ,List.set_cons_zero,List.cons_append,List.nil_append] at OA
  have hz1: ∀env,frzL 2 env ⟨cutC a 1 zs m w::cutC a 1 zs m w::L0.map U:: [.rsl 2 0 ss.length ss.length 1 false]::X1,[]⟩=(frzEnv 2 (L0.map U) env,⟨cutC a 1 zs m w::cutC a 1 zs m w:: []:: [sl 1 true (L0.map U)]::X1,[]⟩):=fun env=>by
   rw [zkl rfl Vh]
   have h1:=znj 2 L0 YE
   rw [hsl] at h1
   simp only [frzStore,zp7,zp8,zp6,frzVs,OW.frz,h1,List.set_cons_succ,List.set_cons_zero]
  simp only [ir11,Q9,go_sem,z4r,z13,zoa,zb9,YS,YG,htk,hs1,Ob,YT,YU,shStore,shV,shVs,znb,shVs_U,OA,zb5,zfp,frzAV,frzPs,frzP1,frzT,frzLs,rslsOf,hz1,frzEnv_get,zdc,z8p,lm_,V7]
  have OH:(X1++ [[AV.v (.slice none 0 0),AV.v (.slice none 0 0)]]).length+1+1+1+1=X1.length+1+1+1+1+1:=by simp
  have hA0:Num (cutC a 1 zs m w::cutC a 1 zs m w:: []:: []::X1):=by
   intro C hC
   simp only [List.mem_cons] at hC
   rcases hC with rfl|rfl|rfl|rfl|hC
   ·exact znd a 1 zs m w _ (List.mem_singleton.2 rfl)
   ·exact znd a 1 zs m w _ (List.mem_singleton.2 rfl)
   ·exact ⟨[],rfl⟩
   ·exact ⟨[],rfl⟩
   ·exact OW C hC
  obtain ⟨A,Qf⟩: ∃A,cutC a 1 zs m w::cutC a 1 zs m w:: []:: []::X1=A:=⟨_,rfl⟩
  have KA:cutC a 1 zs m w::cutC a 1 zs m w:: []:: []::(X1++ [[AV.v (.slice none 0 0),AV.v (.slice none 0 0)]])=A++ [[AV.v (.slice none 0 0),AV.v (.slice none 0 0)]]:=by rw [←Qf];rfl
  obtain ⟨p,hp⟩: ∃p,X1.length+1+1+1+1=p:=⟨_,rfl⟩
  have hAl:A.length=p:=by rw [←Qf,←hp];rfl
  rw [Qf] at hA0
  rw [OH,KA,hp]
  have YV: ∀b,(A++ [b]).take (p+1)=A++ [b]:=fun b=>List.take_of_length_le (by simp [hAl])
  have bp:(p<p+1)=True:=eT (by omega)
  have ebE:bE L0=.eptr (.agg [sl 1 true (L0.map U)]) 0:=rfl
  generalize hg:lim (headed pure (run L) true _ lp11_0 _ _) _ _=o
  obtain ⟨x,en,s,rfl,h2⟩: ∃x en s,o=some (x,en,s)∧_:=by rw [←hg];exact zh5 A hA0 p (p+1) hAl rfl n L0 hL (by omega) x1 x2 0 [] ⟨by omega,rfl,fun k hk=>by omega⟩ _ _ (by simp only [go_sem,frzEnv_get,zdc,z8p,YV,bp,hA0.calm.okApp,hA0.calm.renApp,List.map_nil,Int.natCast_zero,show oA []=nilA from rfl,zd2,ebE]<;>rfl)
  clear hg
  obtain ⟨rfl,e1,e2,e7,e8,e9,e10,us,hul,hup,rfl⟩:=h2
  have hus:us≠[]:=by intro e;rw [e] at hul;exact YE (List.length_eq_zero_iff.1 hul.symm)
  have YW: ¬(us.map J).length=0:=by simpa using hus
  have ho:oA (us.map J)=.lst (.own 0 us.length) 1 (us.map J):=by unfold oA loc;rw [if_neg YW,lm_]
  have hT:oT (us.map J)=[us.length]:=by unfold oT locT;rw [if_neg YW,lm_]
  have QB:=fun k h=>idx_o J us k h
  rw [ho] at QB
  have pl:=fun L=>zan A L hAl
  simp only [go_sem,e1,e2,e7,e8,e9,e10,ho,hT,pl]
  generalize hg:lim (headed pure (run L) true _ lp11_1 _ _) _ _=o
  obtain ⟨x,en,s,rfl,h2⟩: ∃x en s,o=some (x,en,s)∧_:=by rw [←hg];exact zjy A hA0 p (p+1) hAl rfl n hn2.2 L0 hL (by omega) x1 x2 us 0 [] ⟨by omega,rfl,fun k hk=>by omega⟩ _ _ (by simp only [go_sem,e1,e2,e7,e8,e9,e10,YV,bp,hA0.calm.okApp,hA0.calm.renApp,okE,renE,Int.natCast_zero,List.map_nil,zje,show o1A []=nilA from rfl,show ∀m,o1T m []=[m] from fun _=>rfl]<;>rfl)
  clear hg
  obtain ⟨rfl,f1,f2,f7,f8,f10,ws,Qm,hwp,rfl⟩:=h2
  have Qn:IsTree L0 n us ws:=⟨hul,Qm,hup,hwp⟩
  have Yv:=zep hn2.2 Yl Qn (by omega) Qy
  have tU:=zgm hn2.2 Yl Qn
  have tA:=zit hn2.2 Yl Qn
  obtain ⟨u1,u2⟩:=zka hn2.2 Yl Qn Yx
  subst u1 u2
  have V4:=pub_o1 (ws.map J)
  have YK:pub (.lst (.own 0 us.length) 1 (us.map J))=sl 1 true (us.map J):=by rw [za3 (by simpa using hus)];rfl
  have YX:AV.lst .any 1 (us.map J)=sl 1 true (us.map J):=(za3 (by simpa using hus)).symm
  have Oy: ∀st,run L 28 [J n,.agg [.lst (.own 0 us.length) 1 (us.map J),o1A (ws.map J)]] st=some (.tup [sl 1 true (L0.map tM),I 0],st):=fun st=>by
   have h:=c28N n hn2.1 hn2.2 true true us ws tU tA (by omega) Qm st
   rw [Yv] at h
   unfold sidesA at h
   rw [if_pos rfl,Yr] at h
   rw [←h]
   exact z5v (fn:=ir28) rfl rfl st (by simp only [pubs,pub,V4,YK,YX,z3t])
  have Oz: ∀st,run L 30 [J n,.agg [.lst (.own 0 us.length) 1 (us.map J),o1A (ws.map J)]] st=some (I 0,st):=fun st=>by
   have h:=c30N n hn2.1 hn2.2 true true us ws tU tA (by omega) Qm st
   rw [Yv] at h
   rw [←h]
   exact z5v (fn:=ir30) rfl rfl st (by simp only [pubs,pub,V4,YK,YX,z3t])
  have QK: ∀st,run L 22 [sl 1 false (us.map J),.lst (.own 0 us.length) 1 (us.map J)] st=some (B true,st):=fun st=>by
   have h:=c22 false true (us.map fun (a:Nat)=>(a:Int)) (us.map fun (a:Nat)=>(a:Int)) (by rw [lm_];omega) st
   rw [decide_eq_true rfl,mapJ] at h
   rw [←h]
   exact z5v (fn:=ir22) rfl rfl st (by simp only [pubs,YK,z3t])
  have QL: ∀st,run L 22 [sl 1 false (ws.map J),o1A (ws.map J)] st=some (B true,st):=fun st=>by
   have h:=c22 false true (ws.map fun (a:Nat)=>(a:Int)) (ws.map fun (a:Nat)=>(a:Int)) (by rw [lm_];omega) st
   rw [decide_eq_true rfl,mapJ] at h
   rw [←h]
   exact z5v (fn:=ir22) rfl rfl st (by simp only [pubs,V4,z3t])
  have g0:=fun L=>z7z A L hAl
  have g1:=fun L=>z8w A L hAl 1
  have g2:=fun L=>z8w A L hAl 2
  have s0:=fun L v=>za7 A L hAl v
  have s1:=fun L v=>zam A L hAl 1 v
  have s2:=fun L v=>zam A L hAl 2 v
  have g3:=fun L=>z8w A L hAl 3
  have s3:=fun L v=>zam A L hAl 3 v
  have qL:((L0.length:Int)=0)=False:=eF (by
   have:=List.length_pos_iff.2 YE;omega)
  have KB:=List.length_pos_iff.2 YE
  have hw1:=w64 x1 (by omega)
  have hw2:=w64 x2 (by omega)
  have hr1:=remJ x1 L0.length (by omega)
  have hr2:=remJ x2 (L0.length+1) (by omega)
  have KC:=za L0.length (by omega)
  have hk:=Nat.mod_lt x1 KB
  have hv:=Nat.mod_lt x2 (show 0<L0.length+1 by omega)
  generalize x1 % L0.length=k at*
  generalize x2 % (L0.length+1)=v at*
  have KD:=c62 .any us hus (by omega)
  have KE:=QB k (by omega)
  have b1:(k<us.length)=True:=eT (by omega)
  have b2:((k:Int)<(us.length:Int))=True:=eT (by omega)
  have b3:(k+1≤us.length)=True:=eT (by omega)
  have KF:((us.map J).set k (J v))=(us.set k v).map J:=by rw [List.map_set]
  have KG:((us.set k v).map J)[k]? =some (J v):=by
   rw [List.getElem?_map,List.getElem?_set_self (by omega)];rfl
  have Vi:indexSAV 1 (.rsl (p+2) 0 us.length us.length 1 false) (J k)=some (.ptr (p+2) k):=by
   have hc:(0:Int)≤(k:Int)∧(k:Int)<(us.length:Int):=by omega
   simp [indexSAV,hc,show k<us.length by omega]
  have YJ:treeA (us,ws)=.agg [sl 1 false (us.map J),sl 1 false (ws.map J)]:=rfl
  rw [YJ] at QY
  simp only [go_sem,f1,f2,f7,f8,f10,g0,pl,Oy,Oz,Oc,Ox,QY,QK,QL,ebE,V7,qL,hw1,hr1,g1,g2,g3,s0,s1,s2,s3,List.append_assoc,List.cons_append,List.nil_append,List.set_cons_succ,List.set_cons_zero,zb8,zhh,zer,nn_,KD,Vg,shStore,shV,shVs,shVs_J,hw2,KC,hr2,KF,KG,KE,Vi,b1,b2,b3,lm_,List.length_set]
  by_cases OX:v=us[k]
  ·have q:((v:Int)=(us[k]:Int))=True:=eT (by rw [OX])
   simp only [go_sem,q,c15]
  ·have q:((v:Int)=(us[k]:Int))=False:=eF (by omega)
   have hbl:(us.set k v).length=us.length:=List.length_set
   have Qj:us.set k v≠us:=by
    intro e
    have h:=congrArg (fun l=>l[k]?) e
    simp only [List.getElem?_set_self (show k<us.length by omega),List.getElem?_eq_getElem (show k<us.length by omega),Option.some.injEq] at h
    exact OX h
   have OY: ∀u∈us.set k v,u≤(us.set k v).length:=by
    intro u hu
    rw [hbl]
    rcases List.mem_or_eq_of_mem_set hu with h|h
    ·exact tU u h
    ·omega
   have OZ: ∀x∈ws,x≤(us.set k v).length:=by rw [hbl];exact tA
   have YY:us.set k v≠[]:=by intro e;rw [e] at hbl;exact hus (List.length_eq_zero_iff.1 hbl.symm)
   have YH:=fun h=>zpi hn2.2 Yl Qy hL Qn OY OZ Qm (by omega) h Qj
   have OB:=fun st=>c28N n hn2.1 hn2.2 true true (us.set k v) ws OY OZ (by omega) Qm st
   have O0:=frzV_J (p+2) (us.set k v) YY
   rw [hbl] at O0
   generalize us.set k v=bad at*
   have hcs:bad.map J≠[]:=by simpa using YY
   have Vj:(A++ [[AV.lst (Tag.own 0 us.length) 1 (List.map J us),o1A (List.map J ws)],[sl 1 false (List.map J us),sl 1 false (List.map J ws)],List.map J bad,[AV.rsl (p+2) 0 us.length us.length 1 false,o1A (List.map J ws)]])[p+2]? =some (bad.map J):=by rw [g2];rfl
   have hz2: ∀T env,frzL (p+2) env ⟨A++ [[AV.lst (Tag.own 0 us.length) 1 (List.map J us),o1A (List.map J ws)],[sl 1 false (List.map J us),sl 1 false (List.map J ws)],List.map J bad,[AV.rsl (p+2) 0 us.length us.length 1 false,o1A (List.map J ws)]],T⟩=(frzEnv (p+2) (bad.map J) env,⟨A++ [[AV.lst (Tag.own 0 us.length) 1 (List.map J us),o1A (List.map J ws)],[sl 1 false (List.map J us),sl 1 false (List.map J ws)],[],[sl 1 true (bad.map J),o1A (List.map J ws)]],T⟩):=fun T env=>by
    have hJ:=zae (p+2) (bad.map J) (bad.map fun (a:Nat)=>Value.int .i64 (a:Int))
    rw [List.map_map] at hJ
    have hJ:frzVs (p+2) (bad.map J) (bad.map J)=bad.map J:=hJ
    rw [zkl Vj hcs,hA0.frzApp]
    simp only [frzStore,frzVs,zmt,zp9,zgg,hJ,O0,s2,List.set_cons_succ,List.set_cons_zero]
   have hro:=fun l o n c z a=>zo7 l o n c z a (ws.map J)
   have V8: ∀st,run L 28 [J n,.agg [sl 1 true (bad.map J),o1A (ws.map J)]] st=some (sidesA (readN bad ws),st):=fun st=>by
    rw [←OB st]
    exact z5v (fn:=ir28) rfl rfl st (by simp only [pubs,pub,V4,z3t])
   have YZ:=ze1 hn2.2 (U:=bad) Qm
   have Vk:=zey (U:=bad) (W:=ws) (by omega)
   generalize readN bad ws=r at*
   obtain ⟨er,O⟩:=r
   dsimp only at YH YZ Vk
   unfold sidesA at V8
   dsimp only at V8
   by_cases h0:er=0
   ·subst h0
    rw [if_pos rfl] at V8
    have QZ:=fun st=>c23M true true (srt O) L0 (by rw [z91 YZ];omega) st
    have hb2:=YH rfl
    rw [show srt L0=L0 from Yr] at hb2
    rw [decide_eq_false hb2] at QZ
    simp only [go_sem,q,f7,zb5,frzAV,frzT,frzLs,hro,g3,hz2,frzEnv_get,zdc,z8p,zgg,V8,QZ,c15]
   ·rw [if_neg h0] at V8
    simp only [go_sem,q,f7,zb5,frzAV,frzT,frzLs,hro,g3,hz2,frzEnv_get,zdc,z8p,zgg,V8,h0,c15]
end Go.Proofs.YtdnmhlfjafjkbaaGreatDoor.Vm
