/- What is proved: what each function of this program computes, as equations on the evaluator. No condition. -/
import Derived.Test.YtdnmhlfjafjkbaaGreatDoorC3
import Derived.Test.YtdnmhlfjafjkbaaGreatDoorT0
set_option linter.all false
namespace Go.Proofs.YtdnmhlfjafjkbaaGreatDoor.Vm
open Go Go.Ev
set_option maxRecDepth 100000
set_option maxHeartbeats 4000000
attribute [local go_sem] m_ x_ l_ k_ o_ t_ a_ s_ q_ b_ c_ u_ g_ z30 z09 z48 z12 z2v z04 z44 z0m z1d zw z23 z11 z2u z03 z43 z15 z2y z07 z46 z0n z1e zx z24 z0l z1c zu z21 z14 z2x z06 z1x z4o z0k z5k z16 z2z z08 z47 z17 z1k z0a z49 z10 z2t z02 z42 z13 z2w z05 z45 z22 z19 z1s z5t z5r z5s z4c z29 z2c z2b z2a z2m z2n z3n z4e z5y z0d z31 z1z z0r z27 z2p z2r z4l z4m z4k z2s z1b z0o z41 z1y z1a z0s zz z1f z0t z26 z5m z4a z0y z0i z0z pubs pub z5h params z1t z00 z0w z1u z2d z2o z5u untips untip z40 wantedAV setElems withO z5v z2j z2g z2f z4g z2i z2e z4f z2h List.replicate_succ List.replicate_zero opAV valAV aval avals ofVal Env.get setD canon gcAV renAll renEnv renStore renCells z52 cutSt okEnv okStore okRefs okRef z3m z62 z4p z61 z5z z60 z63 cellsEq cellEq isShift intOp boolOp z5o z5p z64 bne resAV tupAV z4d z72 z56 fins zam z5w z5x z55 z7i storeAV readCells putCells z4n z1w z0j fieldAddrAV z6w goI List.getElem?_cons_zero List.getElem?_cons_succ List.getElem?_nil Option.bind_some Option.map_some List.length_cons List.length_nil List.all_cons List.all_nil Bool.and_true Bool.true_and Bool.and_false Bool.false_and and_true true_and and_false false_and Bool.false_eq_true List.set_cons_zero List.set_cons_succ List.append_nil List.nil_append List.cons_append List.take_zero List.take_succ_cons List.take_nil List.drop_zero List.drop_succ_cons List.map_cons List.map_nil decide_true decide_false beq_self_eq_true Bool.not_true Bool.not_false or_true true_or or_false false_or Nat.zero_add Nat.add_zero Nat.le_refl Nat.lt_irrefl decide_eq_true_eq eq_self_iff_true not_true_eq_false not_false_eq_true List.getD_cons_zero z2q Nat.zero_le Nat.not_lt_zero Bool.true_beq Bool.false_beq beq_true beq_false ge_iff_le gt_iff_lt keepR keepT ownTop zan pus Option.map_none z1h z1g z4i z2k z4h Int.cast_ofNat_Int Nat.mul_one Nat.zero_mul Int.toNat_natCast Int.toNat_zero setParts withO2 hasKey z4j z4b z2l z28 z0q z0p zy z0v zl1 z3g z3y z3o z6p z6r z8k z59 z3t z38 z1o z5c z3v z3r z32 z3z z37 z5a z3u z33 z1m z5d z3w z5f z35 z36 z3x z1l z57 z3q z3p z58 Option.bind_none Bool.not_eq_true' decide_eq_false_iff_not Bool.and_eq_true Bool.or_eq_true Option.some.injEq Int.not_lt Int.not_le
attribute [local go_sem_proc] reduceIte Nat.reduceEqDiff Nat.reduceAdd Nat.reduceSub Nat.reduceLeDiff Nat.reduceLT reduceCtorEq Int.reduceLT Int.reduceLE Int.reduceEq Int.reduceBEq Int.reduceSub Int.reduceAdd Int.reduceMul Int.reduceNeg Int.reduceToNat Nat.reduceMul Nat.reduceBEq
attribute [local go_sem] m_ x_ l_ k_ o_ t_ a_ s_ q_ b_ c_ u_ g_ zp zb zm zq z3b z25 zd zf zi z8 zh z3e
theorem zdx (l:Nat)(cs:List AV): ∀xs:List Value,frzVs l cs (xs.map AV.v)=xs.map AV.v
 | []=>rfl
 |x::r=>by
  have ih:=zdx l cs r
  simp only [List.map_cons,frzVs,frzV,ih]
theorem Num.frz {A:List (List AV)} (h:Num A)(l:Nat)(cs:List AV):frzStore l cs A=A:=by
 induction A with
 |nil=>rfl
 |cons a r ih=>
  obtain ⟨xs,rfl⟩:=h a List.mem_cons_self
  simp only [frzStore,zdx,ih (fun C hC=>h C (List.mem_cons_of_mem _ hC))]
theorem zmx: ∀(X:List Int),group false 1 X.length (X.map I)=X.map I
 | []=>rfl
 |x::r=>by
  have ih:=zmx r
  simp only [List.length_cons,List.map_cons,group,List.drop_succ_cons,List.drop_zero,ih]
  rfl
theorem frzV_I (l:Nat)(X:List Int)(h:X≠[]):frzV l (X.map I) (.rsl l 0 X.length X.length 1 false)=sl 1 true (X.map I):=by
 have hp:pubs (X.map I)=X.map I:=zaq I (fun _=>rfl) X
 simp only [frzV,lm_,List.drop_zero]
 rw [if_pos ⟨trivial,by omega,.inr trivial,Nat.le_refl _⟩,hp,zmx,zb1 (by simpa using h)]
theorem zkb {l p:Nat} (h:p≠l)(cs:List AV)(o n c z:Nat)(a:Bool):frzV l cs (.rsl p o n c z a)=.rsl p o n c z a:=by
 simp only [frzV]
 rw [if_neg (fun hh=>h hh.1)]
theorem zka (l:Nat)(cs xs:List AV):frzV l cs (oA xs)=oA xs:=by
 unfold oA loc;split<;>rfl
theorem zdi (n:Nat)(acc:List Nat)(xs:List AV):refsV n acc (oA xs)=acc:=by
 unfold oA loc;split<;>rfl
theorem zg1 (n:Nat)(M:List Nat)(xs:List AV):mapL n M (oA xs)=oA xs:=by
 unfold oA loc;split<;>rfl
theorem frzL_I {S:List (List AV)} {l:Nat} {X:List Int} (h:S[l]? =some (X.map I))(hne:X≠[])(hS:Num S)(T:List Nat)(env:Env):frzL l env ⟨S,T⟩=(frzEnv l (X.map I) env,⟨S.set l [],T⟩):=by
 have hf:=hS.frz l (X.map I)
 cases X with
 |nil=>exact absurd rfl hne
 |cons x r=>
  rw [List.map_cons] at h hf⊢
  simp only [frzL,h,hf]
theorem zgx (Bs:List (List AV))(hB:Num Bs)(lo p:Nat)(hl:Bs.length=lo)(n:Nat)(hn:n≤8)(P:List Nat)(hP:PermN n P)(hq:Bs[p]? =some (P.map J))(hplo:p<lo)(ss:List Nat)(hss: ∀s∈ss,s<2^n∧s≠0)(hsl:ss.length≤16)(X:List Nat)(i:Nat)(Y:List Nat)(hok:i≤ss.length∧Y=(ss.take i).map (imN P n))(env:Env)(st:St)
  (hg:gcAV true lo 0 (canon env [7,8,9,15,18,113,114,115,3000000]) st=([(7,J n),(8,sl 1 true (ss.map U)),(9,sl 1 true (X.map tM)),(15,.rsl p 0 n n 1 false),(18,oA (Y.map tM)),(113,sl 1 true (ss.map U)),(114,J ss.length),(115,J i),(3000000,.any)],⟨Bs,oT (Y.map tM)⟩)):
  ∃x_1 en s,lim (headed pure (run L) true [7,8,9,15,18,113,114,115,3000000] lp13_2 lo 0) env st=some (x_1,en,s)∧(x_1=.exit 2∧en.get 7=J n∧en.get 8=sl 1 true (ss.map U)∧en.get 9=sl 1 true (X.map tM)∧en.get 18=oA ((ss.map (imN P n)).map tM)∧s=⟨Bs,oT ((ss.map (imN P n)).map tM)⟩):=by
 refine z9 (α:=Nat×List Nat) (fun ⟨i,Y⟩=>ss.length-i) (fun ⟨i,Y⟩=>i≤ss.length∧Y=(ss.take i).map (imN P n)) (fun ⟨i,Y⟩=>([(7,J n),(8,sl 1 true (ss.map U)),(9,sl 1 true (X.map tM)),(15,.rsl p 0 n n 1 false),(18,oA (Y.map tM)),(113,sl 1 true (ss.map U)),(114,J ss.length),(115,J i),(3000000,.any)],⟨Bs,oT (Y.map tM)⟩)) (fun ⟨i,Y⟩ x_1 en s=>x_1=.exit 2∧en.get 7=J n∧en.get 8=sl 1 true (ss.map U)∧en.get 9=sl 1 true (X.map tM)∧en.get 18=oA ((ss.map (imN P n)).map tM)∧s=⟨Bs,oT ((ss.map (imN P n)).map tM)⟩) (fun ⟨i,Y⟩ hok=> ?_) ⟨i,Y⟩ hok env st hg
 simp only at hok
 obtain ⟨h1,hY⟩:=hok
 dsimp only at h1 hY⊢
 by_cases h:i<ss.length
 ·have h2n:2^n≤256:=Nat.pow_le_pow_right (n:=2) (by decide) hn
  have hsu:=ze i (by omega)
  have hlt:((i:Int)<(ss.length:Int))=True:=eT (by omega)
  have hx:=z6x U true ss i h
  have hT:(ss.take (i+1)).map (imN P n)=Y++ [imN P n ss[i]]:=by
   rw [List.take_succ,List.getElem?_eq_getElem h,List.map_append,←hY];rfl
  have hYl:Y.length≤16:=by rw [hY,lm_,List.length_take];omega
  obtain ⟨hu,hu0⟩:=hss ss[i] (List.getElem_mem h)
  generalize ss[i]=u at*
  have h40:=fun st=>c40 u (by omega) st
  have hlm:lenAV (tAV (memb u))=some (J (memb u).length):=z78 I true (memb u)
  have hml:=z6a u
  have hpos:=zgv (m:=u) (by omega) hu0
  have hsrt:sortL ltI ((memb u).map (gI P))=memb (imN P n u):=znc hn hP hu
  have hWl:((memb u).map (gI P)).length=(memb u).length:=List.length_map ..
  have hDl:(memb (imN P n u)).length=(memb u).length:=by
   rw [←hsrt,(z9v ltI _).length_eq,hWl]
  obtain ⟨k,hk⟩: ∃k,(memb u).length=k+1:=⟨(memb u).length-1,by omega⟩
  have hWn:(memb u).map (gI P)≠[]:=by intro e;rw [e] at hWl;simp at hWl;omega
  have eXA:xA lo ((memb u).map (gI P))=.rsl (lo+k) 0 (k+1) (k+1) 1 false:=by unfold xA;rw [if_neg hWn,hWl,hk];rfl
  have eXS:xS ((memb u).map (gI P))=List.replicate k []++ [((memb u).map (gI P)).map I]:=by unfold xS;rw [if_neg hWn,hWl,hk];rfl
  have hS1:(Bs++xS ((memb u).map (gI P)))[lo+k]? =some (((memb u).map (gI P)).map I):=by
   rw [eXS,←hl,←List.append_assoc,List.getElem?_append_right (by simp)];simp
  have hset1: ∀D:List AV,(Bs++xS ((memb u).map (gI P))).set (lo+k) D=Bs++(List.replicate k []++ [D]):=fun D=>by
   rw [eXS,←hl,←List.append_assoc,List.set_append_right _ _ (by simp)];simp
  have h63:=c63 (Bs++xS ((memb u).map (gI P))) (oT (Y.map tM)) (lo+k) _ hS1 (by omega) (by omega)
  rw [hWl,hk,hsrt,hset1] at h63
  have hDn:memb (imN P n u)≠[]:=by intro e;rw [e] at hDl;simp at hDl;omega
  have hS2:(Bs++(List.replicate k []++ [(memb (imN P n u)).map I]))[lo+k]? =some ((memb (imN P n u)).map I):=by
   rw [←hl,←List.append_assoc,List.getElem?_append_right (by simp)];simp
  have hN2:Num (Bs++(List.replicate k []++ [(memb (imN P n u)).map I])):=by
   refine hB.app ?_
   have:=Num.xS (memb (imN P n u))
   unfold xS at this
   rw [if_neg hDn,hDl,hk] at this
   exact this
  have hfz:=frzL_I hS2 hDn hN2 (oT (Y.map tM))
  have hset2:(Bs++(List.replicate k []++ [(memb (imN P n u)).map I])).set (lo+k) []=Bs++List.replicate (k+1) []:=by
   rw [←hl,←List.append_assoc,List.set_append_right _ _ (by simp)]
   simp [List.replicate_succ']
  rw [hset2] at hfz
  have hfv:frzV (lo+k) ((memb (imN P n u)).map I) (.rsl (lo+k) 0 (k+1) (k+1) 1 false)=tM (imN P n u):=by
   have:=frzV_I (lo+k) (memb (imN P n u)) hDn
   rw [hDl,hk] at this
   exact this
  have hfp:=zkb (l:=lo+k) (p:=p) (by omega) ((memb (imN P n u)).map I)
  have happ:=fun S=>z9o (Y.map tM) (tM (imN P n u)) S (by rw [lm_];omega)
  have hp63:pure 63=false:=rfl
  have hhi:(oT (Y.map tM)).length≤(oT (Y.map tM)).length:=Nat.le_refl _
  have hq1:(p<lo)=True:=eT hplo
  have pt0: ∀L,(Bs++L).take lo=Bs:=fun L=>znb Bs L hl
  have e0:xA lo []=.v (.slice none 0 0):=rfl
  have e00:xS []=[]:=rfl
  have hmm:(Y++ [imN P n u]).map tM=Y.map tM++ [tM (imN P n u)]:=by simp
  have ptB:Bs.take lo=Bs:=by rw [←hl];exact List.take_length
  have hren:=fun T acc=>z8q hhi T acc
  have htk:(oT (Y.map tM)).take (oT (Y.map tM)).length=oT (Y.map tM):=List.take_length
  simp only [go_sem,lp13_2,hlt,hsu,hx,h40,hlm,hl]
  generalize hg:lim (headed pure (run L) true _ lp13_1 _ _) _ _=o
  obtain ⟨x,en,s,rfl,h2⟩: ∃x en s,o=some (x,en,s)∧_:=by rw [←hg];exact zlz Bs hB lo p hl n hn P hP hq hplo u hu ss X Y i _ hhi 0 [] ⟨by omega,rfl⟩ _ _ (by simp only [go_sem,e0,e00,hl,hq1,ptB,hren,htk,hB.calm.ok,hB.calm.ren,List.append_nil,List.map_nil,z3d,Int.natCast_zero]<;>rfl)
  clear hg
  obtain ⟨rfl,e7,e8,e9,e15,e18,e21,e113,e114,e115,eM,rfl⟩:=h2
  rw [eXA] at e21
  simp only [go_sem,lp13_2,e7,e8,e9,e15,e18,e21,e113,e114,e115,hp63,h63,hsu,z8h,frzAV,frzT,frzLs,rslsOf,hfz,frzEnv_get,zbu,z8u,zka,hfp,hfv,happ]
  refine ⟨(i+1,Y++ [imN P n u]),by simp only [go_sem,z3,z4,z5,e7,e8,e9,e15,e18,e113,e114,e115,eM,frzEnv_get,frzV,zbu,z8u,zka,zdi,zg1,hfp,hmm,hq1,ptB,pt0,zeo,z9b,hB.refs,hB.maps,hB.calm.ok,hB.calm.ren,hB.calm.okApp,hB.calm.renApp,compact,compactW,refsEnv,refsV,refsL,refsStore,refsAt,mapEnv,mapL,mapLs,newName,posOf,mapStore,pickStore,namesOk,zt,z0g,List.contains_nil,List.contains_cons,Option.getD_some,hasKey,List.append_nil,List.map_nil]<;>rfl,?_,?_,fun x en s hq=> ?_⟩
  ·dsimp only;exact ⟨by omega,by rw [hT]⟩
  ·dsimp only;omega
  ·exact hq
 ·have hlt:((i:Int)<(ss.length:Int))=False:=eF (by omega)
  have e:ss.take i=ss:=List.take_of_length_le (by omega)
  rw [e] at hY
  subst hY
  simp only [go_sem,lp13_2,hlt]
attribute [local go_sem] m_ x_ l_ k_ o_ t_ a_ s_ q_ b_ c_ u_ g_ zp zb zm zq z3b z25 zd zf zi z8 zh z3e
theorem zly (Bs:List (List AV))(hB:Num Bs)(lo:Nat)(hl:Bs.length=lo)(n:Nat)(ss LL Y:List Nat)(hss: ∀s∈ss,s<256)(hsl:ss.length≤16)(hA: ∀i j:Nat,i<ss.length→j<ss.length→∀st,run L 45 [J n,sl 1 true (LL.map tM),J i,J j] st=some (.tup [B (agN (ss.getD i 0) (ss.getD j 0)),I 0],st))(hC: ∀i j:Nat,i<ss.length→j<ss.length→∀st,run L 45 [J n,oA (Y.map tM),J i,J j] st=some (.tup [B (agN (ss.getD i 0) (ss.getD j 0)),I 0],st))(M:List Int)(hi:Nat)(hhi:(oT (Y.map tM)).length≤hi)(i:Nat)(hi2:i<ss.length)(j:Nat)(hok:j≤ss.length)(env:Env)(st:St)
  (hg:gcAV true lo hi (canon env [7,8,9,12,14,18,24,25,26,154,155,159,160]) st=([(7,J n),(8,sl 1 true (ss.map U)),(9,sl 1 true (LL.map tM)),(12,I 0),(14,I 0),(18,oA (Y.map tM)),(24,tAV M),(25,tAV M),(26,J i),(154,J ss.length),(155,J i),(159,J ss.length),(160,J j)],⟨Bs,oT (Y.map tM)⟩)):
  ∃x_1 en s,lim (headed pure (run L) true [7,8,9,12,14,18,24,25,26,154,155,159,160] lp13_3 lo hi) env st=some (x_1,en,s)∧(x_1=.exit 8∧en.get 7=J n∧en.get 8=sl 1 true (ss.map U)∧en.get 9=sl 1 true (LL.map tM)∧en.get 12=I 0∧en.get 14=I 0∧en.get 18=oA (Y.map tM)∧en.get 24=tAV M∧en.get 25=tAV M∧en.get 154=J ss.length∧en.get 155=J i∧s=⟨Bs,oT (Y.map tM)⟩):=by
 refine z9 (α:=Nat) (fun j=>ss.length-j) (fun j=>j≤ss.length) (fun j=>([(7,J n),(8,sl 1 true (ss.map U)),(9,sl 1 true (LL.map tM)),(12,I 0),(14,I 0),(18,oA (Y.map tM)),(24,tAV M),(25,tAV M),(26,J i),(154,J ss.length),(155,J i),(159,J ss.length),(160,J j)],⟨Bs,oT (Y.map tM)⟩)) (fun j x_1 en s=>x_1=.exit 8∧en.get 7=J n∧en.get 8=sl 1 true (ss.map U)∧en.get 9=sl 1 true (LL.map tM)∧en.get 12=I 0∧en.get 14=I 0∧en.get 18=oA (Y.map tM)∧en.get 24=tAV M∧en.get 25=tAV M∧en.get 154=J ss.length∧en.get 155=J i∧s=⟨Bs,oT (Y.map tM)⟩) (fun j hok=> ?_) j hok env st hg
 have hren:=fun T acc=>z8q hhi T acc
 have htk:(oT (Y.map tM)).take hi=oT (Y.map tM):=List.take_of_length_le hhi
 have ptB:Bs.take lo=Bs:=by rw [←hl];exact List.take_length
 by_cases h:j<ss.length
 ·have hs:=ze j (by omega)
  have hlt:((j:Int)<(ss.length:Int))=True:=eT (by omega)
  have h1:=fun st=>hA i j hi2 h st
  have h2:=fun st=>hC i j hi2 h st
  have hxi:=z6x U true ss i hi2
  have hxj:=z6x U true ss j h
  have gi:ss.getD i 0=ss[i]:=by simp [List.getD_eq_getElem?_getD,hi2]
  have gj:ss.getD j 0=ss[j]:=by simp [List.getD_eq_getElem?_getD,h]
  have h41:=fun st=>c41 ss[i] ss[j] (hss _ (List.getElem_mem hi2)) (hss _ (List.getElem_mem h)) st
  rw [gi,gj] at h1 h2
  generalize agN ss[i] ss[j]=b at*
  generalize ss[i]=x at*
  generalize ss[j]=y at*
  cases b
  all_goals
   simp only [go_sem,lp13_3,hlt,hs,h1,h2,hxi,hxj,h41,hl]
   refine ⟨j+1,by simp only [go_sem,z3,z4,z5,hl,ptB,hren,htk,hB.calm.ok,hB.calm.ren,z3d,List.append_nil,List.map_nil]<;>rfl,?_,?_,fun x en s hq=> ?_⟩
   ·omega
   ·omega
   ·exact hq
 ·have hlt:((j:Int)<(ss.length:Int))=False:=eF (by omega)
  simp only [go_sem,lp13_3,hlt]
theorem zgw (Bs:List (List AV))(hB:Num Bs)(lo:Nat)(hl:Bs.length=lo)(n:Nat)(ss LL Y:List Nat)(hss: ∀s∈ss,s<256)(hsl:ss.length≤16)(hA: ∀i j:Nat,i<ss.length→j<ss.length→∀st,run L 45 [J n,sl 1 true (LL.map tM),J i,J j] st=some (.tup [B (agN (ss.getD i 0) (ss.getD j 0)),I 0],st))(hC: ∀i j:Nat,i<ss.length→j<ss.length→∀st,run L 45 [J n,oA (Y.map tM),J i,J j] st=some (.tup [B (agN (ss.getD i 0) (ss.getD j 0)),I 0],st))(M:List Int)(hi:Nat)(hhi:(oT (Y.map tM)).length≤hi)(i:Nat)(hok:i≤ss.length)(env:Env)(st:St)
  (hg:gcAV true lo hi (canon env [7,8,9,12,14,18,24,25,154,155]) st=([(7,J n),(8,sl 1 true (ss.map U)),(9,sl 1 true (LL.map tM)),(12,I 0),(14,I 0),(18,oA (Y.map tM)),(24,tAV M),(25,tAV M),(154,J ss.length),(155,J i)],⟨Bs,oT (Y.map tM)⟩)):
  ∃x_1 en s,lim (headed pure (run L) true [7,8,9,12,14,18,24,25,154,155] lp13_4 lo hi) env st=some (x_1,en,s)∧(x_1=.exit 6∧en.get 12=I 0∧en.get 14=I 0∧en.get 24=tAV M∧en.get 25=tAV M):=by
 refine z9 (α:=Nat) (fun i=>ss.length-i) (fun i=>i≤ss.length) (fun i=>([(7,J n),(8,sl 1 true (ss.map U)),(9,sl 1 true (LL.map tM)),(12,I 0),(14,I 0),(18,oA (Y.map tM)),(24,tAV M),(25,tAV M),(154,J ss.length),(155,J i)],⟨Bs,oT (Y.map tM)⟩)) (fun i x_1 en s=>x_1=.exit 6∧en.get 12=I 0∧en.get 14=I 0∧en.get 24=tAV M∧en.get 25=tAV M) (fun i hok=> ?_) i hok env st hg
 have hren:=fun T acc=>z8q hhi T acc
 have htk:(oT (Y.map tM)).take hi=oT (Y.map tM):=List.take_of_length_le hhi
 have ptB:Bs.take lo=Bs:=by rw [←hl];exact List.take_length
 have hlU:=z78 U true ss
 by_cases h:i<ss.length
 ·have hs:=ze i (by omega)
  have hlt:((i:Int)<(ss.length:Int))=True:=eT (by omega)
  have hhi0:(oT (Y.map tM)).length≤(oT (Y.map tM)).length:=Nat.le_refl _
  have hren0:=fun T acc=>z8q hhi0 T acc
  have htk0:(oT (Y.map tM)).take (oT (Y.map tM)).length=oT (Y.map tM):=List.take_length
  simp only [go_sem,lp13_4,hlt,hs,hlU,hl]
  generalize hg:lim (headed pure (run L) true _ lp13_3 _ _) _ _=o
  obtain ⟨x,en,s,rfl,h2⟩: ∃x en s,o=some (x,en,s)∧_:=by rw [←hg];exact zly Bs hB lo hl n ss LL Y hss hsl hA hC M _ hhi0 i h 0 (by omega) _ _ (by simp only [go_sem,hl,ptB,hren0,htk0,hB.calm.ok,hB.calm.ren,z3d,List.append_nil,List.map_nil,Int.natCast_zero]<;>rfl)
  clear hg
  obtain ⟨rfl,e7,e8,e9,e12,e14,e18,e24,e25,e154,e155,rfl⟩:=h2
  simp only [go_sem,lp13_4,e7,e8,e9,e12,e14,e18,e24,e25,e154,e155,hs]
  refine ⟨i+1,by simp only [go_sem,z3,z4,z5,e7,e8,e9,e12,e14,e18,e24,e25,e154,hl,ptB,hren,htk,hB.calm.ok,hB.calm.ren,z3d,List.append_nil,List.map_nil]<;>rfl,?_,?_,fun x en s hq=> ?_⟩
  ·omega
  ·omega
  ·exact hq
 ·have hlt:((i:Int)<(ss.length:Int))=False:=eF (by omega)
  simp only [go_sem,lp13_4,hlt]
attribute [local go_sem] m_ x_ l_ k_ o_ t_ a_ s_ q_ b_ c_ u_ g_ zp zb zm zq z3b z25 zd zf zi z8 zh z3e
theorem zkn (a g:Nat)(zs:List Nat)(hz:zs.length=13)(m w w2:Nat):(cutC a g zs m w).set 16 (u16 w2)=cutC a g zs m w2:=by
 unfold cutC
 rw [List.set_cons_succ,List.set_cons_succ,List.set_append_right _ _ (by simp [hz])]
 simp [hz]
theorem ziu (n:Nat): ∀xs:List Value,shVs n (xs.map AV.v)=xs.map AV.v
 | []=>rfl
 |x::r=>by simp only [List.map_cons,shVs,shV,ziu n r]
theorem shV_sl (n z:Nat)(nl:Bool)(xs:List AV):shV n (sl z nl xs)=sl z nl xs:=by
 cases xs with
 |nil=>cases nl<;>rfl
 |cons x r=>rw [zb1 (by simp)];simp only [shV]
theorem zms (n:Nat): ∀X:List Nat,shVs n (X.map tM)=X.map tM
 | []=>rfl
 |x::r=>by
  have h:shV n (tM x)=tM x:=shV_sl n 1 true _
  simp only [List.map_cons,shVs,h,zms n r]
theorem shVs_U (n:Nat)(X:List Nat):shVs n (X.map U)=X.map U:=by
 have:=ziu n (X.map fun (a:Nat)=>Value.int .u64 (a:Int))
 rwa [List.map_map] at this
theorem zmt (n a g:Nat)(zs:List Nat)(m w:Nat):shVs n (cutC a g zs m w)=cutC a g zs m w:=by
 obtain ⟨xs,h⟩:=zid a g zs m w _ (List.mem_singleton.2 rfl)
 rw [h,ziu]
theorem zg6 (l:Nat)(cs:List AV)(a g:Nat)(zs:List Nat)(m w:Nat):frzVs l cs (cutC a g zs m w)=cutC a g zs m w:=by
 obtain ⟨xs,h⟩:=zid a g zs m w _ (List.mem_singleton.2 rfl)
 rw [h,zdx]
theorem zg7 (l:Nat)(cs:List AV)(X:List Nat):frzVs l cs (X.map u8)=X.map u8:=by
 have:=zdx l cs (X.map fun (a:Nat)=>Value.int .u8 (a:Int))
 rwa [List.map_map] at this
theorem zg5 (l:Nat)(cs:List AV): ∀X:List Nat,frzVs l cs (X.map tM)=X.map tM
 | []=>rfl
 |x::r=>by
  have h:frzV l cs (tM x)=tM x:=z8u l cs 1 true _
  simp only [List.map_cons,frzVs,h,zg5 l cs r]
theorem zmz (l:Nat)(X:List Nat)(h:X≠[]):frzV l (X.map tM) (.rsl l 0 X.length X.length 1 false)=sl 1 true (X.map tM):=by
 simp only [frzV,lm_,List.drop_zero]
 rw [if_pos ⟨trivial,by omega,.inr trivial,Nat.le_refl _⟩,pubsM,zcs tM zks,zb1 (by simpa using h)]
theorem zg8 {S:List (List AV)} {l:Nat} {cs:List AV} (h:S[l]? =some cs)(hne:cs≠[])(T:List Nat)(env:Env):frzL l env ⟨S,T⟩=(frzEnv l cs env,⟨(frzStore l cs S).set l [],T⟩):=by
 cases cs with
 |nil=>exact absurd rfl hne
 |cons x r=>simp only [frzL,h]
theorem c13 (a g:Nat)(ha:a<256)(zs:List Nat)(hz:zs.length=13)(hzs: ∀z∈zs,z<256)(m w:Nat)(hm:m<256)(by8:List Nat)(h8:by8.length=8)(hby: ∀b∈by8,b<256)(w2:Nat):
  run L 13 [cutAV a g zs m w,.agg (by8.map u8),u16 w2] ⟨[],[]⟩=some (B true,⟨[],[]⟩):=by
 rw [run_pure (fn:=ir13) rfl rfl]
 have h38:run L 38 [.agg (cutC a g zs m w),I 7] ⟨[],[]⟩=some (.tup [J (2+a % 6),mU (madeS (2+a % 6) g zs (m % 14))],⟨cutC a g zs m w::mS (madeS (2+a % 6) g zs (m % 14)),[]⟩):=c38 a g ha zs hz hzs m w hm 7 6 (.inr (.inl ⟨rfl,rfl⟩))
 have hd:=Nat.mod_lt a (show 0<6 by decide)
 have hmk:=zo7 (n:=2+a % 6) (by omega) g zs (m % 14)
 have hm14:m % 14≤13:=by omega
 generalize hn:2+a % 6=n at*
 have hn2:2≤n∧n≤7:=by omega
 have h2n:2^n≤128:=Nat.le_trans (Nat.pow_le_pow_right (n:=2) (by decide) hn2.2) (by decide)
 obtain ⟨hS,hSl⟩:=hmk
 generalize madeS n g zs (m % 14)=ss at*
 have hun:cutAV a g zs m w=.agg (cutC a g zs m w):=rfl
 have hl17:(cutC a g zs m w).length=17:=lenC a g zs hz m w
 have hl17o:(cutC a g zs m w2).length=17:=lenC a g zs hz m w2
 have htk:(cutC a g zs m w).take 17=cutC a g zs m w:=List.take_of_length_le (by omega)
 have htko:(cutC a g zs m w2).take 17=cutC a g zs m w2:=List.take_of_length_le (by omega)
 have h256: ∀s∈ss,s<256:=fun s h=>Nat.lt_of_lt_of_le (hS.lt s h) (by omega)
 have h39:run L 39 [.agg (cutC a g zs m w),J n,sl 1 true (ss.map U)] ⟨[],[]⟩=some (qU (toldL n w 0 ss),⟨cutC a g zs m w::qS (toldL n w 0 ss),[]⟩):=c39 n (by omega) a g zs hz m w true ss h256 (by omega)
 have h39o:run L 39 [.agg (cutC a g zs m w2),J n,sl 1 true (ss.map U)] ⟨[],[]⟩=some (qU (toldL n w2 0 ss),⟨cutC a g zs m w2::qS (toldL n w2 0 ss),[]⟩):=c39 n (by omega) a g zs hz m w2 true ss h256 (by omega)
 have hgs: ∀s∈ss,s<2^n∧s≠0∧s.testBit 0=false:=fun s h=>⟨hS.lt s h,hS.ne s h,hS.even s h⟩
 have hsm:=zdb (n:=n) (by omega) w 0 ss hS.even
 have hgd:=zaz (n:=n) (by omega) w 0 ss hgs
 have hLl:=zdc n w 0 ss
 have hsmo:=zdb (n:=n) (by omega) w2 0 ss hS.even
 have hgdo:=zaz (n:=n) (by omega) w2 0 ss hgs
 have hLlo:=zdc n w2 0 ss
 generalize toldL n w 0 ss=TL at*
 generalize toldL n w2 0 ss=TO at*
 have hrs:(TO.reverse.map (smlN n))=ss.reverse:=by rw [List.map_reverse,hsmo]
 have h43:=fun st=>c43M n hn2.1 (by omega) true TL hgd (by rw [hsm];exact hS.nd) (by omega) st
 rw [hsm] at h43
 have h43o:=fun st=>c43M n hn2.1 (by omega) true TO.reverse (fun v hv=>hgdo v (List.mem_reverse.1 hv)) (by rw [hrs];exact (List.reverse_perm ss).nodup_iff.2 hS.nd) (by rw [List.length_reverse];omega) st
 rw [hrs,zip h256 (List.reverse_perm ss)] at h43o
 have h51:=fun st=>c51 true ss h256 (by omega) st
 have h23:=fun st=>c23M true true (srt ss) (srt ss) (by rw [zfq h256];omega) st
 rw [decide_eq_true rfl] at h23
 have h18: ∀st,run L 18 [J n,sl 1 true (TL.map tM)] st=some (.tup [tAV (mostW ss),I 0],st):=fun st=>by
  have:=c18w n hn2.1 (by omega) true TL hgd (by rw [hsm];exact hS.nd) (by omega) st
  rwa [hsm] at this
 have h45: ∀i j:Nat,i<ss.length→j<ss.length→∀st,run L 45 [J n,sl 1 true (TL.map tM),J i,J j] st=some (.tup [B (agN (ss.getD i 0) (ss.getD j 0)),I 0],st):=fun i j hi hj st=>by
  have:=c45M n hn2.1 (by omega) true TL hgd (by rw [hsm];exact hS.nd) (by omega) i j (by omega) (by omega) st
  rwa [hsm] at this
 have hmv: ∀P,PermN n P→(∀st,run L 18 [J n,oA ((ss.map (imN P n)).map tM)] st=some (.tup [tAV (mostW ss),I 0],st))∧(∀i j:Nat,i<ss.length→j<ss.length→∀st,run L 45 [J n,oA ((ss.map (imN P n)).map tM),J i,J j] st=some (.tup [B (agN (ss.getD i 0) (ss.getD j 0)),I 0],st)):=by
  intro P hP
  obtain ⟨g1,g2⟩:=hS.im (by omega) hP
  constructor
  ·intro st
   have:=c18w n hn2.1 (by omega) true (ss.map (imN P n)) g1 g2 (by rw [lm_];omega) st
   rw [zo4 (by omega) (by omega) hP hS] at this
   rw [←this]
   exact zgm (fn:=ir18) rfl rfl st (by simp only [pubs,z25,z5h])
  ·intro i j hi hj st
   have:=c45M n hn2.1 (by omega) true (ss.map (imN P n)) g1 g2 (by rw [lm_];omega) i j (by rw [lm_];exact hi) (by rw [lm_];exact hj) st
   rw [ag_im (by omega) (by omega) hP hS i j hi hj] at this
   rw [←this]
   exact zgm (fn:=ir45) rfl rfl st (by simp only [pubs,z25,z5h])
 have hss2: ∀s∈ss,s<2^n∧s≠0:=fun s h=>⟨hS.lt s h,hS.ne s h⟩
 have hp38:pure 38=false:=rfl
 have hp39:pure 39=false:=rfl
 have hp64:pure 64=false:=rfl
 have hs16:=zkn a g zs hz m w w2
 have hmkI: ∀S T,makeAV 1 false [.v (.int .i64 0)] ⟨S,T⟩ (.v (.int .i64 (n:Int))) (.v (.int .i64 (n:Int)))=some (.rsl S.length 0 n n 1 false,⟨S++ [(List.replicate n 0).map J],T⟩):=fun S T=>by
  have:=z3g ⟨S,T⟩ false (n:Int)
  rw [this,if_pos ⟨by omega,by unfold maxGrow;omega⟩]
  simp
 have hlU:=z78 U true ss
 have hlM:lenAV (tAV (mostW ss))=some (J (mostW ss).length):=z78 I true _
 have hok8: ∀k,okRefs k (by8.map u8)=true:=fun k=>z4q k by8
 have hst8:(by8.map u8).all storable=true:=by rw [List.all_map,List.all_eq_true];intro x _;rfl
 have hpb8:=znu by8
 have hrc8: ∀k T acc,renCells k T acc (by8.map u8)=(by8.map u8,acc):=fun k T acc=>z0x k T acc by8
 by_cases he:ss=[]
 ·skip
  have hTL0:TL=[]:=List.length_eq_zero_iff.1 (by rw [hLl,he];rfl)
  have hTO0:TO=[]:=List.length_eq_zero_iff.1 (by rw [hLlo,he];rfl)
  have eU0:sl 1 true (ss.map U)=.v (.slice none 0 0):=by rw [he];rfl
  have eT0:sl 1 true (TL.map tM)=.v (.slice none 0 0):=by rw [hTL0];rfl
  have eR0:sl 1 true (TO.reverse.map tM)=.v (.slice none 0 0):=by rw [hTO0];rfl
  have m1:mU ss=.v (.slice none 0 0):=if_pos he
  have m2:mS ss=[]:=if_pos he
  have m3:qU TL=.v (.slice none 0 0):=if_pos hTL0
  have m4:qS TL=[]:=if_pos hTL0
  have m5:qU TO=.v (.slice none 0 0):=if_pos hTO0
  have m6:qS TO=[]:=if_pos hTO0
  rw [m1,m2] at h38
  rw [m3,m4,eU0] at h39
  rw [m5,m6,eU0] at h39o
  have h43':=h43
  have h51':=h51
  have h18':=h18
  rw [eT0] at h43'
  rw [eR0] at h43o
  rw [eU0] at h51'
  have hlU':=hlU
  rw [eU0] at hlU'
  simp only [eT0] at h18'
  simp only [ir13,hun,go_sem,z39,z0e,zln,z8x,hst8,hpb8,hl17,hl17o,htk,htko,h38,h39,h39o,hp38,hp39,hp64,shStore,shV,shVs,zmt,z8h,frzAV,frzT,frzLs,rslsOf,hs16,c64n,h43',h43o,h51',h23,hmkI,lm_]
  have hB8:Num [cutC a g zs m w2,by8.map u8,cutC a g zs m w,cutC a g zs m w,cutC a g zs m w2]:=by
   intro C hC
   simp only [List.mem_cons,List.not_mem_nil,or_false] at hC
   rcases hC with rfl|rfl|rfl|rfl|rfl
   ·exact zid a g zs m w2 _ (List.mem_singleton.2 rfl)
   ·exact Num.one8 by8 _ (List.mem_singleton.2 rfl)
   ·exact zid a g zs m w _ (List.mem_singleton.2 rfl)
   ·exact zid a g zs m w _ (List.mem_singleton.2 rfl)
   ·exact zid a g zs m w2 _ (List.mem_singleton.2 rfl)
  generalize hg:lim (headed pure (run L) true _ lp13_0 _ _) _ _=o
  obtain ⟨x,en,s,rfl,h2⟩: ∃x en s,o=some (x,en,s)∧_:=by rw [←hg];exact zgy [cutC a g zs m w2,by8.map u8,cutC a g zs m w,cutC a g zs m w,cutC a g zs m w2] hB8 5 rfl by8 h8 hby rfl n (by omega) ss TL 6 rfl 0 [] ⟨by omega,⟨List.Perm.refl _⟩⟩ _ _ (by simp only [go_sem,frzEnv_get,zbu,zaw,z8u,eU0,eT0,z39,z0e,hok8,hrc8,zfy,zbb,List.cons_append,List.nil_append,Nat.sub_zero,Int.natCast_zero]<;>rfl)
  clear hg
  obtain ⟨rfl,e7,e8,e9,e15,eM,P,hP,rfl⟩:=h2
  obtain ⟨hm1,hm2⟩:=hmv P hP
  obtain ⟨Bs,hBs⟩: ∃Bs,[cutC a g zs m w2,by8.map u8,cutC a g zs m w,cutC a g zs m w,cutC a g zs m w2]++ [P.map J]=Bs:=⟨_,rfl⟩
  have hBN:Num Bs:=by
   rw [←hBs]
   exact hB8.app (fun C hC=>⟨P.map fun (x:Nat)=>Value.int .i64 (x:Int),by rw [List.mem_singleton.1 hC,List.map_map];rfl⟩)
  have hBl:Bs.length=6:=by rw [←hBs];rfl
  have hBq:Bs[5]? =some (P.map J):=by rw [←hBs];rfl
  have ptB:Bs.take 6=Bs:=by rw [←hBl];exact List.take_length
  rw [hBs]
  simp only [go_sem,e7,e8,e9,e15,eU0,hlU',hBl]
  have eo:AV.v (.slice none 0 0)=oA (([]:List Nat).map tM):=rfl
  have eo2:oT (([]:List Nat).map tM)=[]:=rfl
  generalize hg:lim (headed pure (run L) true _ lp13_2 _ _) _ _=o
  obtain ⟨x,en,s,rfl,h2⟩: ∃x en s,o=some (x,en,s)∧_:=by rw [←hg];exact zgx Bs hBN 6 5 hBl n (by omega) P hP hBq (by omega) ss hss2 (by omega) TL 0 [] ⟨by omega,rfl⟩ _ _ (by simp only [go_sem,e7,e8,e9,e15,eM,eU0,eT0,eo,eo2,ptB,hBN.refs,hBN.maps,hBN.calm.ok,hBN.calm.ren,Int.natCast_zero,compact,compactW,refsEnv,refsV,refsL,refsStore,refsAt,mapEnv,mapL,mapLs,newName,posOf,mapStore,pickStore,namesOk,zt,z0g,zdi,zg1,List.contains_nil,List.contains_cons,Option.getD_some,hasKey,List.append_nil,List.map_nil]<;>rfl)
  clear hg
  obtain ⟨rfl,f7,f8,f9,f18,rfl⟩:=h2
  generalize hYe:ss.map (imN P n)=Y at*
  have hhi:(oT (Y.map tM)).length≤(oT (Y.map tM)).length:=Nat.le_refl _
  have hren:=fun T acc=>z8q hhi T acc
  have htkT:(oT (Y.map tM)).take (oT (Y.map tM)).length=oT (Y.map tM):=List.take_length
  simp only [go_sem,f7,f8,f9,f18,eT0,eU0,h18',hm1,hlU',hBl]
  generalize hg:lim (headed pure (run L) true _ lp13_4 _ _) _ _=o
  obtain ⟨x,en,s,rfl,h2⟩: ∃x en s,o=some (x,en,s)∧_:=by rw [←hg];exact zgw Bs hBN 6 hBl n ss TL Y h256 (by omega) h45 hm2 (mostW ss) _ hhi 0 (by omega) _ _ (by simp only [go_sem,eU0,eT0,f7,f8,f9,f18,ptB,hren,htkT,hBN.calm.ok,hBN.calm.ren,z3d,List.append_nil,List.map_nil,Int.natCast_zero]<;>rfl)
  clear hg
  obtain ⟨rfl,g12,g14,g24,g25⟩:=h2
  have qq:(((mostW ss).length:Int)=((mostW ss).length:Int))=True:=eT rfl
  simp only [go_sem,g12,g14,g24,g25,hlM,qq,c15]
 ·have hTLn:TL≠[]:=by intro e;rw [e] at hLl;exact he (List.length_eq_zero_iff.1 hLl.symm)
  have hTOn:TO≠[]:=by intro e;rw [e] at hLlo;exact he (List.length_eq_zero_iff.1 hLlo.symm)
  rw [zo8 he,zo9 he] at h38
  rw [zlk hTLn,zll hTLn,hLl] at h39
  rw [zlk hTOn,zll hTOn,hLlo] at h39o
  have hne1:ss.map U≠[]:=by simpa using he
  have hz1: ∀env,frzL 3 env ⟨[cutC a g zs m w,by8.map u8,cutC a g zs m w,ss.map U],[]⟩=(frzEnv 3 (ss.map U) env,⟨[cutC a g zs m w,by8.map u8,cutC a g zs m w,[]],[]⟩):=fun env=>by
   rw [zg8 rfl hne1]
   simp only [frzStore,zg6,zg7,zou,List.set_cons_succ,List.set_cons_zero]
  have hfv1:=zmy 3 ss he
  have hTr:TO.reverse≠[]:=by simpa using hTOn
  have hTrl:TO.reverse.length=ss.length:=by rw [List.length_reverse];exact hLlo
  have hne2:TL.map tM≠[]:=by simpa using hTLn
  have hne3:TO.reverse.map tM≠[]:=by simpa using hTr
  have h64:=c64 [cutC a g zs m w2,by8.map u8,cutC a g zs m w,[],cutC a g zs m w,TL.map tM,cutC a g zs m w2,TO.map tM] [] 7 TO rfl (by omega)
  rw [hLlo] at h64
  simp only [List.set_cons_succ,List.set_cons_zero] at h64
  have hz2: ∀env,frzL 5 env ⟨[cutC a g zs m w2,by8.map u8,cutC a g zs m w,[],cutC a g zs m w,TL.map tM,cutC a g zs m w2,TO.reverse.map tM],[]⟩=(frzEnv 5 (TL.map tM) env,⟨[cutC a g zs m w2,by8.map u8,cutC a g zs m w,[],cutC a g zs m w,[],cutC a g zs m w2,TO.reverse.map tM],[]⟩):=fun env=>by
   rw [zg8 rfl hne2]
   simp only [frzStore,zg6,zg7,zg5,frzVs,List.set_cons_succ,List.set_cons_zero]
  have hz3: ∀env,frzL 7 env ⟨[cutC a g zs m w2,by8.map u8,cutC a g zs m w,[],cutC a g zs m w,[],cutC a g zs m w2,TO.reverse.map tM],[]⟩=(frzEnv 7 (TO.reverse.map tM) env,⟨[cutC a g zs m w2,by8.map u8,cutC a g zs m w,[],cutC a g zs m w,[],cutC a g zs m w2,[]],[]⟩):=fun env=>by
   rw [zg8 rfl hne3]
   simp only [frzStore,zg6,zg7,zg5,frzVs,List.set_cons_succ,List.set_cons_zero]
  have hfv2:=zmz 5 TL hTLn
  have hfv3:=zmz 7 TO.reverse hTr
  rw [hLl] at hfv2
  rw [hTrl] at hfv3
  have hfn:frzV 5 (TL.map tM) (.rsl 7 0 ss.length ss.length 1 false)=.rsl 7 0 ss.length ss.length 1 false:=zkb (by omega) _ _ _ _ _ _
  generalize hTR:TO.reverse=TR at*
  simp only [ir13,hun,go_sem,z39,z0e,zln,z8x,hst8,hpb8,hl17,hl17o,htk,htko,h38,h39,h39o,hp38,hp39,hp64,shStore,shV,shVs,zmt,shVs_U,zms,z8h,frzAV,frzT,frzLs,rslsOf,hz1,hz2,hz3,frzEnv_get,zbu,zaw,z8u,hfv1,hfv2,hfv3,hfn,hs16,h64,h43,h43o,h51,h23,hmkI,lm_]
  have hB8:Num [cutC a g zs m w2,by8.map u8,cutC a g zs m w,[],cutC a g zs m w,[],cutC a g zs m w2,[]]:=by
   intro C hC
   simp only [List.mem_cons,List.not_mem_nil,or_false] at hC
   rcases hC with rfl|rfl|rfl|rfl|rfl|rfl|rfl|rfl
   ·exact zid a g zs m w2 _ (List.mem_singleton.2 rfl)
   ·exact Num.one8 by8 _ (List.mem_singleton.2 rfl)
   ·exact zid a g zs m w _ (List.mem_singleton.2 rfl)
   ·exact ⟨[],rfl⟩
   ·exact zid a g zs m w _ (List.mem_singleton.2 rfl)
   ·exact ⟨[],rfl⟩
   ·exact zid a g zs m w2 _ (List.mem_singleton.2 rfl)
   ·exact ⟨[],rfl⟩
  generalize hg:lim (headed pure (run L) true _ lp13_0 _ _) _ _=o
  obtain ⟨x,en,s,rfl,h2⟩: ∃x en s,o=some (x,en,s)∧_:=by rw [←hg];exact zgy [cutC a g zs m w2,by8.map u8,cutC a g zs m w,[],cutC a g zs m w,[],cutC a g zs m w2,[]] hB8 8 rfl by8 h8 hby rfl n (by omega) ss TL 9 rfl 0 [] ⟨by omega,⟨List.Perm.refl _⟩⟩ _ _ (by simp only [go_sem,frzEnv_get,zbu,zaw,z8u,hfv1,hfv2,hfv3,z39,z0e,hok8,hrc8,zfy,zbb,List.cons_append,List.nil_append,Nat.sub_zero,Int.natCast_zero]<;>rfl)
  clear hg
  obtain ⟨rfl,e7,e8,e9,e15,eM,P,hP,rfl⟩:=h2
  obtain ⟨hm1,hm2⟩:=hmv P hP
  obtain ⟨Bs,hBs⟩: ∃Bs,[cutC a g zs m w2,by8.map u8,cutC a g zs m w,[],cutC a g zs m w,[],cutC a g zs m w2,[]]++ [P.map J]=Bs:=⟨_,rfl⟩
  have hBN:Num Bs:=by
   rw [←hBs]
   exact hB8.app (fun C hC=>⟨P.map fun (x:Nat)=>Value.int .i64 (x:Int),by rw [List.mem_singleton.1 hC,List.map_map];rfl⟩)
  have hBl:Bs.length=9:=by rw [←hBs];rfl
  have hBq:Bs[8]? =some (P.map J):=by rw [←hBs];rfl
  have ptB:Bs.take 9=Bs:=by rw [←hBl];exact List.take_length
  rw [hBs]
  simp only [go_sem,e7,e8,e9,e15,hlU,hBl]
  have eo:AV.v (.slice none 0 0)=oA (([]:List Nat).map tM):=rfl
  have eo2:oT (([]:List Nat).map tM)=[]:=rfl
  generalize hg:lim (headed pure (run L) true _ lp13_2 _ _) _ _=o
  obtain ⟨x,en,s,rfl,h2⟩: ∃x en s,o=some (x,en,s)∧_:=by rw [←hg];exact zgx Bs hBN 9 8 hBl n (by omega) P hP hBq (by omega) ss hss2 (by omega) TL 0 [] ⟨by omega,rfl⟩ _ _ (by simp only [go_sem,e7,e8,e9,e15,eM,eo,eo2,ptB,hBN.refs,hBN.maps,hBN.calm.ok,hBN.calm.ren,Int.natCast_zero,compact,compactW,refsEnv,refsV,refsL,refsStore,refsAt,mapEnv,mapL,mapLs,newName,posOf,mapStore,pickStore,namesOk,zt,z0g,zdi,zg1,List.contains_nil,List.contains_cons,Option.getD_some,hasKey,List.append_nil,List.map_nil]<;>rfl)
  clear hg
  obtain ⟨rfl,f7,f8,f9,f18,rfl⟩:=h2
  generalize hYe:ss.map (imN P n)=Y at*
  have hhi:(oT (Y.map tM)).length≤(oT (Y.map tM)).length:=Nat.le_refl _
  have hren:=fun T acc=>z8q hhi T acc
  have htkT:(oT (Y.map tM)).take (oT (Y.map tM)).length=oT (Y.map tM):=List.take_length
  simp only [go_sem,f7,f8,f9,f18,h18,hm1,hlU,hBl]
  generalize hg:lim (headed pure (run L) true _ lp13_4 _ _) _ _=o
  obtain ⟨x,en,s,rfl,h2⟩: ∃x en s,o=some (x,en,s)∧_:=by rw [←hg];exact zgw Bs hBN 9 hBl n ss TL Y h256 (by omega) h45 hm2 (mostW ss) _ hhi 0 (by omega) _ _ (by simp only [go_sem,f7,f8,f9,f18,ptB,hren,htkT,hBN.calm.ok,hBN.calm.ren,z3d,List.append_nil,List.map_nil,Int.natCast_zero]<;>rfl)
  clear hg
  obtain ⟨rfl,g12,g14,g24,g25⟩:=h2
  have qq:(((mostW ss).length:Int)=((mostW ss).length:Int))=True:=eT rfl
  simp only [go_sem,g12,g14,g24,g25,hlM,qq,c15]
end Go.Proofs.YtdnmhlfjafjkbaaGreatDoor.Vm
