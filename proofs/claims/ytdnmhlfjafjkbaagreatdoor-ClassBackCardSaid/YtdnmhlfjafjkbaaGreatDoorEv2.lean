/- What is proved: that whole functions and calls of the evaluator do what the model says. It holds for every program of the model. -/
import Derived.Test.YtdnmhlfjafjkbaaGreatDoorEv1
import Derived.Below
import Derived.Scope
import Derived.ProofKit
import Derived.OpenShut
import Derived.Carry
import Derived.Laws.AppendOwn
import Derived.OwnWalkIn
set_option linter.all false
namespace Go.Ev
open Go
def usesS (k:IK):Bool:=(uses k).testBit 0
def usesT (k:IK):Bool:=(uses k).testBit 1
def turnsS (k:IK):Bool:=(turns k).testBit 0
def turnsT (k:IK):Bool:=(turns k).testBit 1
structure Compat (k:IK) (st st' S S':St) (K:Kx):Prop where
 s1:turnsS k=true→S.store=st.store∧S'.store=st'.store
 s2:turnsS k=false→S'.store=S.store
 s3:turnsS k=false→usesS k=true→∃rest,S.store=st'.store++rest
 t1:turnsT k=true→S.tips=st.tips∧S'.tips=st'.tips
 t2:turnsT k=false→S'.tips=S.tips
 t3:turnsT k=false→usesT k=true→∃rest,S.tips=st'.tips++rest
 freeL: ∀l,st.store.length≤l→l<st'.store.length→K.lm l=none
 freeT: ∀t,st.tips.length≤t→t<st'.tips.length→K.tk t=none
theorem St.ext' {S S':St} (h:S'.store=S.store)(h':S'.tips=S.tips):S'=S:=by cases S;cases S';simp_all
def GlobOk (G:Nat→List Nat) (us:Us) (w:World):Prop:=∀g,G g≠[]→Rel us w .nil (.eptr (bytesAV (G g)) 0) (.pointer (some ⟨g,0,none⟩))
theorem GlobOk.mono {G us w us' w'} (h:GlobOk G us w)(hu:UsLe us w us' w'):GlobOk G us' w':=fun g hg=>(h g hg).mono hu (.nil _ _ _ _ _)
def CallOk (P:Program) (G:Nat→List Nat) (pure:FuncId→Bool) (call:CallF):Prop:=
 ∀f args st r st',call f args st=some (r,st')→∀us w K S S' (vs:Array Value),Good us w K S→GlobOk G us w→
  (if pure f=true then st'.store=st.store∧S'=S∧(∃rest,S.tips=st'.tips++rest)∧(∀t,st.tips.length≤t→t<st'.tips.length→K.tk t=none) else S=st∧S'=st')→
  Rels us w K args vs.toList→
  (∃ fn, P.funcs[f]? = some fn ∧ fn.body.isSome = true ∧ fn.name ≠ "runtime.NumGoroutine") ∧
  Calls P f vs w fun e w'=> ∃x us' K',e=.returned x∧Rel us' w' K' r x∧Ext us w K us' w' K'∧Good us' w' K' S'∧Fresh st st' K K'∧(pure f=true→∀c,c<w.heap.size→w'.heap[c]? =w.heap[c]?)
section
variable {us:Us} {w w':World} {K:Kx} {st:St}
theorem z9z (hG:Good us w K st)(hb:RowKit.Below w.heap.size w w'):UsLe us w us w':=fun c n hc=>
 ⟨n,hc,Nat.le_refl _,fun i _=>hb.cell (p:=⟨c,i,none⟩) (hG.uslt c n hc)⟩
theorem za4 (hb:RowKit.Below w.heap.size w w') {c n:Nat} (h:SizeAt w c n):SizeAt w' c n:=by
 obtain ⟨cur,ty,h1,h2⟩:=h
 exact ⟨cur,ty,(hb.block c (Array.getElem?_eq_some_iff.1 h1).1).trans h1,h2⟩
theorem zbz (hG:Good us w K st)(hb:RowKit.Below w.heap.size w w')(K':Kx)(hT:K'.T=K.T)(htk:K'.tk=K.tk)(hlm: ∀l c,K.lm l=some c→K'.lm l=some c):KLe us w K us w' K':=
 ⟨fun l c h=>⟨hlm l c h,fun _ h=>za4 hb h⟩,fun t m hm=>⟨m,by rw [hT];exact hm,Nat.le_refl _,fun _ c hc=>⟨by rw [htk];exact hc,rfl,fun _ h=>za4 hb h⟩⟩⟩
theorem zc8 (hG:Good us w K st)(hb:RowKit.Below w.heap.size w w')(K':Kx)(hT:K'.T=K.T)(htk:K'.tk=K.tk)(hlm: ∀l c,K.lm l=some c→K'.lm l=some c)(hnew: ∀l c,K'.lm l=some c→(∃l0,K.lm l0=some c)∨w.heap.size≤c):Ext us w K us w' K' where
 os:=hb.os
 tape:=hb.tape
 output:=hb.output
 size:=hb.size
 sz:=fun _ _ h=>za4 hb h
 usle:=z9z hG hb
 kle:=zbz hG hb K' hT htk hlm
 frame:=fun c hc _ _=>⟨hb.block c hc,rfl⟩
 usNone:=fun _ _ h _=>h
 lmNew:=hnew
 tkNew:=fun t c h=> .inl (by rw [←htk];exact h)
theorem zda (hG:Good us w K st)(hb:RowKit.Below w.heap.size w w'):Good us w' K st:=
 ⟨hG.T,hG.lmlt,fun l c cs h hs=>(hG.blk l c cs h hs).mono (z9z hG hb) (zbz hG hb K rfl rfl (fun _ _ h=>h)) (hb.block c (hG.lmltH h)),hG.inj,hG.tkinj,hG.tklt,hG.tkus,fun c n h=>Nat.lt_of_lt_of_le (hG.uslt c n h) hb.size,hG.disj,hG.lmtk⟩
theorem zhy {us1:Us} {w1 w2:World} {K1:Kx} {r:AV} {x:Value} (hp:plainR r=true)(h:Rel us1 w1 K1 r x):Rel us w2 K r x:=by
 cases h with
 |v K x h=>exact .v _ _ h
 |tup K cs vs hl hr=>
  refine .tup _ _ _ hl (fun i h h'=> ?_)
  have h1:=hr i h h'
  have h2:=(List.all_eq_true.1 hp) cs[i] (List.getElem_mem h)
  generalize cs[i]=c at*
  cases c<;>simp only [Bool.false_eq_true] at h2
  cases h1 with
  |v K x h=>exact .v _ _ h
 |_=>simp [plainR] at hp
end
section
variable {P:Program} {G:Nat→List Nat} {pure:FuncId→Bool} {call:CallF} {us:Us} {w:World} {K:Kx} {st st' S S':St}
variable {o:Oper} {env:Env} {a:Act} {r:AV}
theorem ze4 {k : IK} (hk : isVal k = true) (h : opAV pure call env st k = some (r, st')) : valAV env k = some r ∧ st' = st := by
  cases k <;> simp only [isVal, Bool.false_eq_true] at hk <;> simp only [opAV, only] at h <;>
    (split at h
     · rename_i x hx; simp only [sI_, Prod.mk.injEq] at h; obtain ⟨rfl, rfl⟩ := h; exact ⟨hx, rfl⟩
     · simp at h)
theorem zin {k:IK} (hk:isVal k=true):turns k=0∧uses k=0:=by cases k<;>simp_all [isVal,turns,uses]
theorem zmq {k:IK} (hk:isVal k=true)(hcp:Compat k st st' S S' K)(h:RunsTo P (execOp a.eval o) us w K S r):Goes P o a us w K r st st' S':=by
 have hc:=zin hk
 have e1:=hcp.s2 (by simp [turnsS,hc.1])
 have e2:=hcp.t2 (by simp [turnsT,hc.1])
 rw [St.ext' e1 e2]
 exact h.goes
theorem zl9 {pv rs:Bool} {mt:Mode} {k:IK} (hgl:GlobOk mt.2.2.2 us w)(hc:compOp P pure pv rs mt o.op=some k)(hk:isVal k=true)(hE:EnvRel us w K env a)(hG:Good us w K S)(hv:valAV env k=some r):RunsTo P (execOp a.eval o) us w K S r:=by
 cases hop:o.op<;>simp only [hop,compOp,reduceCtorEq] at hc
 case panic x=>simp only [sI_] at hc;subst hc;simp [valAV] at hv
 case move x=>simp only [sI_] at hc;subst hc;simp only [valAV,sI_] at hv;subst hv;exact zj5 (.inl hop) hE hG
 case assign x=>simp only [sI_] at hc;subst hc;simp only [valAV,sI_] at hv;subst hv;exact zj5 (.inr hop) hE hG
 case pick x y z=>simp only [sI_] at hc;subst hc;exact zny hop hE hG hv
 case alloc t=>
  cases hz:zeroT P t with
  |none=>simp [hz] at hc
  |some z=>simp only [hz,Option.bind_some] at hc;split at hc<;>simp at hc;subst hc;simp [isVal] at hk
 case box t x=>simp only [sI_] at hc;subst hc;simp [isVal] at hk
 case build t ps=>
  split at hc
  ·rename_i zero fs hz ht
   split at hc
   ·next hzp=>
    split at hc
    ·next hall=>
     cases hps:(ps.toList.mapM fun (p:Nat×Operand)=>(fs[p.1]?).bind fun (f:Field)=>(sizeT P f.type).map fun s=>(f.offset,s,p.2)) with
     |none=>simp [hps] at hc
     |some ps'=>
      simp only [hps,Option.map_some,sI_] at hc
      subst hc
      exact zbf hop hz hzp ht hall hps hE hG hv
    ·simp at hc
   ·simp at hc
  ·rename_i zero n e hz ht
   split at hc
   ·next hzp=>
    cases hs:sizeT P e with
    |none=>simp [hs] at hc
    |some s=>
     simp only [hs,Option.map_some,sI_] at hc
     subst hc
     exact zco hop hz hzp ht hs hE hG hv
   ·simp at hc
  ·simp at hc
 case buildSlice t n ps=>
  split at hc
  ·rename_i e ht
   split at hc
   ·rename_i z ag zero hz hag hzero
    split at hc
    ·next hcond=>
     simp only [Bool.and_eq_true,decide_eq_true_eq] at hcond
     split at hc
     ·simp only [sI_] at hc
      subst hc
      simp [isVal] at hk
     ·simp only [sI_] at hc
      subst hc
      exact rt_lit hop ht hz hzero hcond.1.1 hcond.1.2 hE hG hv
    ·simp at hc
   ·simp at hc
  ·simp at hc
 case load t x=>
  split at hc<;>simp at hc
  subst hc;simp [isVal] at hk
 case store t x y=>
  cases hs:sizeT P t with
  |none=>simp [hs] at hc
  |some s=>simp only [hs,Option.bind_some] at hc;split at hc<;>simp at hc;subst hc;simp [isVal] at hk
 case nilCheck x=>simp only [sI_] at hc;subst hc;exact rt_nil hop hE hG hv
 case binOp op t x y ty=>simp only [sI_] at hc;subst hc;exact rt_bin hop hE hG hv
 case unOp op t x=>
  cases op<;>simp only [compOp,sI_,reduceCtorEq] at hc<;>subst hc
  ·exact rt_neg hop hE hG hv
  ·exact zll hop hE hG hv
  ·exact rt_not hop hE hG hv
 case convert s d x=>
  split at hc
  ·rename_i sd k' hs hd
   simp only [sI_] at hc;subst hc
   exact zo6 hop hs hd hE hG hv
  ·simp at hc
 case makeInterface t x=>
  split at hc
  ·simp at hc
  ·rename_i d hni hd
   simp only [sI_] at hc;subst hc
   simp only [valAV,sI_] at hv;subst hv
   exact zlj hop hd (fun ms h=>hni ms h) hE hG
  ·simp at hc
 case makeFunc f x y=>simp only [sI_] at hc;subst hc;simp only [valAV,sI_] at hv;subst hv;exact zo4 hop hE hG
 case makeSlice t l c=>
  split at hc
  ·split at hc
   ·split at hc<;>simp at hc
    subst hc;simp [isVal] at hk
   ·simp at hc
  ·simp at hc
 case slice t x lo hi mx=>
  split at hc
  ·rename_i e ht
   cases hz:sizeT P e with
   |none=>simp [hz] at hc
   |some z=>simp only [hz,Option.map_some,sI_] at hc;subst hc;exact zli hop ht hz hE hG hv
  ·rename_i n e ht
   split at hc
   ·rename_i z ag hz hag
    simp only [sI_] at hc;subst hc
    exact zj4 hop ht hz hE hG hv
   ·simp at hc
  ·simp at hc
 case fieldAddr t x f=>
  split at hc
  ·rename_i fs ht
   split at hc
   ·rename_i fd hf
    split at hc
    ·next hs=>simp only [sI_] at hc;subst hc;exact zev hop ht hf hs hE hG hv
    ·simp at hc
   ·simp at hc
  ·simp at hc
 case field t x f=>
  split at hc
  ·rename_i fs ht
   split at hc
   ·rename_i fd hf
    split at hc
    ·rename_i s ag hs hag
     simp only [sI_] at hc;subst hc;exact zlk hop ht hf hs hag hE hG hv
    ·simp at hc
   ·simp at hc
  ·simp at hc
 case indexAddr t x i=>
  split at hc
  ·rename_i e ht
   cases hz:sizeT P e with
   |none=>simp [hz] at hc
   |some z=>simp only [hz,Option.map_some,sI_] at hc;subst hc;exact zj7 hop ht hz hE hG hv
  ·rename_i n e ht
   cases hz:sizeT P e with
   |none=>split at hc<;>simp [hz] at hc
   |some z=>
    split at hc
    ·rename_i g
     simp only [hz,Option.bind_some] at hc
     split at hc
     ·next hg=>
      simp only [sI_] at hc;subst hc
      exact zj8 hop ht hz hE hG (hgl g hg) hv
     ·simp at hc
    ·simp only [hz,Option.map_some,sI_] at hc;subst hc;exact zj9 hop ht hz hE hG hv
  ·simp at hc
 case index t x i=>
  split at hc
  ·rename_i n e ht
   split at hc
   ·rename_i z ag hz hag
    simp only [sI_] at hc;subst hc;exact zj6 hop ht hz hag hE hG hv
   ·simp at hc
  ·rename_i ht
   simp only [sI_] at hc;subst hc;exact zg8 hop ht hE hG hv
  ·simp at hc
 case typeAssert x xt t ok=>
  split at hc
  ·simp at hc
  ·rename_i d hni hd
   cases hz:zeroT P t with
   |none=>simp [hz] at hc
   |some z=>simp only [hz,Option.map_some,sI_] at hc;subst hc;exact zja hop hd (fun ms h=>hni ms h) hz hE hG hv
  ·simp at hc
 case extract x i=>simp only [sI_] at hc;subst hc;exact zhs hop hE hG hv
 case call c=>
  split at hc
  ·rename_i x hb ha
   split at hc
   ·rename_i e ht
    simp only [sI_] at hc;subst hc;exact rt_len (t:=0) hop hb ha ht hE hG hv rfl
   ·simp at hc
  ·rename_i x hb ha
   split at hc
   ·rename_i e ht
    simp only [sI_] at hc;subst hc;exact rt_cap hop hb ha ht hE hG hv
   ·simp at hc
  ·split at hc
   ·split at hc
    ·split at hc<;>simp at hc
     subst hc;simp [isVal] at hk
    ·simp at hc
   ·simp at hc
  ·split at hc
   ·rename_i e ht
    cases hz:sizeT P e with
    |none=>simp [hz] at hc
    |some z=>
     simp only [hz,Option.bind_some] at hc
     split at hc<;>simp at hc
     subst hc;simp [isVal] at hk
   ·simp at hc
  ·simp only [sI_] at hc;subst hc;simp [isVal] at hk
  ·rename_i x y hb ha
   simp only [sI_] at hc;subst hc;exact rt_min hop hb ha hE hG hv
  ·rename_i x y hb ha
   simp only [sI_] at hc;subst hc;exact rt_max hop hb ha hE hG hv
  ·rename_i x y z hb ha
   simp only [sI_] at hc;subst hc;exact znz hop hb ha hE hG hv
  ·split at hc
   ·split at hc
    ·split at hc<;>simp at hc
     subst hc;cases h:mt.1<;>simp [isVal,h] at hk
    ·split at hc
     ·simp only [sI_] at hc;subst hc;simp [isVal] at hk
     ·simp at hc
    ·simp at hc
   ·simp at hc
  ·rename_i f hf
   simp only [sI_] at hc;subst hc;cases h:mt.2.1.contains f<;>cases h3:mt.2.1.contains (f+1000000)<;>cases h4:mt.2.1.contains (f+2000000)<;>cases h2:pure f<;>simp only [h,h2,h3,h4,if_true,Bool.false_eq_true,if_false,Bool.and_true,Bool.and_false,Bool.true_and,Bool.false_and,Bool.not_true,Bool.not_false,isVal] at hk
  ·simp only [sI_] at hc;subst hc;simp [isVal] at hk
  ·simp at hc
theorem zc5 {f:FuncId} {args:List AV} {vs:Array Value} (hcall:CallOk P G pure call)(hv:call f args st=some (r,st'))(hG:Good us w K S)(hgl:GlobOk G us w)
  (hcp:if pure f=true then st'.store=st.store∧S'=S∧(∃rest,S.tips=st'.tips++rest)∧(∀t,st.tips.length≤t→t<st'.tips.length→K.tk t=none) else S=st∧S'=st')
  (hr : Rels us w K args vs.toList) (hrun : (∃ fn, P.funcs[f]? = some fn ∧ fn.body.isSome = true ∧ fn.name ≠ "runtime.NumGoroutine") → (execOp a.eval o).run P w = .ok (.enter f vs) w) : Goes P o a us w K r st st' S' := by
 obtain ⟨hfn,hc⟩:=hcall f args st r st' hv us w K S S' vs hG hgl hcp hr
 intro next Q hn
 unfold Oper.wp
 rw [hrun hfn]
 refine hc.mono fun e w' h=> ?_
 obtain ⟨x,us',K',rfl,h1,h2,h3,h4,_⟩:=h
 exact hn x us' w' K' h1 h2 h3 h4
theorem z2f {f : FuncId} {vs : Array Value} (h : ∃ fn, P.funcs[f]? = some fn ∧ fn.body.isSome = true ∧ fn.name ≠ "runtime.NumGoroutine") : (callFunc f vs).run P w = .ok (.enter f vs) w := by
 obtain ⟨fn,h1,h2,h3⟩:=h
 obtain ⟨b,hb⟩:=Option.isSome_iff_exists.1 h2
 simp [callFunc,h1,h3,hb]
theorem zic {f:FuncId} {ls:List Nat} {as:List AV} {vs:Array Value} {st2:St} (hcall:CallOk P G pure call)(hcs: ∀f args st r st',call f args st=some (r,st')→pure f=true→st'.store=st.store)(hv:call f (frzArgs ls as st).1 (frzArgs ls as st).2=some (r,st2))(hp:pure f=true)(htip:st2.tips=(frzArgs ls as st).2.tips)(hG:Good us w K st)(hgl:GlobOk G us w)
  (hr : Rels us w K as vs.toList) (hrun : (∃ fn, P.funcs[f]? = some fn ∧ fn.body.isSome = true ∧ fn.name ≠ "runtime.NumGoroutine") → (execOp a.eval o).run P w = .ok (.enter f vs) w) : Goes P o a us w K r st (frzArgs ls as st).2 (frzArgs ls as st).2 := by
 obtain ⟨us1,h1,h2,h3,h4,h5⟩:=z83 ls hG hr
 have hst:=hcs f _ _ _ _ hv hp
 obtain ⟨hfn,hc⟩:=hcall f _ _ r st2 hv us1 w K _ _ vs h1 (hgl.mono h3.usle) (by rw [if_pos hp];exact ⟨hst,rfl,⟨[],by rw [htip];simp⟩,fun t h h'=>by rw [htip] at h';omega⟩) h2
 intro next Q hn
 unfold Oper.wp
 rw [hrun hfn]
 refine hc.mono fun e w' h=> ?_
 obtain ⟨x,us',K',rfl,k1,k2,k3,k4,_⟩:=h
 refine hn x us' w' K' k1 (h3.trans k2) k3 ⟨fun l c h=> ?_,fun t h=> ?_⟩
 ·rcases k4.lm l c h with e|e
  ·exact .inl e
  ·rw [hst] at e;omega
 ·rcases k4.tk t h with e|e
  ·exact .inl e
  ·rw [htip] at e;omega
theorem zid {f:FuncId} {ls:List Nat} {as:List AV} {vs:Array Value} {st2:St} (hcall:CallOk P G pure call)(hcs: ∀f args st r st',call f args st=some (r,st')→pure f=true→st'.store=st.store)(hv:call f (frzArgs ls as st).1 (frzArgs ls as st).2=some (r,st2))(hp:pure f=true)(htip:st2.tips=(frzArgs ls as st).2.tips)(hpl:plainR r=true)(hG:Good us w K st)(hgl:GlobOk G us w)
  (hr : Rels us w K as vs.toList) (hrun : (∃ fn, P.funcs[f]? = some fn ∧ fn.body.isSome = true ∧ fn.name ≠ "runtime.NumGoroutine") → (execOp a.eval o).run P w = .ok (.enter f vs) w) : Goes P o a us w K r st st st := by
 obtain ⟨us1,h1,h2,h3,h4,h5⟩:=z83 ls hG hr
 have hst:=hcs f _ _ _ _ hv hp
 obtain ⟨hfn,hc⟩:=hcall f _ _ r st2 hv us1 w K _ _ vs h1 (hgl.mono h3.usle) (by rw [if_pos hp];exact ⟨hst,rfl,⟨[],by rw [htip];simp⟩,fun t h h'=>by rw [htip] at h';omega⟩) h2
 intro next Q hn
 unfold Oper.wp
 rw [hrun hfn]
 refine hc.mono fun e w' h=> ?_
 obtain ⟨x,us',K',rfl,k1,k2,k3,k4,k5⟩:=h
 have hb:RowKit.Below w.heap.size w w':=⟨k2.os,k2.tape,k2.output,k2.size,fun c hc=>k5 hp c hc⟩
 exact hn x us w' K (zhy hpl k1) (zc8 hG hb K rfl rfl (fun _ _ h=>h) (fun l c h=> .inl ⟨l,h⟩)) (zda hG hb) ⟨fun _ _ h=> .inl h,fun _ h=> .inl h⟩
theorem zfk {t:TypeId} {f:FuncId}: ∀{tab:List (TypeId×FuncId)},findT t tab=some f→(t,f)∈tab
 | [],h=>by simp [findT] at h
 |(u,g)::r,h=>by
  simp only [findT] at h
  split at h
  ·next e=>subst e;simp only [sI_] at h;subst h;simp
  ·exact List.mem_cons_of_mem _ (zfk h)
theorem zi8 {c:Call} {x:Operand} {name:String} {t:TypeId} {v:Value} {f:FuncId} (ho:o.op=.call c)(hc:c.callee=.invoke x name)(hx:a.eval x=.iface t v)(hm:findT t (invokeTab P name)=some f)
  (hfn : ∃ fn, P.funcs[f]? = some fn ∧ fn.body.isSome = true ∧ fn.name ≠ "runtime.NumGoroutine") : (execOp a.eval o).run P w = .ok (.enter f (#[v] ++ c.args.map a.eval)) w := by
 have h1:=zfk hm
 unfold invokeTab at h1
 obtain ⟨u,_,h2⟩:=List.mem_filterMap.1 h1
 obtain ⟨g,h3,h4⟩:=Option.map_eq_some_iff.1 h2
 simp only [Prod.mk.injEq] at h4
 obtain ⟨rfl,rfl⟩:=h4
 unfold methodOf? at h3
 split at h3
 ·rename_i d i hu hi
  split at h3
  ·rename_i m hfind
   split at h3
   ·next hpath=>
    split at h3
    ·rename_i g' hf
     simp only [sI_] at h3;subst h3
     have hp:m.path= #[]:=by simpa using hpath
     have hmeth: ∀n,(method (n+1) u v name).run P w=.ok (g',v) w:=by
      intro n
      simp only [method,typeInfo]
      simp [hi,hfind,hp,follow,hf,receiverAt,run_underlying hu,Place.get]
     have hfuel: ∃n,P.types.size+Made.depth=n+1:=⟨P.types.size+99,rfl⟩
     obtain ⟨n,hfuel⟩:=hfuel
     have he:(#[Value.iface u v]++c.args.map a.eval).extract 1 (#[Value.iface u v]++c.args.map a.eval).size=c.args.map a.eval:=by
      apply Array.ext'
      simp [List.take_of_length_le]
     have h0:(#[Value.iface u v]++c.args.map a.eval)[0]? =some (Value.iface u v):=by
      rw [Array.getElem?_append_left (by simp)];rfl
     have hcm:(callMethod (.iface u v) name (c.args.map a.eval)).run P w=.ok (.enter g' (#[v]++c.args.map a.eval)) w:=by
      simp [callMethod,hfuel,hmeth,z2f hfn]
     have hin:(invoke (.fn (.method name) #[]) (#[Value.iface u v]++c.args.map a.eval)).run P w=.ok (.enter g' (#[v]++c.args.map a.eval)) w:=by
      simp only [invoke,h0,he]
      exact hcm
     simp only [execOp,ho,resolve,hc,hx]
     simp [hin]
    ·simp at h3
   ·simp at h3
  ·simp at h3
 ·simp at h3
theorem zov {w1:World} {us1:Us} {K1:Kx} {st1:St} {r1:AV} {x:Value} (hX:Ext us w .nil us1 w1 K1)(hG:Good us1 w1 K1 st1)(hr:Rel us1 w1 K1 r1 x):
  ∃us2 K2,Ext us w .nil us2 w1 K2∧Good us2 w1 K2 (lockR st1 r1).2∧Rel us2 w1 K2 (lockR st1 r1).1 x:=by
 unfold lockR
 split
 ·rename_i l n c z a
  split
  ·rename_i y cs hs
   split
   ·next hc=>
    obtain ⟨h1,h2,rfl⟩:=hc
    obtain ⟨b,cap,hl,rfl,hcap⟩:=hr.rsl_inv
    obtain ⟨cur,ty,g1,g0,g2,g3⟩:=hG.blk l b _ hl hs
    have hlive:=hG.live hl hs (by simp)
    generalize y::cs=ds at*
    have hnew:w.heap.size≤b:=by
     rcases hX.lmNew l b hl with ⟨_,h⟩ |h
     ·simp [Kx.nil] at h
     ·exact h
    have hle:=Caps.le hcap
    have hsz:cap*z≤cur.size:=by
     rcases hcap with e| ⟨_,m,⟨cur',ty',e1,e2⟩,h⟩
     ·subst e;omega
     ·rw [g1] at e1
      simp only [sI_,Obj.cells.injEq] at e1
      obtain ⟨rfl,_⟩:=e1
      omega
    have hb2:(us1.new b (n*z)) b=some (n*z):=by simp [Us.new]
    have hne: ∀c,c≠b→(us1.new b (n*z)) c=us1 c:=fun c h=>by simp [Us.new,h]
    have hu2: ∀c m,us1 c=some m→(us1.new b (n*z)) c=some m:=fun c m h=>by
     have:c≠b:=by rintro rfl;rw [hlive] at h;simp at h
     rw [hne c this];exact h
    generalize us1.new b (n*z)=us2 at*
    have hule:UsLe us1 w1 us2 w1:=fun c m h=>⟨m,hu2 c m h,Nat.le_refl _,fun _ _=>rfl⟩
    have hblt:b<w1.heap.size:=(Array.getElem?_eq_some_iff.1 g1).1
    have htk: ∀t c,(if t=0 then some b else none:Option Nat)=some c→t=0∧c=b:=fun t c h=>by
     split at h
     ·next e=>simp only [sI_] at h;exact ⟨e,h.symm⟩
     ·simp at h
    refine ⟨us2,⟨fun _=>none,fun t=>if t=0 then some b else none,[n]⟩,⟨hX.os,hX.tape,hX.output,hX.size,hX.sz,hX.usle.trans hule,.nil _ _ _ _ _,fun c hc h4 h5=> ?_,fun c hc h4 h5=> ?_,fun l c h=>by simp at h,fun t c h=> ?_⟩,
     ⟨rfl,fun l c h=>by simp at h,fun l c _ h=>by simp at h,fun l l' c h=>by simp at h,fun t t' c h h'=> ?_,fun t c h=> ?_,fun t c h=> ?_,fun c m h=> ?_,fun l c h=>by simp at h,fun l t c h=>by simp at h⟩,?_⟩
    ·exact ⟨(hX.frame c hc h4 h5).1,(hne c (by omega)).trans (hX.frame c hc h4 h5).2⟩
    ·exact (hne c (by omega)).trans (hX.usNone c hc h4 h5)
    ·rw [(htk t c h).2];exact .inr hnew
    ·rw [(htk t c h).1,(htk t' c h').1]
    ·rw [(htk t c h).1];simp
    ·rw [(htk t c h).2];exact ⟨_,hb2⟩
    ·by_cases e:c=b
     ·rw [e];exact hblt
     ·rw [hne c e] at h;exact hG.uslt c m h
    ·have hr2:=(g2.pubs).mono hule (KLe.nil _ _ _ _ .nil)
     obtain ⟨q1,q2⟩:=z74 a z n (pubs ds) (cur.toList.take ds.length) h2 (by rw [z2a];exact h1) hr2
     have hn:(group a z n (pubs ds)).length=n:=z53 _ _ _ _
     have hvl:((cur.toList.take ds.length).take (n*z)).length=n*z:=by simp;omega
     have:=Rel.lst (us:=us2) (w:=w1) ⟨fun _=>none,fun t=>if t=0 then some b else none,[n]⟩ (.own 0 n) z (group a z n (pubs ds)) b 0 (n*z) cap ((cur.toList.take ds.length).take (n*z))
      hb2 (by rw [hvl];omega) (fun i hi=>by
       have hi':i<(cur.toList.take ds.length).length:=by rw [hvl] at hi;simp;omega
       have:=z41 g1 ds.length i hi'
       rw [this]
       simp) (fun x hx=>g3 x (List.mem_of_mem_take (List.mem_of_mem_take hx))) q2 (by rw [hn];exact hle) q1.len q1.rel ⟨n,rfl,Nat.le_refl _,fun _=>⟨rfl,rfl,by rw [hn];exact hb2,by rw [hn];exact hle,cur,ty,g1,hsz⟩⟩
     rw [hn] at this
     exact this
   ·exact ⟨us1,K1,hX,hG,hr⟩
  ·exact ⟨us1,K1,hX,hG,hr⟩
 ·exact ⟨us1,K1,hX,hG,hr⟩
theorem zdb {f:FuncId} {args:List AV} {vs:Array Value} {r0 r1:AV} {st0 st1:St} (hlk:(r1,st1)=(r0,st0)∨(r1,st1)=lockR st0 r0)(hcall:CallOk P G pure call)(hv:call f args ⟨[],[]⟩=some (r0,st0))(hp:pure f=false)(hG:Good us w K S)(hgl:GlobOk G us w) {rest:List (List AV)}
  (hS:S.store=(st.store++shStore st.store.length st1.store)++rest) (hfree: ∀l,st.store.length≤l→l<(st.store++shStore st.store.length st1.store).length→K.lm l=none) {rest2:List Nat} (hS2:S.tips=(st.tips++keepT st1 r1)++rest2) (hfree2: ∀t,st.tips.length≤t→t<(st.tips++keepT st1 r1).length→K.tk t=none)
  (hr : Rels us w .nil args vs.toList) (hrun : (∃ fn, P.funcs[f]? = some fn ∧ fn.body.isSome = true ∧ fn.name ≠ "runtime.NumGoroutine") → (execOp a.eval o).run P w = .ok (.enter f vs) w) :
  Goes P o a us w K (keepR st.store.length st.tips.length st1 r1) st ⟨st.store++shStore st.store.length st1.store,st.tips++keepT st1 r1⟩ S:=by
 have hG0:Good us w .nil ⟨[],[]⟩:=⟨rfl,fun l c h=>by simp [Kx.nil] at h,fun l c _ h=>by simp [Kx.nil] at h,fun l l' c h=>by simp [Kx.nil] at h,fun l l' c h=>by simp [Kx.nil] at h,fun l c h=>by simp [Kx.nil] at h,fun l c h=>by simp [Kx.nil] at h,hG.uslt,fun l c h=>by simp [Kx.nil] at h,fun l t c h=>by simp [Kx.nil] at h⟩
 obtain ⟨hfn,hc⟩:=hcall f args ⟨[],[]⟩ r0 st0 hv us w .nil ⟨[],[]⟩ st0 vs hG0 hgl (by rw [hp];exact ⟨rfl,rfl⟩) hr
 intro next Q hn
 unfold Oper.wp
 rw [hrun hfn]
 refine hc.mono fun e w' h=> ?_
 obtain ⟨x,us',K1,rfl,h1,h2,h3,_⟩:=h
 obtain ⟨us',K1,h2,h3,h1⟩: ∃us1 K1,Ext us w .nil us1 w' K1∧Good us1 w' K1 st1∧Rel us1 w' K1 r1 x:=by
  rcases hlk with e|e
  ·obtain ⟨rfl,rfl⟩:=Prod.mk.inj e
   exact ⟨us',K1,h2,h3,h1⟩
  ·have:=zov h2 h3 h1
   rw [←e] at this
   exact this
 obtain ⟨k1,k2,k3,k4⟩:=zp0 (N:=st.store.length) rfl hG h2 h3 hS hfree
 by_cases hot:ownTop st1 r1=true
 ·cases r1 with
  |lst g z xs=>
   cases g with
   |own t e=>
    have hkT:keepT st1 (.lst (.own t e) z xs)=[e]:=by simp only [keepT,hot,if_true]
    have hkR:keepR st.store.length st.tips.length st1 (.lst (.own t e) z xs)=.lst (.own st.tips.length e) z xs:=by simp only [keepR,hot,if_true]
    rw [hkT] at hS2 hfree2
    rw [hkT,hkR] at hn
    simp only [ownTop,Bool.and_eq_true,beq_iff_eq] at hot
    cases h1 with
    |lst _ _ _ _ c p m cap vs' hu1 hn1 hc1 h11 hz hcap hl hrr ht=>
     obtain ⟨m',hm',hle,htip⟩:=ht
     rw [h3.T,hot.1] at hm'
     simp only [sI_] at hm'
     obtain ⟨t1,t2,t3,t4,t5⟩:=htip (by omega)
     obtain ⟨j1,j2,j3,j4⟩:=zmj rfl hG h2 h3 k2 k3 k4 t2 t3 hS2 (hfree2 _ (Nat.le_refl _) (by simp))
     refine hn _ us' w' _ (.lst _ _ z xs c p m cap vs' hu1 hn1 hc1 h11 hz hcap hl hrr ?_) j1 j2 j3
     refine ⟨e,?_,Nat.le_refl _,fun _=>⟨t1,?_,t3,t4,t5⟩⟩
     ·show K.T[st.tips.length]? =some e
      rw [hG.T,hS2];simp
     ·show (if st.tips.length=st.tips.length then some c else _)=some c
      rw [if_pos rfl]
   |_=>simp [ownTop] at hot
  |_=>simp [ownTop] at hot
 ·have hkT:keepT st1 r1=[]:=by
   unfold keepT
   split
   ·rw [if_neg hot]
   ·rfl
  rw [hkT,List.append_nil] at hn
  by_cases hfu: ∃z xs,r1=.lst .full z xs
  ·obtain ⟨z,xs,rfl⟩:=hfu
   have hkR:keepR st.store.length st.tips.length st1 (.lst .full z xs)=.lst .full z xs:=rfl
   rw [hkR] at hn
   cases h1 with
   |lst _ _ _ _ c p m cap vs' hu1 hn1 hc1 h11 hz hcap hl hrr ht=>
    exact hn _ us' w' (K.join K1 st.store.length st1.store.length) (.lst _ _ z xs c p m cap vs' hu1 hn1 hc1 h11 hz hcap hl hrr ht) k2 k3 k4
  ·have hkR:keepR st.store.length st.tips.length st1 r1=shV st.store.length r1:=by
    unfold keepR
    split
    ·rw [if_neg hot];simp only [shV]
    ·next z xs=>exact absurd ⟨z,xs,rfl⟩ hfu
    ·rfl
   rw [hkR] at hn
   exact hn x us' w' _ (h1.shift k1) k2 k3 k4
theorem zbn {f:FuncId} {k:IK} (hst:st'.store=st.store∨pure f=false)(hu:uses k=if pure f then 2 else 3)(ht:turns k=if pure f then 0 else 3)(hcp:Compat k st st' S S' K):
  if pure f=true then st'.store=st.store∧S'=S∧(∃rest,S.tips=st'.tips++rest)∧(∀t,st.tips.length≤t→t<st'.tips.length→K.tk t=none) else S=st∧S'=st':=by
 cases hp:pure f with
 |true=>
  simp only [hp,if_true] at hu ht⊢
  have e1:=hcp.s2 (by simp [turnsS,ht])
  have e2:=hcp.t2 (by simp [turnsT,ht])
  exact ⟨hst.resolve_right (by simp [hp]),St.ext' e1 e2,hcp.t3 (by simp [turnsT,ht]) (by simp [usesT,hu];decide),hcp.freeT⟩
 |false=>
  simp only [hp,Bool.false_eq_true,if_false] at hu ht⊢
  have e1:=hcp.s1 (by simp [turnsS,ht])
  have e2:=hcp.t1 (by simp [turnsT,ht];decide)
  exact ⟨St.ext' e1.1 e2.1,St.ext' e1.2 e2.2⟩
theorem zci {z:Nat} {ag:Bool} {s:AV} {ys:List AV} (h:appendmAV z ag s ys st=some (r,st'))(S:St)(hS:S.store=st.store):appendmAV z ag s ys S=some (r,⟨st'.store,S.tips⟩):=by
 unfold appendmAV newM at h⊢
 rw [hS]
 repeat' split at h
 all_goals first
  |(simp only [reduceCtorEq] at h;done)
  |skip
 all_goals
  simp only [sI_,Prod.mk.injEq] at h
  obtain ⟨rfl,rfl⟩:=h
  try simp only [*,if_true,if_false,true_and,and_self]
  try (cases S;simp_all)
theorem zeg {z:Nat} {zs:List AV} {x:AV} {st2:St} (h:clearAV z zs st x=some st2)(S:St)(hS:S.store=st.store):clearAV z zs S x=some ⟨st2.store,S.tips⟩:=by
 unfold clearAV storeAV at h⊢
 rw [hS]
 repeat' split at h
 all_goals first
  |(simp only [reduceCtorEq] at h;done)
  |skip
 all_goals
  simp only [sI_] at h
  subst h
  try simp only [*,if_true,if_false,true_and,and_self]
  try (cases S;simp_all)
theorem zfo {z:Nat} {ys:List AV} {x:AV} (h:copyAV z st ys x=some (r,st'))(S:St)(hS:S.store=st.store):copyAV z S ys x=some (r,⟨st'.store,S.tips⟩):=by
 unfold copyAV at h⊢
 rw [hS]
 repeat' split at h
 all_goals first
  |(simp only [reduceCtorEq] at h;done)
  |skip
 all_goals
  simp only [sI_,Prod.mk.injEq] at h
  obtain ⟨rfl,rfl⟩:=h
  try simp only [*,if_true,if_false,true_and,and_self]
  try (cases S;simp_all)
def CallStore (pure:FuncId→Bool) (call:CallF):Prop:=∀f args st r st',call f args st=some (r,st')→pure f=true→st'.store=st.store
theorem zgb {pv rs : Bool} {mt : Mode} {k : IK} (hc : compOp P pure pv rs mt o.op = some k) (hv : opAV pure call env st k = some (r, st')) (hcall : CallOk P G pure call) (hcs : CallStore pure call) (hgl : GlobOk G us w) (hgm : GlobOk mt.2.2.2 us w) (hE : EnvRel us w K env a) (hG : Good us w K S) (hcp : Compat k st st' S S' K) :
    Goes P o a us w K r st st' S' := by
  by_cases hk : isVal k = true
  · obtain ⟨h1, h2⟩ := ze4 hk hv
    exact zmq hk hcp (zl9 hgm hc hk hE hG h1)
  · cases hop : o.op <;> simp only [hop, compOp, reduceCtorEq] at hc
    case alloc t =>
      cases hz : zeroT P t with
      | none => simp [hz] at hc
      | some z =>
        simp only [hz, Option.bind_some] at hc
        split at hc
        · next hst =>
          simp only [sI_] at hc; subst hc
          simp only [opAV, sI_, Prod.mk.injEq] at hv
          obtain ⟨rfl, rfl⟩ := hv
          rw [St.ext' (hcp.s2 (by simp [turnsS, turns])) (hcp.t2 (by simp [turnsT, turns]))]
          obtain ⟨rest, hS⟩ := hcp.s3 (by simp [turnsS, turns]) (by simp [usesS, uses])
          exact zln hop hz hst hG hS (hcp.freeL _ (Nat.le_refl _) (by simp)) rfl
        · simp at hc
    case box t x =>
      simp only [sI_] at hc; subst hc
      simp only [opAV] at hv
      split at hv
      · next hcond =>
        simp only [sI_, Prod.mk.injEq] at hv
        obtain ⟨rfl, rfl⟩ := hv
        rw [St.ext' (hcp.s2 (by simp [turnsS, turns])) (hcp.t2 (by simp [turnsT, turns]))]
        obtain ⟨rest, hS⟩ := hcp.s3 (by simp [turnsS, turns]) (by simp [usesS, uses])
        exact rt_box hop hE hcond.1 hcond.2 hG hS (hcp.freeL _ (Nat.le_refl _) (by simp)) rfl
      · simp at hv
    case load t x =>
      split at hc
      · rename_i s ag hs hag
        simp only [sI_] at hc; subst hc
        simp only [opAV, only] at hv
        split at hv
        · rename_i y hy
          simp only [sI_, Prod.mk.injEq] at hv
          obtain ⟨rfl, rfl⟩ := hv
          rw [St.ext' (hcp.s2 (by simp [turnsS, turns])) (hcp.t2 (by simp [turnsT, turns]))]
          obtain ⟨rest, hS⟩ := hcp.s3 (by simp [turnsS, turns]) (by simp [usesS, uses])
          exact (zo1 hop hs hag hE hG (ze8 hy hS)).goes
        · simp at hv
      · simp at hc
    case store t x y =>
      cases hs : sizeT P t with
      | none => simp [hs] at hc
      | some s =>
        simp only [hs, Option.bind_some] at hc
        by_cases hs0 : 0 < s
        case neg => rw [if_neg hs0] at hc; simp at hc
        rw [if_pos hs0] at hc
        simp only [sI_] at hc; subst hc
        simp only [opAV] at hv
        split at hv
        · rename_i st2 hst2
          simp only [sI_, Prod.mk.injEq] at hv
          obtain ⟨rfl, rfl⟩ := hv
          have e1 := hcp.s1 (by simp [turnsS, turns])
          have e2 := hcp.t2 (by simp [turnsT, turns]; decide)
          have e3 : storeAV s S (aval env x) (aval env y) = some S' := by
            unfold storeAV at hst2 ⊢
            split at hst2
            · split at hst2
              · next hcond =>
                rw [if_pos hcond]
                rw [e1.1]
                split at hst2
                · rename_i cs hcs
                  split at hst2
                  · next hb =>
                    rw [if_pos hb]
                    simp only [sI_] at hst2 ⊢
                    subst hst2
                    exact (St.ext' (S := ⟨_, S.tips⟩) e1.2 e2).symm
                  · simp at hst2
                · simp at hst2
              · simp at hst2
            · simp at hst2
          exact zlh hop hs hs0 hE hG e3
        · simp at hv
    case buildSlice t n ps =>
      split at hc
      · rename_i e ht
        split at hc
        · rename_i z ag zero hz hag hzero
          split at hc
          · next hcond =>
            simp only [Bool.and_eq_true, decide_eq_true_eq] at hcond
            split at hc
            · simp only [sI_] at hc; subst hc
              simp only [opAV] at hv
              split at hv
              · rename_i xs hset
                rw [St.ext' (hcp.s2 (by simp [turnsS, turns])) (hcp.t2 (by simp [turnsT, turns]))]
                obtain ⟨rest, hS⟩ := hcp.s3 (by simp [turnsS, turns]) (by simp [usesS, uses])
                have hlen : st.store.length < st'.store.length := by
                  unfold newM at hv
                  split at hv
                  · simp only [sI_, Prod.mk.injEq] at hv; obtain ⟨_, rfl⟩ := hv; simp
                  · simp at hv
                exact zo2 hop ht hz hzero hcond.1.1 hcond.1.2 hE hG hset hv hS (hcp.freeL _ (Nat.le_refl _) hlen)
              · simp at hv
            · simp only [sI_] at hc; subst hc
              simp [isVal] at hk
          · simp at hc
        · simp at hc
      · simp at hc
    case makeSlice t x y =>
      split at hc
      · rename_i e ht
        split at hc
        · rename_i i ag zero hi hag hzero
          split at hc
          · next hcond =>
            simp only [Bool.and_eq_true, decide_eq_true_eq] at hcond
            simp only [sI_] at hc; subst hc
            simp only [opAV] at hv
            rw [St.ext' (hcp.s2 (by simp [turnsS, turns])) (hcp.t2 (by simp [turnsT, turns]))]
            obtain ⟨rest, hS⟩ := hcp.s3 (by simp [turnsS, turns]) (by simp [usesS, uses])
            have hlen : st.store.length < st'.store.length := by
              unfold makeAV at hv
              split at hv
              · split at hv
                · simp only [sI_, Prod.mk.injEq] at hv; obtain ⟨_, rfl⟩ := hv; simp
                · simp at hv
              · simp at hv
            exact zo0 hop ht hi hzero hcond.1.1 hcond.1.2 hcond.2 hE hG hv hS (hcp.freeL _ (Nat.le_refl _) hlen)
          · simp at hc
        · simp at hc
      · simp at hc
    case call c =>
      split at hc
      · split at hc <;> simp at hc
        subst hc; simp [isVal] at hk
      · split at hc <;> simp at hc
        subst hc; simp [isVal] at hk
      · rename_i x hb ha
        have ha' : c.args = #[x] := by rw [← Array.toArray_toList (xs := c.args), ha]
        split at hc
        · rename_i e ht
          split at hc
          · rename_i i ag zero hi hag hzero
            split at hc
            · next hcond =>
              simp only [Bool.and_eq_true, decide_eq_true_eq] at hcond
              simp only [sI_] at hc; subst hc
              obtain ⟨t, ht0, ht1⟩ : ∃ t, c.argTypes[0]? = some t ∧ P.underlying t = some (.slice e) := by
                cases h0 : c.argTypes[0]? with
                | none => simp [h0] at ht
                | some t => exact ⟨t, rfl, by simpa [h0] using ht⟩
              simp only [opAV] at hv
              split at hv
              · rename_i st2 hst2
                simp only [sI_, Prod.mk.injEq] at hv
                obtain ⟨rfl, rfl⟩ := hv
                have e1 := hcp.s1 (by simp [turnsS, turns]; try decide)
                have e2 := hcp.t2 (by simp [turnsT, turns]; try decide)
                have e3 := zeg hst2 S e1.1
                rw [(St.ext' (S := ⟨st2.store, S.tips⟩) e1.2 e2).symm] at e3
                exact zlm hop hb ha' ht0 ht1 hi hzero hcond.1 hcond.2 hE hG e3
              · simp at hv
            · simp at hc
          · simp at hc
        · simp at hc
      · rename_i x y hb ha
        have ha' : c.args = #[x, y] := by rw [← Array.toArray_toList (xs := c.args), ha]
        split at hc
        · rename_i e ht
          cases hz : sizeT P e with
          | none => simp [hz] at hc
          | some z =>
            simp only [hz, Option.bind_some] at hc
            split at hc
            · next hz0 =>
              simp only [sI_] at hc; subst hc
              obtain ⟨t, ht0, ht1⟩ : ∃ t, c.argTypes[0]? = some t ∧ P.underlying t = some (.slice e) := by
                cases h0 : c.argTypes[0]? with
                | none => simp [h0] at ht
                | some t => exact ⟨t, rfl, by simpa [h0] using ht⟩
              simp only [opAV] at hv
              split at hv
              · rename_i ys hys
                have e1 := hcp.s1 (by simp [turnsS, turns]; try decide)
                have e2 := hcp.t2 (by simp [turnsT, turns]; try decide)
                have e3 := zfo hv S e1.1
                rw [(St.ext' (S := ⟨st'.store, S.tips⟩) e1.2 e2).symm] at e3
                exact zo5 hop hb ha' ht0 ht1 hz hz0 hE hG (z6y (rest := []) hys (by rw [e1.1]; simp)) e3
              · simp at hv
            · simp at hc
        · simp at hc
      · rename_i x name hb
        simp only [sI_] at hc; subst hc
        simp only [opAV] at hv
        have hx := ze hE x
        split at hv
        · rename_i t y hxy
          rw [hxy] at hx
          obtain ⟨v, hv1, hv2⟩ := hx.ifc_inv
          split at hv
          · rename_i f hf
            split at hv
            · next hpf =>
              have hr := z5f hE c.args.toList
              refine zc5 (vs := #[v] ++ c.args.map a.eval) hcall hv hG hgl ?_ (by simpa using Rels.cons hv2 hr) (fun hfn => zi8 hop hb hv1 hf hfn)
              have e1 := hcp.s1 (by simp [turnsS, turns])
              have e2 := hcp.t1 (by simp [turnsT, turns]; try decide)
              rw [hpf]
              exact ⟨St.ext' e1.1 e2.1, St.ext' e1.2 e2.2⟩
            · simp at hv
          · simp at hv
        · simp at hv
      · simp only [sI_] at hc; subst hc; simp [isVal] at hk
      · simp only [sI_] at hc; subst hc; simp [isVal] at hk
      · simp only [sI_] at hc; subst hc; simp [isVal] at hk
      · rename_i x y hb ha
        have ha' : c.args = #[x, y] := by rw [← Array.toArray_toList (xs := c.args), ha]
        split at hc
        · rename_i e u ht hu
          split at hc
          · rename_i i ag zero d hi hag hzero hd
            split at hc
            · next hcond =>
              simp only [Bool.and_eq_true, decide_eq_true_eq, zeroOk, beq_iff_eq] at hcond
              obtain ⟨t, ht0, ht1⟩ : ∃ t, c.argTypes[0]? = some t ∧ P.underlying t = some (.slice e) := by
                cases h0 : c.argTypes[0]? with
                | none => simp [h0] at ht
                | some t => exact ⟨t, rfl, by simpa [h0] using ht⟩
              have hz : i.zero = some zero := by simpa [zeroT, hi] using hzero
              have hzone : ∀ v ∈ zero.cells.toList, v.oneCell' = true := (z3j (us := us) (w := w) (K := K) zero (z0k (by simpa [zcells] using hcond.1.1.1.2))).one (by simpa [zcells] using hcond.1.1.1.2)
              have happOk : AppOk P o x y i e zero := ⟨⟨c, t, u, d, hop, hb, ha', ht0, ht1, hu, hd⟩, hi, hz, hcond.1.1.1.1, hcond.1.2, hcond.2, hzone⟩
              cases hmt : mt.1 with
              | true =>
                simp only [hmt, if_true, sI_] at hc; subst hc
                simp only [opAV] at hv
                split at hv
                · rename_i ys hys
                  have e1 := hcp.s1 (by simp [turnsS, turns]; try decide)
                  have e2 := hcp.t2 (by simp [turnsT, turns]; try decide)
                  have hS' : (⟨st'.store, S.tips⟩ : St) = S' := (St.ext' (S := ⟨st'.store, S.tips⟩) e1.2 e2).symm
                  have happ := zci hv S e1.1
                  rw [hS'] at happ
                  exact zht happOk hE hG e1.1.symm e1.2.symm (z6y (rest := []) hys (by rw [e1.1]; simp)) hcp.freeL happ
                · simp at hv
              | false =>
              simp only [hmt, Bool.false_eq_true, if_false, sI_] at hc; subst hc
              simp only [opAV] at hv
              split at hv
              · next hrs =>
                split at hv
                · rename_i ys hys
                  have e1 := hcp.t1 (by simp [turnsT, turns]; try decide)
                  have e2 := hcp.s2 (by simp [turnsS, turns]; try decide)
                  have happ := z8y hv S e1.1
                  have hS' : (⟨S.store, st'.tips⟩ : St) = S' := (St.ext' (S := ⟨S.store, st'.tips⟩) e2 e1.2).symm
                  rw [hS'] at happ
                  have hys' : elemsOf i.size S (aval env y) = some ys := by
                    rcases hrs with rfl | hrs
                    · obtain ⟨rest, hS⟩ := hcp.s3 (by simp [turnsS, turns]; try decide) (by simp [usesS, uses]; try decide)
                      have hst : st'.store = st.store := by
                        have := z8y hv st rfl
                        rw [hv] at this
                        simp only [sI_, Prod.mk.injEq, true_and] at this
                        rw [this]
                      exact z6y hys (by rw [hS, hst])
                    · unfold elemsOf at hys ⊢
                      split at hys
                      · exact hys
                      · exact hys
                      · rename_i hr; rw [hr] at hrs; simp [isRsl] at hrs
                      · simp at hys
                  exact zjb (zv := zero) happOk hE hG e1.1.symm e1.2.symm hys' happ
                · simp at hv
              · simp at hv
            · simp at hc
          · rename_i i ag zero ku hi hag hzero hd
            split at hc
            · next hcond =>
              simp only [Bool.and_eq_true, decide_eq_true_eq] at hcond
              simp only [sI_] at hc; subst hc
              obtain ⟨t, ht0, ht1⟩ : ∃ t, c.argTypes[0]? = some t ∧ P.underlying t = some (.slice e) := by
                cases h0 : c.argTypes[0]? with
                | none => simp [h0] at ht
                | some t => exact ⟨t, rfl, by simpa [h0] using ht⟩
              simp only [opAV] at hv
              rw [St.ext' (hcp.s2 (by simp [turnsS, turns])) (hcp.t2 (by simp [turnsT, turns]))]
              obtain ⟨rest, hS⟩ := hcp.s3 (by simp [turnsS, turns]) (by simp [usesS, uses])
              have hlen : st.store.length < st'.store.length := by
                unfold growAV makeAV at hv
                repeat' split at hv
                all_goals first
                  | (simp only [reduceCtorEq] at hv; done)
                  | (simp only [sI_, Prod.mk.injEq] at hv; obtain ⟨_, rfl⟩ := hv; simp)
              exact zo3 hop hb ha' ht0 ht1 hu hd hi hzero hcond.1.1.2 hcond.1.2 hcond.2 hE hG hv hS (hcp.freeL _ (Nat.le_refl _) hlen)
            · simp at hc
          · simp at hc
        · simp at hc
      · rename_i f hf
        cases hck : mt.2.1.contains f with
        | true =>
          simp only [hck, if_true, sI_] at hc
          cases hpu : pure f with
          | true =>
            rw [if_pos hpu] at hc
            subst hc
            simp only [opAV] at hv
            rw [if_pos hpu] at hv
            split at hv
            · rename_i r2 st2 hcl
              split at hv
              · next htip =>
                simp only [sI_, Prod.mk.injEq] at hv
                obtain ⟨rfl, rfl⟩ := hv
                have e1 := hcp.s1 (by simp [turnsS, turns])
                have e2 := hcp.t1 (by simp [turnsT, turns]; try decide)
                rw [St.ext' e1.2 e2.2]
                rw [St.ext' e1.1 e2.1] at hG
                have hr := z5f hE c.args.toList
                refine zic (vs := c.args.map a.eval) hcall hcs hcl hpu htip hG hgl (by simpa using hr) (fun hfn => ?_)
                simp [execOp, hop, resolve, hf, Deferred.ofValue, Act.eval, invoke, z2f hfn]
              · simp at hv
            · simp at hv
          | false =>
          rw [if_neg (by rw [hpu]; simp)] at hc
          subst hc
          simp only [opAV] at hv
          rw [if_pos hpu] at hv
          split at hv
          · rename_i r1 st1 hcl
            simp only [sI_, Prod.mk.injEq] at hv
            obtain ⟨rfl, rfl⟩ := hv
            have hr := z5f hE c.args.toList
            rw [St.ext' (hcp.s2 (by simp [turnsS, turns])) (hcp.t2 (by simp [turnsT, turns]))]
            obtain ⟨rest, hS⟩ := hcp.s3 (by simp [turnsS, turns]) (by simp [usesS, uses])
            obtain ⟨rest2, hS2⟩ := hcp.t3 (by simp [turnsT, turns]) (by simp [usesT, uses]; decide)
            refine zdb (vs := c.args.map a.eval) (.inl rfl) hcall hcl hpu hG hgl hS hcp.freeL hS2 hcp.freeT (by simpa using hr.pubs) (fun hfn => ?_)
            simp [execOp, hop, resolve, hf, Deferred.ofValue, Act.eval, invoke, z2f hfn]
          · simp at hv
        | false =>
        simp only [hck, Bool.false_eq_true, if_false, sI_] at hc
        cases hlk : (mt.2.1.contains (f + 1000000) && !pure f) with
        | true =>
          rw [hlk, if_pos rfl] at hc
          subst hc
          have hpu : pure f = false := by simp only [Bool.and_eq_true, Bool.not_eq_true'] at hlk; exact hlk.2
          simp only [opAV] at hv
          rw [if_pos hpu] at hv
          split at hv
          · rename_i r1 st1 hcl
            simp only [sI_, Prod.mk.injEq] at hv
            obtain ⟨rfl, rfl⟩ := hv
            have hr := z5f hE c.args.toList
            rw [St.ext' (hcp.s2 (by simp [turnsS, turns])) (hcp.t2 (by simp [turnsT, turns]))]
            obtain ⟨rest, hS⟩ := hcp.s3 (by simp [turnsS, turns]) (by simp [usesS, uses])
            obtain ⟨rest2, hS2⟩ := hcp.t3 (by simp [turnsT, turns]) (by simp [usesT, uses]; decide)
            refine zdb (vs := c.args.map a.eval) (.inr rfl) hcall hcl hpu hG hgl hS hcp.freeL hS2 hcp.freeT (by simpa using hr.pubs) (fun hfn => ?_)
            simp [execOp, hop, resolve, hf, Deferred.ofValue, Act.eval, invoke, z2f hfn]
          · simp at hv
        | false =>
        rw [hlk, if_neg (by simp)] at hc
        cases hlr : (mt.2.1.contains (f + 2000000) && pure f) with
        | true =>
          rw [hlr, if_pos rfl] at hc
          subst hc
          have hpu : pure f = true := by simp only [Bool.and_eq_true] at hlr; exact hlr.2
          simp only [opAV] at hv
          rw [if_pos hpu] at hv
          split at hv
          · rename_i r2 st2 hcl
            split at hv
            · next htip =>
              simp only [sI_, Prod.mk.injEq] at hv
              obtain ⟨rfl, rfl⟩ := hv
              have e1 := hcp.s1 (by simp [turnsS, turns])
              have e2 := hcp.t1 (by simp [turnsT, turns]; try decide)
              rw [St.ext' e1.2 e2.2]
              rw [St.ext' e1.1 e2.1] at hG
              have hr := z5f hE c.args.toList
              refine zid (vs := c.args.map a.eval) hcall hcs hcl hpu htip.1 htip.2 hG hgl (by simpa using hr) (fun hfn => ?_)
              simp [execOp, hop, resolve, hf, Deferred.ofValue, Act.eval, invoke, z2f hfn]
            · simp at hv
          · simp at hv
        | false =>
        rw [hlr, if_neg (by simp)] at hc
        subst hc
        simp only [opAV] at hv
        rw [if_pos trivial] at hv
        have hr := z5f hE c.args.toList
        refine zc5 (vs := c.args.map a.eval) hcall hv hG hgl (zbn (f := f) ?_ rfl rfl hcp) (by simpa using hr) (fun hfn => ?_)
        · cases hp : pure f with
          | true => exact .inl (hcs f _ _ _ _ hv hp)
          | false => exact .inr rfl
        · simp [execOp, hop, resolve, hf, Deferred.ofValue, Act.eval, invoke, z2f hfn]
      · rename_i f _ hf
        simp only [sI_] at hc; subst hc
        simp only [opAV] at hv
        split at hv
        · rename_i g first caps hg
          split at hv
          · next hpv =>
            have hr := z5f hE c.args.toList
            have hfr := ze hE f
            rw [hg] at hfr
            obtain ⟨vf, vc, he, h1, h2⟩ := hfr.fn_inv
            subst hpv
            refine zc5 (vs := vf ++ c.args.map a.eval ++ vc) hcall hv hG hgl (zbn (f := g) ?_ rfl rfl hcp) ?_ (fun hfn => ?_)
            · cases hp : pure g with
              | true => exact .inl (hcs g _ _ _ _ hv hp)
              | false => exact .inr rfl
            · have := (h1.append (by simpa using hr)).append h2
              simpa using this
            · simp [execOp, hop, resolve, hf, Deferred.ofValue, he, invoke, z2f hfn]
          · simp at hv
        · simp at hv
      · simp at hc
    case unOp op t x =>
      cases op <;> simp only [compOp, sI_, reduceCtorEq] at hc <;> subst hc <;> exact absurd rfl hk
    all_goals
      refine absurd ?_ hk
      repeat' split at hc
      all_goals first
        | (simp only [reduceCtorEq] at hc; done)
        | (simp only [sI_] at hc; subst hc; rfl)
        | (simp only [Option.map_eq_some_iff] at hc; obtain ⟨_, _, rfl⟩ := hc; rfl)
        | (simp only [Option.bind_eq_some_iff] at hc
           obtain ⟨_, _, hc⟩ := hc
           first
             | (simp only [reduceCtorEq] at hc; done)
             | (simp only [sI_] at hc; subst hc; rfl))
end
end Go.Ev
namespace Go.Ev
open Go
structure CallMono (pure:FuncId→Bool) (call:CallF):Prop where
 len: ∀f args st r st',call f args st=some (r,st')→st.store.length≤st'.store.length∧st.tips.length≤st'.tips.length
 pure: ∀f args st r st',call f args st=some (r,st')→pure f=true→st'.store=st.store∧∃rest,st'.tips=st.tips++rest
section
variable {P:Program} {pure:FuncId→Bool} {call:CallF}
theorem zfx {z:Nat} {s:AV} {ys:List AV} {st st':St} {r:AV} (h:appendAV z s ys st=some (r,st')):st'.store=st.store∧st.tips.length≤st'.tips.length:=by
 unfold appendAV at h
 repeat' split at h
 all_goals first
  |(simp only [reduceCtorEq] at h;done)
  |(simp only [sI_,Prod.mk.injEq] at h;obtain ⟨_,rfl⟩:=h;simp)
theorem zei {z:Nat} {ag:Bool} {s:AV} {ys:List AV} {st st':St} {r:AV} (h:appendmAV z ag s ys st=some (r,st')):st.store.length≤st'.store.length∧st'.tips=st.tips:=by
 unfold appendmAV newM at h
 repeat' split at h
 all_goals first
  |(simp only [reduceCtorEq] at h;done)
  |(simp only [sI_,Prod.mk.injEq] at h;obtain ⟨_,rfl⟩:=h;simp)
theorem zlt (hm:CallMono pure call) {env:Env} {k:IK} {st st':St} {r:AV} (h:opAV pure call env st k=some (r,st')):
  (st.store.length≤st'.store.length∧st.tips.length≤st'.tips.length)∧(turnsS k=false→∃rest,st'.store=st.store++rest)∧(turnsT k=false→∃rest,st'.tips=st.tips++rest):=by
 by_cases hk:isVal k=true
 ·obtain ⟨_,rfl⟩:=ze4 hk h
  exact ⟨⟨Nat.le_refl _,Nat.le_refl _⟩,fun _=>⟨[],by simp⟩,fun _=>⟨[],by simp⟩⟩
 ·cases k<;>simp only [isVal,not_true_eq_false] at hk
  case alloc zs=>simp only [opAV,sI_,Prod.mk.injEq] at h;obtain ⟨_,rfl⟩:=h;exact ⟨⟨by simp,Nat.le_refl _⟩,fun _=>⟨[zs],rfl⟩,fun _=>⟨[],by simp⟩⟩
  case box x=>
   simp only [opAV] at h
   split at h
   ·simp only [sI_,Prod.mk.injEq] at h;obtain ⟨_,rfl⟩:=h;exact ⟨⟨by simp,Nat.le_refl _⟩,fun _=>⟨_,rfl⟩,fun _=>⟨[],by simp⟩⟩
   ·simp at h
  case load s ag a=>
   simp only [opAV,only] at h
   split at h
   ·simp only [sI_,Prod.mk.injEq] at h;obtain ⟨_,rfl⟩:=h;exact ⟨⟨Nat.le_refl _,Nat.le_refl _⟩,fun _=>⟨[],by simp⟩,fun _=>⟨[],by simp⟩⟩
   ·simp at h
  case loadp ts s ag a=>
   simp only [opAV,only] at h
   split at h
   ·split at h
    ·simp only [sI_,Prod.mk.injEq] at h;obtain ⟨_,rfl⟩:=h;exact ⟨⟨Nat.le_refl _,Nat.le_refl _⟩,fun _=>⟨[],by simp⟩,fun _=>⟨[],by simp⟩⟩
    ·simp at h
   ·simp at h
  case storeq ts s a x=>
   simp only [opAV] at h
   split at h
   ·split at h
    ·rename_i st2 h2
     simp only [sI_,Prod.mk.injEq] at h;obtain ⟨_,rfl⟩:=h
     have:st2.store.length=st.store.length∧st2.tips=st.tips:=by
      unfold storeAV at h2
      repeat' split at h2
      all_goals first
       |(simp only [reduceCtorEq] at h2;done)
       |(simp only [sI_] at h2;subst h2;simp)
     exact ⟨⟨by omega,by rw [this.2];exact Nat.le_refl _⟩,fun ht=>by simp [turnsS,turns] at ht,fun _=>⟨[],by simp [this.2]⟩⟩
    ·simp at h
   ·simp at h
  case store s a x=>
   simp only [opAV] at h
   split at h
   ·rename_i st2 h2
    simp only [sI_,Prod.mk.injEq] at h;obtain ⟨_,rfl⟩:=h
    have:st2.store.length=st.store.length∧st2.tips=st.tips:=by
     unfold storeAV at h2
     repeat' split at h2
     all_goals first
      |(simp only [reduceCtorEq] at h2;done)
      |(simp only [sI_] at h2;subst h2;simp)
    exact ⟨⟨by omega,by rw [this.2];exact Nat.le_refl _⟩,fun ht=>by simp [turnsS,turns] at ht,fun _=>⟨[],by simp [this.2]⟩⟩
   ·simp at h
  case make z ag zs l c=>
   simp only [opAV] at h
   unfold makeAV at h
   repeat' split at h
   all_goals first
    |(simp only [reduceCtorEq] at h;done)
    |(simp only [sI_,Prod.mk.injEq] at h;obtain ⟨_,rfl⟩:=h;exact ⟨⟨by simp,Nat.le_refl _⟩,fun _=>⟨_,rfl⟩,fun _=>⟨[],by simp⟩⟩)
  case litm z ag zero n ps=>
   simp only [opAV] at h
   unfold newM at h
   repeat' split at h
   all_goals first
    |(simp only [reduceCtorEq] at h;done)
    |(simp only [sI_,Prod.mk.injEq] at h;obtain ⟨_,rfl⟩:=h;exact ⟨⟨by simp,Nat.le_refl _⟩,fun _=>⟨_,rfl⟩,fun _=>⟨[],by simp⟩⟩)
  case grow z ag zs l c=>
   simp only [opAV] at h
   unfold growAV makeAV at h
   repeat' split at h
   all_goals first
    |(simp only [reduceCtorEq] at h;done)
    |(simp only [sI_,Prod.mk.injEq] at h;obtain ⟨_,rfl⟩:=h;exact ⟨⟨by simp,Nat.le_refl _⟩,fun _=>⟨_,rfl⟩,fun _=>⟨[],by simp⟩⟩)
  case append z r s y=>
   simp only [opAV] at h
   split at h
   ·split at h
    ·have:=zfx h
     exact ⟨⟨by rw [this.1];exact Nat.le_refl _,this.2⟩,fun _=>⟨[],by simp [this.1]⟩,fun ht=>by simp [turnsT,turns] at ht;exact absurd ht (by decide)⟩
    ·simp at h
   ·simp at h
  case appendm z ag s y=>
   simp only [opAV] at h
   split at h
   ·have:=zei h
    exact ⟨⟨this.1,by rw [this.2];exact Nat.le_refl _⟩,fun ht=>by simp [turnsS,turns] at ht,fun _=>⟨[],by simp [this.2]⟩⟩
   ·simp at h
  case clear z zs x=>
   simp only [opAV] at h
   split at h
   ·rename_i st2 h2
    simp only [sI_,Prod.mk.injEq] at h;obtain ⟨_,rfl⟩:=h
    have:st2.store.length=st.store.length∧st2.tips=st.tips:=by
     unfold clearAV storeAV at h2
     repeat' split at h2
     all_goals first
      |(simp only [reduceCtorEq] at h2;done)
      |(simp only [sI_] at h2;subst h2;simp)
    exact ⟨⟨by omega,by rw [this.2];exact Nat.le_refl _⟩,fun ht=>by simp [turnsS,turns] at ht,fun _=>⟨[],by simp [this.2]⟩⟩
   ·simp at h
  case copy z x y=>
   simp only [opAV] at h
   split at h
   ·rename_i ys h3
    have:st'.store.length=st.store.length∧st'.tips=st.tips:=by
     unfold copyAV at h
     repeat' split at h
     all_goals first
      |(simp only [reduceCtorEq] at h;done)
      |(simp only [sI_,Prod.mk.injEq] at h;obtain ⟨_,rfl⟩:=h;simp)
    exact ⟨⟨by omega,by rw [this.2];exact Nat.le_refl _⟩,fun ht=>by simp [turnsS,turns] at ht,fun _=>⟨[],by simp [this.2]⟩⟩
   ·simp at h
  case invoke tab x args=>
   simp only [opAV] at h
   split at h
   ·split at h
    ·split at h
     ·exact ⟨hm.len _ _ _ _ _ h,fun ht=>by simp [turnsS,turns] at ht,fun ht=>by simp [turnsT,turns] at ht;exact absurd ht (by decide)⟩
     ·simp at h
    ·simp at h
   ·simp at h
  case callr f args=>
   simp only [opAV] at h
   split at h
   ·split at h
    ·split at h
     ·simp only [sI_,Prod.mk.injEq] at h;obtain ⟨_,rfl⟩:=h
      exact ⟨⟨Nat.le_refl _,Nat.le_refl _⟩,fun ht=>by simp [turnsS,turns] at ht,fun ht=>by simp [turnsT,turns] at ht;exact absurd ht (by decide)⟩
     ·simp at h
    ·simp at h
   ·simp at h
  case callz f args=>
   simp only [opAV] at h
   split at h
   ·split at h
    ·split at h
     ·simp only [sI_,Prod.mk.injEq] at h;obtain ⟨_,rfl⟩:=h
      have:=zas (rslsOf (avals env args)) (avals env args) st
      exact ⟨⟨by omega,by rw [this.2];exact Nat.le_refl _⟩,fun ht=>by simp [turnsS,turns] at ht,fun ht=>by simp [turnsT,turns] at ht;exact absurd ht (by decide)⟩
     ·simp at h
    ·simp at h
   ·simp at h
  case callk f args=>
   simp only [opAV] at h
   split at h
   ·split at h
    ·simp only [sI_,Prod.mk.injEq] at h;obtain ⟨_,rfl⟩:=h
     exact ⟨⟨by simp,by simp⟩,fun _=>⟨_,rfl⟩,fun _=>⟨_,rfl⟩⟩
    ·simp at h
   ·simp at h
  case calll f args=>
   simp only [opAV] at h
   split at h
   ·split at h
    ·simp only [sI_,Prod.mk.injEq] at h;obtain ⟨_,rfl⟩:=h
     exact ⟨⟨by simp,by simp⟩,fun _=>⟨_,rfl⟩,fun _=>⟨_,rfl⟩⟩
    ·simp at h
   ·simp at h
  case call p f args=>
   simp only [opAV] at h
   split at h
   ·next hp=>
    refine ⟨hm.len f _ _ _ _ h,fun ht=> ?_,fun ht=> ?_⟩
    ·cases hpf:p with
     |true=>have:=hm.pure f _ _ _ _ h (by rw [←hp,hpf]);exact ⟨[],by simp [this.1]⟩
     |false=>rw [hpf] at ht;simp [turnsS,turns] at ht
    ·cases hpf:p with
     |true=>exact (hm.pure f _ _ _ _ h (by rw [←hp,hpf])).2
     |false=>rw [hpf] at ht;simp [turnsT,turns] at ht;exact absurd ht (by decide)
   ·simp at h
  case callv p f args=>
   simp only [opAV] at h
   split at h
   ·rename_i g first caps _
    split at h
    ·next hp=>
     refine ⟨hm.len g _ _ _ _ h,fun ht=> ?_,fun ht=> ?_⟩
     ·cases hpf:p with
      |true=>have:=hm.pure g _ _ _ _ h (by rw [←hp,hpf]);exact ⟨[],by simp [this.1]⟩
      |false=>rw [hpf] at ht;simp [turnsS,turns] at ht
     ·cases hpf:p with
      |true=>exact (hm.pure g _ _ _ _ h (by rw [←hp,hpf])).2
      |false=>rw [hpf] at ht;simp [turnsT,turns] at ht;exact absurd ht (by decide)
    ·simp at h
   ·simp at h
structure Trace (pure:FuncId→Bool) (call:CallF) (ks:List IOp) (E:Nat→Env) (T:Nat→St) (V:Nat→AV):Prop where
 step: ∀i (h:i<ks.length),E (i+1)=setD (E i) ks[i].d (V i)∧
  ((wantedAV (E i) ks[i].g=some true∧opAV pure call (E i) (T i) ks[i].k=some (V i,T (i+1)))∨(wantedAV (E i) ks[i].g=some false∧V i=.v (.tuple #[])∧T (i+1)=T i))
theorem zdr: ∀{ks:List IOp} {env env':Env} {st st':St},opsAV pure call ks env st=some (env',st')→∃E T V,Trace pure call ks E T V∧E 0=env∧T 0=st∧E ks.length=env'∧T ks.length=st'
 | [],env,env',st,st',h=>by
  simp only [opsAV,sI_,Prod.mk.injEq] at h
  exact ⟨fun _=>env,fun _=>st,fun _=> .any,⟨fun i h=>absurd h (by simp)⟩,rfl,rfl,h.1,h.2⟩
 |o::r,env,env',st,st',h=>by
  simp only [opsAV] at h
  have key: ∀(v:AV) (st1:St),opsAV pure call r (setD env o.d v) st1=some (env',st')→((wantedAV env o.g=some true∧opAV pure call env st o.k=some (v,st1))∨(wantedAV env o.g=some false∧v=.v (.tuple #[])∧st1=st))→
    ∃E T V,Trace pure call (o::r) E T V∧E 0=env∧T 0=st∧E (o::r).length=env'∧T (o::r).length=st':=by
   intro v st1 h1 h2
   obtain ⟨E,T,V,ht,e0,t0,en,tn⟩:=zdr h1
   refine ⟨fun i=>match i with|0=>env|i+1=>E i,fun i=>match i with|0=>st|i+1=>T i,fun i=>match i with|0=>v|i+1=>V i,⟨fun i hi=> ?_⟩,rfl,rfl,by simpa using en,by simpa using tn⟩
   cases i with
   |zero=>exact ⟨by simpa using e0,by simpa [t0] using h2⟩
   |succ i=>simpa using ht.step i (by simpa using hi)
  split at h
  ·rename_i hw
   split at h
   ·rename_i v st1 hv
    exact key v st1 h (.inl ⟨hw,hv⟩)
   ·simp at h
  ·rename_i hw
   exact key _ st h (.inr ⟨hw,rfl,rfl⟩)
  ·simp at h
variable {ks:List IOp} {E:Nat→Env} {T:Nat→St} {V:Nat→AV}
theorem Trace.len (ht:Trace pure call ks E T V)(hm:CallMono pure call)(i:Nat)(hi:i<ks.length):
  ((T i).store.length≤(T (i+1)).store.length∧(T i).tips.length≤(T (i+1)).tips.length)∧(turnsS ks[i].k=false→∃rest,(T (i+1)).store=(T i).store++rest)∧(turnsT ks[i].k=false→∃rest,(T (i+1)).tips=(T i).tips++rest):=by
 rcases (ht.step i hi).2 with ⟨_,h⟩ | ⟨_,_,h⟩
 ·exact zlt hm h
 ·rw [h];exact ⟨⟨Nat.le_refl _,Nat.le_refl _⟩,fun _=>⟨[],by simp⟩,fun _=>⟨[],by simp⟩⟩
theorem Trace.mono (ht : Trace pure call ks E T V) (hm : CallMono pure call) {i j : Nat} (hij : i ≤ j) (hj : j ≤ ks.length) : (T i).store.length ≤ (T j).store.length ∧ (T i).tips.length ≤ (T j).tips.length := by
  induction j with
  | zero => have : i = 0 := by omega
            subst this; exact ⟨Nat.le_refl _, Nat.le_refl _⟩
  | succ j ih =>
    by_cases e : i = j + 1
    · subst e; exact ⟨Nat.le_refl _, Nat.le_refl _⟩
    · have h1 := ih (by omega) (by omega)
      have h2 := (ht.len hm j (by omega)).1
      exact ⟨by omega, by omega⟩
theorem Trace.pushS (ht : Trace pure call ks E T V) (hm : CallMono pure call) {i j : Nat} (hij : i ≤ j) (hj : j ≤ ks.length) (hno : ∀ m (h : m < ks.length), i ≤ m → m < j → turnsS ks[m].k = false) : ∃ rest, (T j).store = (T i).store ++ rest := by
  induction j with
  | zero => have : i = 0 := by omega
            subst this; exact ⟨[], by simp⟩
  | succ j ih =>
    by_cases e : i = j + 1
    · subst e; exact ⟨[], by simp⟩
    · obtain ⟨r1, h1⟩ := ih (by omega) (by omega) (fun m h h1 h2 => hno m h h1 (by omega))
      obtain ⟨r2, h2⟩ := (ht.len hm j (by omega)).2.1 (hno j (by omega) (by omega) (by omega))
      exact ⟨r1 ++ r2, by rw [h2, h1, List.append_assoc]⟩
theorem Trace.pushT (ht : Trace pure call ks E T V) (hm : CallMono pure call) {i j : Nat} (hij : i ≤ j) (hj : j ≤ ks.length) (hno : ∀ m (h : m < ks.length), i ≤ m → m < j → turnsT ks[m].k = false) : ∃ rest, (T j).tips = (T i).tips ++ rest := by
  induction j with
  | zero => have : i = 0 := by omega
            subst this; exact ⟨[], by simp⟩
  | succ j ih =>
    by_cases e : i = j + 1
    · subst e; exact ⟨[], by simp⟩
    · obtain ⟨r1, h1⟩ := ih (by omega) (by omega) (fun m h h1 h2 => hno m h h1 (by omega))
      obtain ⟨r2, h2⟩ := (ht.len hm j (by omega)).2.2 (hno j (by omega) (by omega) (by omega))
      exact ⟨r1 ++ r2, by rw [h2, h1, List.append_assoc]⟩
def envOf (ks:List IOp) (V:Nat→AV) (D:Nat→Bool) (env:Env):Nat→Env
 |0=>env
 |n+1=>if D n then setD (envOf ks V D env n) ((ks[n]?).bind (·.d)) (V n) else envOf ks V D env n
theorem z8n (env:Env)(d:Option Tmp)(v:AV)(t:Nat):(setD env d v).get t=if d=some t then v else env.get t:=by
 cases d with
 |none=>simp [setD]
 |some d=>simp [setD,Env.get]
theorem z7i {ks:List IOp} {V:Nat→AV} {D D':Nat→Bool} {env:Env} {t:Nat}: ∀(n:Nat),(∀j,j<n→(ks[j]?).bind (·.d)=some t→D j=D' j)→(envOf ks V D env n).get t=(envOf ks V D' env n).get t
 |0,_=>rfl
 |n+1,h=>by
  have ih:=z7i (ks:=ks) (V:=V) (D:=D) (D':=D') (env:=env) (t:=t) n (fun j hj=>h j (by omega))
  simp only [envOf]
  by_cases hd:(ks[n]?).bind (·.d)=some t
  ·have:=h n (by omega) hd
   cases h1:D n<;>rw [h1] at this<;>simp only [←this,if_true,Bool.false_eq_true,if_false]
   ·exact ih
   ·rw [z8n,z8n,if_pos hd,if_pos hd]
  ·cases h1:D n<;>cases h2:D' n<;>simp only [if_true,Bool.false_eq_true,if_false,z8n,if_neg hd]<;>exact ih
theorem zc9 (ht:Trace pure call ks E T V) {D:Nat→Bool}: ∀(n:Nat),n≤ks.length→(∀j,j<n→D j=true)→envOf ks V D (E 0) n=E n
 |0,_,_=>rfl
 |n+1,hn,h=>by
  simp only [envOf,h n (by omega),if_true]
  rw [zc9 ht n (by omega) (fun j hj=>h j (by omega)),List.getElem?_eq_getElem (by omega)]
  exact ((ht.step n (by omega)).1).symm
theorem z86 (ht : Trace pure call ks E T V) {D : Nat → Bool} (i : Nat) : ∀ (n : Nat), i ≤ n → n ≤ ks.length → (∀ j, j < i → D j = true) → (∀ j, i ≤ j → j < n → D j = false) → envOf ks V D (E 0) n = E i := by
  intro n
  induction n with
  | zero => intro h _ _ _; have : i = 0 := by omega
            subst this; rfl
  | succ n ih =>
    intro h1 h2 h3 h4
    by_cases e : i = n + 1
    · subst e; exact zc9 ht _ h2 h3
    · simp only [envOf, h4 n (by omega) (by omega), Bool.false_eq_true, if_false]
      exact ih (by omega) (by omega) h3 (fun j a b => h4 j a (by omega))
end
end Go.Ev
namespace Go.Ev
open Go
section
variable {P:Program} {pure:FuncId→Bool} {call:CallF}
def Agree (ts:List Tmp) (e e':Env):Prop:=∀t∈ts,e.get t=e'.get t
theorem Agree.left {a b:List Tmp} {e e':Env} (h:Agree (a++b) e e'):Agree a e e':=fun t ht=>h t (by simp [ht])
theorem Agree.right {a b:List Tmp} {e e':Env} (h:Agree (a++b) e e'):Agree b e e':=fun t ht=>h t (by simp [ht])
theorem zy {e e':Env} {x:Operand} (h:Agree (opds x) e e'):aval e x=aval e' x:=by
 cases x with
 |tmp t=>exact h t (by simp [opds])
 |_=>rfl
theorem z17 {e e':Env}: ∀{xs:List Operand},Agree (opdsL xs) e e'→avals e xs=avals e' xs
 | [],_=>rfl
 |x::r,h=>by simp only [avals];rw [zy h.left,z17 h.right]
theorem z65 {e e':Env} {x:Option Operand} (h:Agree (opdsO x) e e'):x.map (aval e)=x.map (aval e'):=by
 cases x with
 |none=>rfl
 |some x=>simp only [Option.map_some];rw [zy h]
theorem z90 {e e':Env}: ∀{ps:List (Nat×Operand)},Agree (opdsL (ps.map (·.2))) e e'→withO e ps=withO e' ps
 | [],_=>rfl
 |p::r,h=>by
  have ih:=z90 (ps:=r) h.right
  simp only [withO,List.map_cons] at ih⊢
  rw [zy (x:=p.2) h.left,ih]
theorem zai {e e':Env}: ∀{ps:List (Nat×Nat×Operand)},Agree (opdsL (ps.map (·.2.2))) e e'→withO2 e ps=withO2 e' ps
 | [],_=>rfl
 |p::r,h=>by
  have ih:=zai (ps:=r) h.right
  simp only [withO2,List.map_cons] at ih⊢
  rw [zy (x:=p.2.2) h.left,ih]
theorem zjn {e e':Env} {ts:List Tmp} {x:AV} (h:Agree ts e e'):onB e ts x=onB e' ts x:=by
 unfold onB
 cases x<;>try rfl
 rename_i l o
 simp only
 rw [Bool.eq_iff_iff,List.any_eq_true,List.any_eq_true]
 exact ⟨fun ⟨t,h1,h2⟩=>⟨t,h1,by rw [←h t h1];exact h2⟩,fun ⟨t,h1,h2⟩=>⟨t,h1,by rw [h t h1];exact h2⟩⟩
theorem zi2 {e e':Env} {ts:List Tmp} {x:AV} (h:Agree ts e e'):offB e ts x=offB e' ts x:=by
 unfold offB
 cases x<;>try rfl
 rename_i l o
 simp only
 rw [Bool.eq_iff_iff,List.all_eq_true,List.all_eq_true]
 exact ⟨fun h2 t h1=>by rw [←h t h1];exact h2 t h1,fun h2 t h1=>by rw [h t h1];exact h2 t h1⟩
theorem zi0 {e e':Env} {st:St} {k:IK} (h:Agree (ikOps k) e e'):opAV pure call e st k=opAV pure call e' st k:=by
 cases k<;>simp only [ikOps] at h<;>simp only [opAV,valAV]
 case pick c a b=>rw [zy h.left.left,zy h.left.right,zy h.right]
 case min3 c a b=>rw [zy h.left.left,zy h.left.right,zy h.right]
 case build zs ps=>rw [zai h]
 case lit z ag zero n ps=>rw [z90 h]
 case litm z ag zero n ps=>rw [z90 h]
 case func f a b=>rw [z17 h.left,z17 h.right]
 case slice z x lo hi mx=>rw [zy h.left.left.left,z65 h.left.left.right,z65 h.left.right,z65 h.right]
 case slicea n z ag x lo hi mx=>rw [zy h.left.left.left,z65 h.left.left.right,z65 h.left.right,z65 h.right]
 case call p f args=>rw [z17 h]
 case callk f args=>rw [z17 h]
 case calll f args=>rw [z17 h]
 case callz f args=>rw [z17 h]
 case callr f args=>rw [z17 h]
 case invoke tab x args=>rw [zy h.left,z17 h.right]
 case loadp ts s ag a=>rw [zy h.left,zjn h.right]
 case storeq ts s a x=>rw [zy h.left.left,zy h.left.right,zi2 h.right]
 case callv p f args=>rw [zy h.left,z17 h.right]
 all_goals first
  |(rw [zy h];done)
  |(rw [zy h.left,zy h.right];done)
  |rfl
theorem zcl {e e':Env} {g:Option (Tmp×Bool)} (h:Agree (match g with|some (t,_)=> [t]|none=> []) e e'):wantedAV e g=wantedAV e' g:=by
 cases g with
 |none=>rfl
 |some g=>obtain ⟨t,b⟩:=g;simp only [wantedAV];rw [h t (by simp)]
theorem zek {ops:Array Oper} {o:Oper} {io:IOp} {pv rs:Bool} {mt:Mode} {nt:Nat} {us:Us} {w:World} {K:Kx} {env:Env} {a:Act} {b:Bool} (hc:compIOp P pure pv rs mt nt ops o=some io)(hE:EnvRel us w K env a)(h:wantedAV env io.g=some b):
  Region.wanted o (yielded ops a.tmps)=b:=by
 unfold compIOp at hc
 split at hc
 ·split at hc
  ·split at hc
   ·rename_i hg
    simp only [sI_] at hc
    subst hc
    simp only [wantedAV,sI_] at h
    subst h
    simp [Region.wanted,hg]
   ·rename_i j want hg
    split at hc
    ·rename_i t ht
     simp only [sI_] at hc
     subst hc
     simp only [wantedAV] at h
     have hr:=hE t
     have hy:yielded ops a.tmps j=match a.tmps[t]? with|some (.bool b)=>some b|_=>none:=by
      unfold yielded;rw [ht];rfl
     simp only [Region.wanted,hg,hy]
     have hget:a.tmps.getD t undef=(a.tmps[t]?).getD undef:=by simp
     rw [hget] at hr
     split at h
     ·rename_i v hv
      rw [hv] at hr
      have e:=hr.v_inv
      simp only [sI_] at h
      subst h
      cases ha:a.tmps[t]? with
      |none=>rw [ha] at e;simp [undef] at e
      |some x=>rw [ha] at e;simp only [Option.getD_some] at e;subst e;cases v<;>cases want<;>rfl
     ·rename_i x hx hv
      rw [hv] at hr
      have e:=hr.v_inv
      simp only [sI_] at h
      subst h
      cases ha:a.tmps[t]? with
      |none=>rfl
      |some y=>
       rw [ha] at e;simp only [Option.getD_some] at e;subst e
       cases y<;>first|rfl|exact absurd rfl (hx _)
     ·simp at h
    ·simp at hc
  ·simp at hc
 ·simp at hc
theorem zgh {ops:Array Oper} {o:Oper} {io:IOp} {pv rs:Bool} {mt:Mode} {nt:Nat} (hc:compIOp P pure pv rs mt nt ops o=some io):io.d=o.dst∧compOp P pure pv rs mt o.op=some io.k∧o.dst.all (· <nt)=true:=by
 unfold compIOp at hc
 split at hc
 ·rename_i k hk
  split at hc
  ·rename_i hd
   split at hc
   ·simp only [sI_] at hc;subst hc;exact ⟨rfl,hk,hd⟩
   ·split at hc
    ·simp only [sI_] at hc;subst hc;exact ⟨rfl,hk,hd⟩
    ·simp at hc
  ·simp at hc
 ·simp at hc
theorem Good.extend {us:Us} {w:World} {K:Kx} {S S2:St} (hG:Good us w K S)(h1: ∃r,S2.store=S.store++r)(h2: ∃r,S2.tips=S.tips++r):Good us w {K with T:=S2.tips} S2∧Ext us w K us w {K with T:=S2.tips}:=by
 obtain ⟨r1,h1⟩:=h1
 obtain ⟨r2,h2⟩:=h2
 have hk:KLe us w K us w {K with T:=S2.tips}:=by
  refine ⟨fun _ _ h=>⟨h,fun _ h=>h⟩,fun t m h=>⟨m,?_,Nat.le_refl _,fun _ _ h=>⟨h,rfl,fun _ h=>h⟩⟩⟩
  rw [hG.T] at h
  simp only [h2]
  rw [List.getElem?_append_left (List.getElem?_eq_some_iff.1 h).1];exact h
 have hg: ∀l c,K.lm l=some c→S2.store[l]? =S.store[l]? :=fun l c h=>by rw [h1,List.getElem?_append_left (hG.lmlt l c h)]
 refine ⟨⟨rfl,fun l c h=> ?_,fun l c cs hl hs=> ?_,fun l l' c h h'=>by rw [hg l c h,hg l' c h'];exact hG.inj l l' c h h',hG.tkinj,fun t c h=> ?_,hG.tkus,hG.uslt,fun l c h=>by rw [hg l c h];exact hG.disj l c h,hG.lmtk⟩,⟨rfl,rfl,rfl,Nat.le_refl _,fun _ _ h=>h,.refl _ _,hk,fun _ _ _ _=>⟨rfl,rfl⟩,fun _ _ h _=>h,fun l _ h=> .inl ⟨l,h⟩,fun _ _ h=> .inl h⟩⟩
 ·have:=hG.lmlt l c h;rw [h1];simp;omega
 ·have hlt:=hG.lmlt l c hl
  rw [h1,List.getElem?_append_left hlt] at hs
  exact (hG.blk l c cs hl hs).mono (.refl _ _) hk rfl
 ·have:=hG.tklt t c h;rw [h2];simp;omega
theorem z7h (p D:Nat→Bool): ∀n,∃q,q≤n∧(q<n→p q=true∧D q=false)∧∀j,j<q→p j=true→D j=true
 |0=>⟨0,Nat.le_refl _,fun h=>absurd h (by omega),fun j h=>absurd h (by omega)⟩
 |n+1=>by
  obtain ⟨q,h1,h2,h3⟩:=z7h p D n
  by_cases e:q<n
  ·exact ⟨q,by omega,fun _=>h2 e,h3⟩
  ·have:q=n:=by omega
   subst this
   by_cases hp:p q=true∧D q=false
   ·exact ⟨q,by omega,fun _=>hp,h3⟩
   ·refine ⟨q+1,Nat.le_refl _,fun h=>absurd h (by omega),fun j hj hpj=> ?_⟩
    by_cases e2:j=q
    ·subst e2
     cases hD:D j with
     |true=>rfl
     |false=>exact absurd ⟨hpj,hD⟩ hp
    ·exact h3 j (by omega) hpj
def ikAt (ks:List IOp) (i:Nat):IK:=((ks[i]?).map (·.k)).getD (.move (.tmp 0))
theorem z7e {ks:List IOp} {i:Nat} (h:i<ks.length):ikAt ks i=ks[i].k:=by simp [ikAt,h]
structure NewK (L N:Nat) (K K':Kx):Prop where
 lm: ∀l c,K'.lm l=some c→K.lm l=some c∨L≤l
 tk: ∀t,(K'.tk t).isSome=true→(K.tk t).isSome=true∨N≤t
theorem NewK.refl (L N:Nat)(K:Kx):NewK L N K K:=⟨fun _ _ h=> .inl h,fun _ h=> .inl h⟩
theorem NewK.trans {L N L' N':Nat} {K K1 K2:Kx} (h:NewK L N K K1)(h':NewK L' N' K1 K2)(hL:L≤L')(hN:N≤N'):NewK L N K K2:=
 ⟨fun l c e=>(h'.lm l c e).elim (h.lm l c) (fun e=> .inr (by omega)),fun t e=>(h'.tk t e).elim (h.tk t) (fun e=> .inr (by omega))⟩
theorem Fresh.newK {st st':St} {K K':Kx} (h:Fresh st st' K K'):NewK st.store.length st.tips.length K K':=
 ⟨fun l c e=>(h.lm l c e).elim .inl (fun e=> .inr e.1),fun t e=>(h.tk t e).elim .inl (fun e=> .inr e.1)⟩
structure Inv (ks:List IOp) (E:Nat→Env) (T:Nat→St) (V:Nat→AV) (nt:Nat) (ds:List Deferred×(Tmp→Value)) (us0:Us) (w0:World) (K0:Kx) (D:Nat→Bool) (a:Act) (w:World) (us:Us) (K:Kx) (qS qT:Nat):Prop where
 ext:Ext us0 w0 K0 us w K
 good:Good us w K ⟨(T qS).store,(T qT).tips⟩
 env:EnvRel us w K (envOf ks V D (E 0) ks.length) a
 qS1:qS≤ks.length
 qS2:qS<ks.length→turnsS (ikAt ks qS)=true∧D qS=false
 qS3: ∀j,j<qS→turnsS (ikAt ks j)=true→D j=true
 qT1:qT≤ks.length
 qT2:qT<ks.length→turnsT (ikAt ks qT)=true∧D qT=false
 qT3: ∀j,j<qT→turnsT (ikAt ks j)=true→D j=true
 freeL: ∀i,i<ks.length→D i=false→∀l,(T i).store.length≤l→l<(T (i+1)).store.length→K.lm l=none
 freeT: ∀i,i<ks.length→D i=false→∀t,(T i).tips.length≤t→t<(T (i+1)).tips.length→K.tk t=none
 size:nt≤a.tmps.size
 new:NewK (T 0).store.length (T 0).tips.length K0 K
 defers:a.defers=ds.1∧∀t,(∀i (h:i<ks.length),ks[i].d≠some t)→a.tmps.getD t undef=ds.2 t
def Okay (ks:List IOp):List Nat→(Nat→Bool)→Prop
 | [],D=> ∀i,i<ks.length→D i=true
 |i::r,D=>i<ks.length∧D i=false∧
  (∀j (hi:i<ks.length) (hj:j<ks.length),(j<i→conf ks[j] ks[i]=true→D j=true)∧(i<j→conf ks[i] ks[j]=true→D j=false))∧
  Okay ks r (fun j=>D j||j==i)
theorem z40 {a b:IOp} (h:conf a b=false):(turns a.k&&&uses b.k=0)∧(turns b.k&&&uses a.k=0)∧(∀d,a.d=some d→d ∉ looks b∧b.d≠some d)∧(∀d,b.d=some d→d ∉ looks a):=by
 simp only [conf,Bool.not_eq_false',Bool.and_eq_true,beq_iff_eq] at h
 obtain ⟨⟨⟨h1,h2⟩,h3⟩,h4⟩:=h
 refine ⟨h1,h2,fun d hd=> ?_,fun d hd=> ?_⟩
 ·rw [hd] at h3;simpa using h3
 ·rw [hd] at h4;simpa using h4
theorem z8b (k:IK):(turnsS k=true→usesS k=true)∧(turnsT k=true→usesT k=true):=by
 cases k<;>simp only [turnsS,turnsT,usesS,usesT,turns,uses]<;>first
  |decide
  |(split<;>decide)
  |simp
theorem z7l {x y:Nat} (h:x&&&y=0)(i:Nat):x.testBit i=true→y.testBit i=true→False:=by
 intro h1 h2
 have:=Nat.testBit_and x y i
 rw [h,h1,h2] at this
 simp at this
end
end Go.Ev
namespace Go.Ev
open Go
section
variable {P:Program} {pure:FuncId→Bool} {call:CallF}
variable {ks:List IOp} {E:Nat→Env} {T:Nat→St} {V:Nat→AV} {nt:Nat} {ds:List Deferred×(Tmp→Value)} {us0:Us} {w0:World} {K0:Kx}
theorem zgv (a:Act)(d:Option Tmp)(x:Value)(t:Tmp)(h: ∀i,d=some i→i<a.tmps.size):(a.put d x).tmps.getD t undef=if d=some t then x else a.tmps.getD t undef:=by
 cases d with
 |none=>simp [Act.put]
 |some i=>
  have hi:=h i rfl
  simp only [Act.put,sI_]
  by_cases e:i=t
  ·subst e;simp [hi]
  ·simp [e,Array.getElem?_setIfInBounds_ne e]
theorem zlp (a:Act)(d:Option Tmp)(x:Value):(a.put d x).tmps.size=a.tmps.size:=by cases d<;>simp [Act.put]
theorem zhv (a:Act)(d:Option Tmp)(x:Value):(a.put d x).defers=a.defers:=by cases d<;>rfl
theorem Inv.next (ht:Trace pure call ks E T V)(hm:CallMono pure call) {D:Nat→Bool} {a:Act} {w:World} {us:Us} {K:Kx} {qS qT i:Nat} (h:Inv ks E T V nt ds us0 w0 K0 D a w us K qS qT)
  (hi:i<ks.length) (hDi:D i=false) (hconf: ∀j (hj:j<ks.length),(j<i→conf ks[j] ks[i]=true→D j=true)∧(i<j→conf ks[i] ks[j]=true→D j=false))
  {x:Value} {us1:Us} {w1:World} {K1:Kx} {S1:St} (hd: ∀d,ks[i].d=some d→d<nt) (hr:Rel us1 w1 K1 (V i) x) (he:Ext us w K us1 w1 K1) (hg:Good us1 w1 K1 S1) (hf:Fresh (T i) (T (i+1)) K K1)
  (hS:S1.store=if turnsS ks[i].k=true then (T (i+1)).store else (T qS).store) (hT:S1.tips=if turnsT ks[i].k=true then (T (i+1)).tips else (T qT).tips):
  ∃us' K' qS' qT',Inv ks E T V nt ds us0 w0 K0 (fun j=>D j||j==i) (a.put ks[i].d x) w1 us' K' qS' qT':=by
 let D':Nat→Bool:=fun j=>D j||j==i
 have hD': ∀j,j≠i→D' j=D j:=fun j hj=>by simp [D',hj]
 have hD'i:D' i=true:=by simp [D']
 have next: ∀(tn:IK→Bool) (us_:IK→Bool) (q:Nat) (b:Nat),(∀k,tn k=(turns k).testBit b)→(∀k,us_ k=(uses k).testBit b)→(∀k,tn k=true→us_ k=true)→q≤ks.length→(q<ks.length→tn (ikAt ks q)=true∧D q=false)→(∀j,j<q→tn (ikAt ks j)=true→D j=true)→
   ∃q',q'≤ks.length∧(q'<ks.length→tn (ikAt ks q')=true∧D' q'=false)∧(∀j,j<q'→tn (ikAt ks j)=true→D' j=true)∧
    (if tn ks[i].k=true then i+1≤q'∧∀m (hm:m<ks.length),i+1≤m→m<q'→tn ks[m].k=false else q'=q):=by
  intro tn us_ q b htn hus htu hq1 hq2 hq3
  by_cases hti:tn ks[i].k=true
  ·obtain ⟨q',g1,g2,g3⟩:=z7h (fun j=>tn (ikAt ks j)) D' ks.length
   refine ⟨q',g1,g2,g3,?_⟩
   rw [if_pos hti]
   have hcf: ∀m (hm:m<ks.length),tn ks[m].k=true→(m<i→D m=true)∧(i<m→D m=false):=by
    intro m hm hmt
    refine ⟨fun hlt=>(hconf m hm).1 hlt ?_,fun hlt=>(hconf m hm).2 hlt ?_⟩
    ·cases hc:conf ks[m] ks[i] with
     |true=>rfl
     |false=>
      have:=(z40 hc).1
      exact absurd (z7l this b (by rw [←htn];exact hmt) (by rw [←hus];exact htu _ hti)) (by simp)
    ·cases hc:conf ks[i] ks[m] with
     |true=>rfl
     |false=>
      have:=(z40 hc).1
      exact absurd (z7l this b (by rw [←htn];exact hti) (by rw [←hus];exact htu _ hmt)) (by simp)
   have hge:i+1≤q':=by
    rcases Nat.lt_or_ge q' (i+1) with hlt|hge
    ·have hqn:q'<ks.length:=by omega
     obtain ⟨h1,h2⟩:=g2 hqn
     rw [z7e hqn] at h1
     by_cases e:q'=i
     ·subst e;rw [hD'i] at h2;exact absurd h2 (by simp)
     ·have:=(hcf q' hqn h1).1 (by omega)
      rw [hD' q' e,this] at h2
      exact absurd h2 (by simp)
    ·exact hge
   refine ⟨hge,fun m hmn h1 h2=> ?_⟩
   cases hmt:tn ks[m].k with
   |false=>rfl
   |true=>
    have h3:=g3 m h2 (by rw [z7e hmn];exact hmt)
    rw [hD' m (by omega)] at h3
    have h4:=(hcf m hmn hmt).2 (by omega)
    rw [h3] at h4
    exact absurd h4 (by simp)
  ·refine ⟨q,hq1,fun hqn=> ?_,fun j hj hjt=> ?_,by rw [if_neg hti]⟩
   ·obtain ⟨h1,h2⟩:=hq2 hqn
    refine ⟨h1,?_⟩
    rw [hD' q ?_];exact h2
    intro e;subst e;rw [z7e hqn] at h1;exact hti h1
   ·have:=hq3 j hj hjt
    simp [D',this]
 obtain ⟨qS',a1,a2,a3,a4⟩:=next turnsS usesS qS 0 (fun _=>rfl) (fun _=>rfl) (fun k=>(z8b k).1) h.qS1 h.qS2 h.qS3
 obtain ⟨qT',b1,b2,b3,b4⟩:=next turnsT usesT qT 1 (fun _=>rfl) (fun _=>rfl) (fun k=>(z8b k).2) h.qT1 h.qT2 h.qT3
 have eS: ∃r,(T qS').store=S1.store++r:=by
  rw [hS]
  split at a4
  ·next hh=>rw [if_pos hh];exact ht.pushS hm a4.1 a1 a4.2
  ·next hh=>rw [if_neg hh,a4];exact ⟨[],by simp⟩
 have eT: ∃r,(T qT').tips=S1.tips++r:=by
  rw [hT]
  split at b4
  ·next hh=>rw [if_pos hh];exact ht.pushT hm b4.1 b1 b4.2
  ·next hh=>rw [if_neg hh,b4];exact ⟨[],by simp⟩
 obtain ⟨hg2,he2⟩:=hg.extend (S2:=⟨(T qS').store,(T qT').tips⟩) eS eT
 have hput: ∀t,(a.put ks[i].d x).tmps.getD t undef=if ks[i].d=some t then x else a.tmps.getD t undef:=fun t=>zgv a ks[i].d x t (fun d hdd=>Nat.lt_of_lt_of_le (hd d hdd) h.size)
 refine ⟨us1,_,qS',qT',h.ext.trans (he.trans he2),hg2,fun t=> ?_,a1,a2,a3,b1,b2,b3,fun j hj hjD l hl1 hl2=> ?_,fun j hj hjD l hl1 hl2=> ?_,by rw [zlp];exact h.size,?_,⟨by rw [zhv];exact h.defers.1,fun t ht0=>by rw [zgv _ _ _ _ (fun d hdd=>Nat.lt_of_lt_of_le (hd d hdd) h.size),if_neg (ht0 i hi)];exact h.defers.2 t ht0⟩⟩
 ·rw [hput]
  by_cases e:ks[i].d=some t
  ·rw [if_pos e]
   have e1:(envOf ks V D' (E 0) ks.length).get t=(E (i+1)).get t:=by
    rw [←z86 (D:=fun j=>decide (j<i+1)) ht (i+1) ks.length hi (Nat.le_refl _) (fun j hj=>by simpa using hj) (fun j hj _=>by simp;omega)]
    refine z7i ks.length (fun j hj hjd=> ?_)
    rw [List.getElem?_eq_getElem hj] at hjd
    simp only [Option.bind_some] at hjd
    rcases Nat.lt_trichotomy j i with hlt|rfl|hgt
    ·rw [hD' j (by omega)]
     have:D j=true:=(hconf j hj).1 hlt (by
      cases hc:conf ks[j] ks[i] with
      |true=>rfl
      |false=>exact absurd e ((z40 hc).2.2.1 t hjd).2)
     rw [this];simp;omega
    ·rw [hD'i];simp
    ·rw [hD' j (by omega)]
     have:D j=false:=(hconf j hj).2 hgt (by
      cases hc:conf ks[i] ks[j] with
      |true=>rfl
      |false=>exact absurd hjd ((z40 hc).2.2.1 t e).2)
     rw [this];simp;omega
   rw [e1,(ht.step i hi).1,z8n,if_pos e]
   exact hr.mono he2.usle he2.kle
  ·rw [if_neg e]
   have e1:(envOf ks V D' (E 0) ks.length).get t=(envOf ks V D (E 0) ks.length).get t:=by
    refine z7i ks.length (fun j hj hjd=> ?_)
    by_cases ej:j=i
    ·subst ej
     rw [List.getElem?_eq_getElem hj] at hjd
     exact absurd hjd e
    ·exact hD' j ej
   rw [e1]
   exact (h.env t).mono (he.trans he2).usle (he.trans he2).kle
 ·have hji:j≠i:=fun e=>by subst e;simp at hjD
  replace hjD:D j=false:=by simpa [hji] using hjD
  have h0:=h.freeL j hj hjD l hl1 hl2
  cases hk:K1.lm l with
  |none=>rfl
  |some c=>
   rcases hf.lm l c hk with h1| ⟨h1,h2⟩
   ·rw [h0] at h1;exact absurd h1 (by simp)
   ·exfalso
    rcases Nat.lt_or_gt_of_ne hji with hlt|hgt
    ·have:=(ht.mono hm (i:=j+1) (j:=i) (by omega) (by omega)).1;omega
    ·have:=(ht.mono hm (i:=i+1) (j:=j) (by omega) (by omega)).1;omega
 ·have hji:j≠i:=fun e=>by subst e;simp at hjD
  replace hjD:D j=false:=by simpa [hji] using hjD
  have h0:=h.freeT j hj hjD l hl1 hl2
  cases hk:K1.tk l with
  |none=>rfl
  |some c=>
   rcases hf.tk l (by rw [hk];rfl) with h1| ⟨h1,h2⟩
   ·rw [h0] at h1;exact absurd h1 (by simp)
   ·exfalso
    rcases Nat.lt_or_gt_of_ne hji with hlt|hgt
    ·have:=(ht.mono hm (i:=j+1) (j:=i) (by omega) (by omega)).2;omega
    ·have:=(ht.mono hm (i:=i+1) (j:=j) (by omega) (by omega)).2;omega
 ·have hmo:=ht.mono hm (i:=0) (j:=i) (by omega) (by omega)
  refine h.new.trans (K1:=K) (L':=(T i).store.length) (N':=(T i).tips.length) ?_ hmo.1 hmo.2
  exact ⟨fun l c e=>hf.newK.lm l c e,fun t e=>hf.newK.tk t e⟩
theorem zfb {D:Nat→Bool} {q i:Nat} (tn us_:IK→Bool)(b:Nat)(htn: ∀k,tn k=(turns k).testBit b)(hus: ∀k,us_ k=(uses k).testBit b)(htu: ∀k,tn k=true→us_ k=true)
  (hi:i<ks.length) (hDi:D i=false) (hconf: ∀j (hj:j<ks.length),(j<i→conf ks[j] ks[i]=true→D j=true)∧(i<j→conf ks[i] ks[j]=true→D j=false))
  (hq1:q≤ks.length) (hq2:q<ks.length→tn (ikAt ks q)=true∧D q=false) (hq3: ∀j,j<q→tn (ikAt ks j)=true→D j=true):
  (tn ks[i].k=true→q=i)∧(tn ks[i].k=false→us_ ks[i].k=true→i+1≤q∧∀m (hm:m<ks.length),i+1≤m→m<q→tn ks[m].k=false):=by
 have low:us_ ks[i].k=true→¬(q<i):=by
  intro hu hlt
  have hqn:q<ks.length:=by omega
  obtain ⟨h1,h2⟩:=hq2 hqn
  rw [z7e hqn] at h1
  have:=(hconf q hqn).1 hlt (by
   cases hc:conf ks[q] ks[i] with
   |true=>rfl
   |false=>exact absurd (z7l (z40 hc).1 b (by rw [←htn];exact h1) (by rw [←hus];exact hu)) (by simp))
  rw [this] at h2;exact absurd h2 (by simp)
 refine ⟨fun h=> ?_,fun h hu=> ?_⟩
 ·have h1:=low (htu _ h)
  rcases Nat.lt_or_ge i q with hlt|hge
  ·have:=hq3 i hlt (by rw [z7e hi];exact h)
   rw [hDi] at this;exact absurd this (by simp)
  ·omega
 ·have h1:=low hu
  have h2:q≠i:=by
   intro e;subst e
   have:=(hq2 hi).1
   rw [z7e hi,h] at this
   exact absurd this (by simp)
  refine ⟨by omega,fun m hm h3 h4=> ?_⟩
  cases hmt:tn ks[m].k with
  |false=>rfl
  |true=>
   have h5:=hq3 m h4 (by rw [z7e hm];exact hmt)
   have h6:=(hconf m hm).2 (by omega) (by
    cases hc:conf ks[i] ks[m] with
    |true=>rfl
    |false=>exact absurd (z7l (z40 hc).2.1 b (by rw [←htn];exact hmt) (by rw [←hus];exact hu)) (by simp))
   rw [h5] at h6;exact absurd h6 (by simp)
def OpOf (ks:List IOp) (E:Nat→Env) (T:Nat→St) (i:Nat) (io k:IOp):Prop:=
 io=k∨(∃ts s ag x,io.k=.load s ag x∧k=⟨io.d,io.g,.loadp ts s ag x⟩∧(wantedAV (E i) io.g=some true→∀q,q≤ks.length→loadAV s ag (T q) (aval (E i) x)=loadAV s ag (T i) (aval (E i) x)))∨
  (∃ts s a x,io.k=.store s a x∧k=⟨io.d,io.g,.storeq ts s a x⟩)
theorem OpOf.dg {i:Nat} {io k:IOp} (h:OpOf ks E T i io k):k.d=io.d∧k.g=io.g:=by
 rcases h with rfl| ⟨_,_,_,_,_,rfl,_⟩ | ⟨_,_,_,_,_,rfl⟩ <;>exact ⟨rfl,rfl⟩
theorem zgf (s:Nat)(ag:Bool)(S S':St)(h:S.store=S'.store)(x:AV):loadAV s ag S x=loadAV s ag S' x:=by
 cases x<;>simp only [loadAV,h]
theorem zcw {G:Nat→List Nat} {ops:Array Oper} {Q:Exit→Act→World→Prop} (hcomp: ∀i (h:i<ks.length),∃(pv rs:Bool) (mt:Mode) (o:Oper) (io:IOp),ops[i]? =some o∧compIOp P pure pv rs mt nt ops o=some io∧GlobOk mt.2.2.2 us0 w0∧OpOf ks E T i io ks[i])(hgl:GlobOk G us0 w0)(ht:Trace pure call ks E T V)(hm:CallMono pure call)(hcall:CallOk P G pure call)(hcs:CallStore pure call)
  (hQ: ∀a w us K qS qT D,(∀i,i<ks.length→D i=true)→Inv ks E T V nt ds us0 w0 K0 D a w us K qS qT→Q .normal a w):
  ∀(π:List Nat) (D:Nat→Bool) (a:Act) (w:World),Okay ks π D→(∃us K qS qT,Inv ks E T V nt ds us0 w0 K0 D a w us K qS qT)→wpOps P ops Q π a w:=by
 intro π
 induction π with
 |nil=>intro D a w hD ⟨us,K,qS,qT,h⟩;exact hQ a w us K qS qT D hD h
 |cons i rest ih=>
  intro D a w ⟨hi,hDi,hconf,hrest⟩ ⟨us,K,qS,qT,h⟩
  have hconf':=fun j hj=>hconf j hi hj
  obtain ⟨pv,rs,mt,o,io,ho,hc,hgm,hof⟩:=hcomp i hi
  obtain ⟨hd1,hd2,hd3⟩:=zgh hc
  obtain ⟨hod,hog⟩:=hof.dg
  rw [←hod] at hd1
  have hdlt: ∀d,ks[i].d=some d→d<nt:=by
   intro d hd
   rw [hd1] at hd
   rw [hd] at hd3
   simpa using hd3
  have hag:Agree (looks ks[i]) (envOf ks V D (E 0) ks.length) (E i):=by
   intro t htl
   rw [←z86 (D:=fun j=>decide (j<i)) ht i ks.length (by omega) (Nat.le_refl _) (fun j hj=>by simpa using hj) (fun j hj _=>by simp;omega)]
   refine z7i ks.length (fun j hj hjd=> ?_)
   rw [List.getElem?_eq_getElem hj] at hjd
   simp only [Option.bind_some] at hjd
   rcases Nat.lt_trichotomy j i with hlt|rfl|hgt
   ·have:D j=true:=(hconf' j hj).1 hlt (by
     cases hcf:conf ks[j] ks[i] with
     |true=>rfl
     |false=>exact absurd htl ((z40 hcf).2.2.1 t hjd).1)
    rw [this];simp;omega
   ·rw [hDi];simp
   ·have:D j=false:=(hconf' j hj).2 hgt (by
     cases hcf:conf ks[i] ks[j] with
     |true=>rfl
     |false=>exact absurd htl ((z40 hcf).2.2.2 t hjd))
    rw [this];simp;omega
  have hw:wantedAV (envOf ks V D (E 0) ks.length) ks[i].g=wantedAV (E i) ks[i].g:=zcl (hag.left)
  have hcS:=zfb (D:=D) turnsS usesS 0 (fun _=>rfl) (fun _=>rfl) (fun k=>(z8b k).1) hi hDi hconf' h.qS1 h.qS2 h.qS3
  have hcT:=zfb (D:=D) turnsT usesT 1 (fun _=>rfl) (fun _=>rfl) (fun k=>(z8b k).2) hi hDi hconf' h.qT1 h.qT2 h.qT3
  simp only [wpOps,ho]
  rcases (ht.step i hi).2 with ⟨hwt,hop⟩ | ⟨hwt,hV,hTi⟩
  ·rw [zek hc h.env (by rw [←hog];exact hw.trans hwt),if_pos rfl]
   refine .inl ?_
   have hop':opAV pure call (envOf ks V D (E 0) ks.length) (T i) ks[i].k=some (V i,T (i+1)):=(zi0 hag.right).trans hop
   let S':St:=⟨if turnsS ks[i].k=true then (T (i+1)).store else (T qS).store,if turnsT ks[i].k=true then (T (i+1)).tips else (T qT).tips⟩
   have hcp:Compat ks[i].k (T i) (T (i+1)) ⟨(T qS).store,(T qT).tips⟩ S' K:=by
    refine ⟨fun e=>⟨by rw [hcS.1 e],by simp [S',e]⟩,fun e=>by simp [S',e],fun e hu=> ?_,fun e=>⟨by rw [hcT.1 e],by simp [S',e]⟩,fun e=>by simp [S',e],fun e hu=> ?_,h.freeL i hi hDi,h.freeT i hi hDi⟩
    ·obtain ⟨g1,g2⟩:=hcS.2 e hu
     exact ht.pushS hm g1 h.qS1 g2
    ·obtain ⟨g1,g2⟩:=hcT.2 e hu
     exact ht.pushT hm g1 h.qT1 g2
   rcases hof with e| ⟨ts,s,ag,x,e1,e2,hpr⟩ | ⟨ts,s,y,x,e1,e2⟩
   ·rw [e] at hd2
    refine zgb hd2 hop' hcall hcs (hgl.mono h.ext.usle) (hgm.mono h.ext.usle) h.env h.good hcp _ _ (fun x us1 w1 K1 hr he hg hf=> ?_)
    rw [←hd1]
    exact ih _ _ _ hrest (h.next ht hm hi hDi hconf' hdlt hr he hg hf rfl rfl)
   ·have ek:ks[i].k=.loadp ts s ag x:=by rw [e2]
    rw [ek] at hop'
    have hop0:=hop
    rw [ek] at hop0
    simp only [opAV,only] at hop' hop0
    have hax:aval (envOf ks V D (E 0) ks.length) x=aval (E i) x:=zy (by have:=hag.right;rw [ek] at this;exact this.left)
    have hl:=hpr (by rw [←hog];exact hwt) qS h.qS1
    split at hop'
    ·split at hop'
     ·rename_i a0 ha0
      simp only [sI_,Prod.mk.injEq] at hop'
      obtain ⟨rfl,hTi⟩:=hop'
      rw [e1] at hd2
      have hld:opAV pure call (envOf ks V D (E 0) ks.length) ⟨(T qS).store,(T qT).tips⟩ (.load s ag x)=some (V i,⟨(T qS).store,(T qT).tips⟩):=by
       simp only [opAV,only]
       rw [zgf s ag ⟨(T qS).store,(T qT).tips⟩ (T qS) rfl,hax,hl,←hax,ha0]
      have hcp2:Compat (.load s ag x) ⟨(T qS).store,(T qT).tips⟩ ⟨(T qS).store,(T qT).tips⟩ ⟨(T qS).store,(T qT).tips⟩ ⟨(T qS).store,(T qT).tips⟩ K:=
       ⟨fun _=>⟨rfl,rfl⟩,fun _=>rfl,fun _ _=>⟨[],by simp⟩,fun _=>⟨rfl,rfl⟩,fun _=>rfl,fun _ _=>⟨[],by simp⟩,fun l h1 h2=>absurd h1 (by omega),fun l h1 h2=>absurd h1 (by omega)⟩
      refine zgb hd2 hld hcall hcs (hgl.mono h.ext.usle) (hgm.mono h.ext.usle) h.env h.good hcp2 _ _ (fun y us1 w1 K1 hr he hg hf=> ?_)
      rw [←hd1]
      have hf':Fresh (T i) (T (i+1)) K K1:=⟨fun l c hk=>(hf.lm l c hk).elim .inl (fun h2=>absurd h2.1 (by omega)),fun t hk=>(hf.tk t hk).elim .inl (fun h2=>absurd h2.1 (by omega))⟩
      refine ih _ _ _ hrest (h.next ht hm hi hDi hconf' hdlt hr he hg hf' ?_ ?_)
      ·rw [ek];simp [turnsS,turns]
      ·rw [ek];simp [turnsT,turns]
     ·simp at hop'
    ·simp at hop'
   ·have ek:ks[i].k=.storeq ts s y x:=by rw [e2]
    rw [ek] at hop' hcp
    rw [e1] at hd2
    have hst:opAV pure call (envOf ks V D (E 0) ks.length) (T i) (.store s y x)=some (V i,T (i+1)):=by
     simp only [opAV] at hop'⊢
     split at hop'
     ·exact hop'
     ·simp at hop'
    have hcp2:Compat (.store s y x) (T i) (T (i+1)) ⟨(T qS).store,(T qT).tips⟩ S' K:=⟨hcp.s1,hcp.s2,hcp.s3,hcp.t1,hcp.t2,hcp.t3,hcp.freeL,hcp.freeT⟩
    refine zgb hd2 hst hcall hcs (hgl.mono h.ext.usle) (hgm.mono h.ext.usle) h.env h.good hcp2 _ _ (fun z us1 w1 K1 hr he hg hf=> ?_)
    rw [←hd1]
    exact ih _ _ _ hrest (h.next ht hm hi hDi hconf' hdlt hr he hg hf rfl rfl)
  ·rw [zek hc h.env (by rw [←hog];exact hw.trans hwt),if_neg (by simp)]
   rw [←hd1]
   have hr:Rel us w K (V i) undef:=by rw [hV];exact .v K _ rfl
   refine ih _ _ _ hrest (h.next ht hm hi hDi hconf' hdlt hr (.refl _ _ _) h.good ⟨fun _ _ h=> .inl h,fun _ h=> .inl h⟩ ?_ ?_)
   ·split
    ·next e=>rw [hcS.1 e,hTi]
    ·rfl
   ·split
    ·next e=>rw [hcT.1 e,hTi]
    ·rfl
end
end Go.Ev
namespace Go.Ev
open Go
theorem zfv (g:Nat→Nat)(b:Edge→Bool)(i:Nat): ∀(l:List Edge) (s:Nat),(l.foldl (fun s e=>if b e=true then s|||2^e.on|||g e.on else s) s).testBit i=true→
  s.testBit i=true∨∃e∈l,b e=true∧(e.on=i∨(g e.on).testBit i=true)
 | [],s,h=> .inl h
 |e::l,s,h=>by
  simp only [List.foldl_cons] at h
  rcases zfv g b i l _ h with h1| ⟨e',he',h2⟩
  ·by_cases hb:b e=true
   ·simp only [hb,if_true,Nat.testBit_or,Bool.or_eq_true,Nat.testBit_two_pow,decide_eq_true_eq] at h1
    rcases h1 with (h1|h1)|h1
    ·exact .inl h1
    ·exact .inr ⟨e,by simp,hb,.inl h1⟩
    ·exact .inr ⟨e,by simp,hb,.inr h1⟩
   ·simp only [hb,Bool.false_eq_true,if_false] at h1
    exact .inl h1
  ·exact .inr ⟨e',by simp [he'],h2⟩
def befStep (acc:Array Nat) (o:Oper):Array Nat:=
 acc.push (o.after.foldl (fun s e=>if Region.binds .any e=true then s|||2^e.on|||acc.getD e.on 0 else s) 0)
theorem zl3 (ops:Array Oper):Region.before ops=ops.toList.foldl befStep #[]:=by
 unfold Region.before
 rw [←Array.foldl_toList]
 rfl
theorem zhk: ∀(l:List Oper) (acc:Array Nat),(l.foldl befStep acc).size=acc.size+l.length∧(∀k,k<acc.size→(l.foldl befStep acc)[k]? =acc[k]?)∧
  ∀j (h:j<l.length),∃acc':Array Nat,acc'.size=acc.size+j∧(∀k,k<acc.size+j→acc'[k]? =(l.foldl befStep acc)[k]?)∧
   (l.foldl befStep acc)[acc.size+j]? =some (l[j].after.foldl (fun s e=>if Region.binds .any e=true then s|||2^e.on|||acc'.getD e.on 0 else s) 0)
 | [],acc=>⟨by simp,fun _ _=>rfl,fun j h=>absurd h (by simp)⟩
 |o::l,acc=>by
  obtain ⟨h1,h2,h3⟩:=zhk l (befStep acc o)
  have hs:(befStep acc o).size=acc.size+1:=by simp [befStep]
  simp only [List.foldl_cons]
  refine ⟨by rw [h1,hs,List.length_cons];omega,fun k hk=> ?_,fun j hj=> ?_⟩
  ·rw [h2 k (by omega)]
   simp [befStep,Array.getElem?_push,Nat.ne_of_lt hk]
  ·cases j with
   |zero=>
    refine ⟨acc,rfl,fun k hk=> ?_,?_⟩
    ·rw [h2 k (by omega)]
     simp [befStep,Array.getElem?_push,Nat.ne_of_lt (show k<acc.size by omega)]
    ·rw [Nat.add_zero,h2 _ (by omega)]
     simp [befStep]
   |succ j=>
    obtain ⟨acc',g1,g2,g3⟩:=h3 j (by simpa using hj)
    refine ⟨acc',by omega,fun k hk=>g2 k (by omega),?_⟩
    rw [hs] at g3
    rw [show acc.size+(j+1)=acc.size+1+j from by omega,g3]
    simp
theorem zgj {ops:Array Oper} {j i:Nat} (hj:j<ops.size)(hlt: ∀e∈ops[j].after.toList,Region.binds .any e=true→e.on<j)(h:((Region.before ops).getD j 0).testBit i=true):
  ∃e∈ops[j].after.toList,Region.binds .any e=true∧(e.on=i∨((Region.before ops).getD e.on 0).testBit i=true):=by
 rw [zl3] at h⊢
 obtain ⟨h1,h2,h3⟩:=zhk ops.toList #[]
 obtain ⟨acc',g1,g2,g3⟩:=h3 j (by simpa using hj)
 have e0:(#[]:Array Nat).size=0:=rfl
 rw [e0] at g1 g2 g3
 simp only [Nat.zero_add] at g1 g2 g3
 have e1:(ops.toList.foldl befStep #[]).getD j 0=(ops.toList[j]'(by simpa using hj)).after.foldl (fun s e=>if Region.binds .any e=true then s|||2^e.on|||acc'.getD e.on 0 else s) 0:=by
  rw [Array.getD_eq_getD_getElem?,g3];rfl
 rw [e1,←Array.foldl_toList] at h
 rcases zfv (fun k=>acc'.getD k 0) (fun e=>Region.binds .any e) i _ 0 h with h4| ⟨e,he,hb,h5⟩
 ·simp at h4
 ·have he':e∈ops[j].after.toList:=by simpa using he
  refine ⟨e,he',hb,?_⟩
  rcases h5 with h5|h5
  ·exact .inl h5
  ·refine .inr ?_
   have hk:=hlt e he' hb
   have e2:acc'.getD e.on 0=(ops.toList.foldl befStep #[]).getD e.on 0:=by
    rw [Array.getD_eq_getD_getElem?,Array.getD_eq_getD_getElem?,g2 e.on hk]
   rw [←e2];exact h5
section
variable {ops:Array Oper} {ks:List IOp}
structure OrderOk (ops:Array Oper) (ks:List IOp):Prop where
 lt: ∀j (h:j<ops.size),∀e∈ops[j].after.toList,Region.binds .any e=true→e.on<j
 conf: ∀i j (hi:i<ks.length) (hj:j<ks.length),i<j→conf ks[i] ks[j]=true→((Region.before ops).getD j 0).testBit i=true
theorem zf4 (hlen:ks.length=ops.size)(h:orderOk ops ks=true):OrderOk ops ks:=by
 unfold orderOk at h
 simp only [List.all_eq_true,List.mem_range,Bool.and_eq_true] at h
 refine ⟨fun j hj e he hb=> ?_,fun i j hi hj hij hc=> ?_⟩
 ·have:=(h j hj).1
  rw [Array.getElem?_eq_getElem hj] at this
  simp only [Option.map_some,Option.getD_some] at this
  rw [←Array.all_toList] at this
  have:=List.all_eq_true.1 this e he
  simpa [hb] using this
 ·have:=(h j (by omega)).2 i hij
  rw [List.getElem?_eq_getElem hi,List.getElem?_eq_getElem hj] at this
  simpa [hc] using this
def Closed (ops:Array Oper) (D:Nat→Bool):Prop:=∀j (h:j<ops.size),D j=true→∀e∈ops[j].after.toList,Region.binds .any e=true→D e.on=true
theorem Closed.before {D:Nat→Bool} (ho:OrderOk ops ks)(hD:Closed ops D): ∀(j i:Nat) (hj:j<ops.size),(D j=true∨∀e∈ops[j].after.toList,Region.binds .any e=true→D e.on=true)→((Region.before ops).getD j 0).testBit i=true→D i=true:=by
 intro j
 induction j using Nat.strongRecOn with
 |_ j ih=>
  intro i hj h hb
  obtain ⟨e,he,heb,h2⟩:=zgj hj (ho.lt j hj) hb
  have hon:D e.on=true:=by
   rcases h with h|h
   ·exact hD j hj h e he heb
   ·exact h e he heb
  rcases h2 with rfl|h2
  ·exact hon
  ·have hlt:=ho.lt j hj e he heb
   exact ih e.on hlt i (by omega) (.inl hon) h2
def undone (D:Nat→Bool):Nat→Nat
 |0=>0
 |n+1=>undone D n+(if D n=true then 0 else 1)
theorem zen (D:Nat→Bool): ∀n,undone D n≤n
 |0=>Nat.le_refl _
 |n+1=>by have:=zen D n;simp only [undone];split<;>omega
theorem z7s {D D':Nat→Bool}: ∀n,(∀i,i<n→D i=D' i)→undone D n=undone D' n
 |0,_=>rfl
 |n+1,h=>by simp only [undone];rw [z7s n (fun i hi=>h i (by omega)),h n (by omega)]
theorem zb7 {D:Nat→Bool}: ∀{n:Nat},undone D n=0→∀i,i<n→D i=true
 |0,_,i,hi=>absurd hi (by omega)
 |n+1,h,i,hi=>by
  simp only [undone] at h
  by_cases e:i=n
  ·subst e
   split at h
   ·assumption
   ·omega
  ·exact zb7 (n:=n) (by omega) i (by omega)
theorem zcr {D:Nat→Bool} {i:Nat} (hD:D i=false): ∀{n:Nat},i<n→undone (fun j=>D j||j==i) n+1=undone D n
 |0,hi=>absurd hi (by omega)
 |n+1,hi=>by
  simp only [undone]
  by_cases e:i=n
  ·subst e
   rw [z7s (D:=fun j=>D j||j==i) (D':=D) i (fun j hj=>by
    have:(j==i)=false:=by simp;omega
    simp only [this,Bool.or_false])]
   simp [hD]
  ·have h2:(n==i)=false:=by simp;omega
   have:=zcr hD (n:=n) (by omega)
   simp only [h2,Bool.or_false]
   omega
theorem Okay.congr: ∀{π:List Nat} {D D':Nat→Bool},(∀i,i<ks.length→D i=D' i)→Okay ks π D→Okay ks π D'
 | [],D,D',h,hk=>fun i hi=>by rw [←h i hi];exact hk i hi
 |i::r,D,D',h,⟨h1,h2,h3,h4⟩=>⟨h1,by rw [←h i h1];exact h2,fun j hi hj=>by rw [←h j hj];exact h3 j hi hj,Okay.congr (fun j hj=>by rw [h j hj]) h4⟩
theorem zof (hlen:ks.length=ops.size)(ho:OrderOk ops ks): ∀(fuel t:Nat) (listed:Array Bool),listed.size=ops.size→Closed ops (fun j=>listed.getD j true)→undone (fun j=>listed.getD j true) ops.size≤fuel→
  Okay ks (Region.linearise.go .any ops fuel t listed []) (fun j=>listed.getD j true):=by
 intro fuel
 induction fuel with
 |zero=>
  intro t listed hs hcl hu
  simp only [Region.linearise.go,List.reverse_nil]
  intro i hi
  exact zb7 (D:=fun j=>listed.getD j true) (n:=ops.size) (by omega) i (by omega)
 |succ fuel ih=>
  intro t listed hs hcl hu
  simp only [Region.linearise.go]
  change Okay ks (match (Region.ready .any ops listed)[t % (Region.ready .any ops listed).length]? with
   |some i=>Region.linearise.go .any ops fuel (t / (Region.ready .any ops listed).length) (listed.setIfInBounds i true) [i]
   |none=> [].reverse) _
  have hmem: ∀i,i∈Region.ready .any ops listed↔i<ops.size∧listed.getD i true=false∧((ops[i]?).map (·.after.all fun e=> !Region.binds .any e||listed.getD e.on false)).getD false=true:=by
   intro i;simp [Region.ready]
  cases hi:(Region.ready .any ops listed)[t % (Region.ready .any ops listed).length]? with
  |none=>
   simp only [List.reverse_nil]
   have hnil:Region.ready .any ops listed=[]:=by
    cases hr:Region.ready .any ops listed with
    |nil=>rfl
    |cons x xs=>
     rw [hr] at hi
     have hlt:t % (x::xs).length<(x::xs).length:=Nat.mod_lt _ (by simp)
     simp at hi
     simp at hlt
     omega
   intro i hin
   have all: ∀j,j<ops.size→listed.getD j true=true:=by
    intro j
    induction j using Nat.strongRecOn with
    |_ j ihj=>
     intro hj
     cases hl:listed.getD j true with
     |true=>rfl
     |false=>
      exfalso
      have:j∈Region.ready .any ops listed:=by
       rw [hmem]
       refine ⟨hj,hl,?_⟩
       rw [Array.getElem?_eq_getElem hj]
       simp only [Option.map_some,Option.getD_some]
       rw [←Array.all_toList,List.all_eq_true]
       intro e he
       cases hb:Region.binds .any e with
       |false=>rfl
       |true=>
        have hlt:=ho.lt j hj e he hb
        have h1:=ihj e.on hlt (by omega)
        have h2:listed.getD e.on false=true:=by
         rw [Array.getD_eq_getD_getElem?] at h1⊢
         rw [Array.getElem?_eq_getElem (by omega)] at h1⊢
         exact h1
        simp [h2]
      rw [hnil] at this
      exact absurd this (by simp)
   exact all i (by omega)
  |some i=>
   simp only []
   have hir:=(hmem i).1 (List.mem_of_getElem? hi)
   obtain ⟨h1,h2,h3⟩:=hir
   rw [Array.getElem?_eq_getElem h1] at h3
   simp only [Option.map_some,Option.getD_some] at h3
   rw [←Array.all_toList] at h3
   have hedges: ∀e∈ops[i].after.toList,Region.binds .any e=true→(fun j=>listed.getD j true) e.on=true:=by
    intro e he hb
    have:=List.all_eq_true.1 h3 e he
    simp only [hb,Bool.not_true,Bool.false_or] at this
    rw [Array.getD_eq_getD_getElem?] at this
    show listed.getD e.on true=true
    rw [Array.getD_eq_getD_getElem?]
    cases hg:listed[e.on]? with
    |none=>rfl
    |some b=>rw [hg] at this;simpa using this
   rw [linearise_go_acc,List.reverse_singleton,List.singleton_append]
   have hD': ∀j,(listed.setIfInBounds i true).getD j true=(listed.getD j true||j==i):=by
    intro j
    rw [Array.getD_eq_getD_getElem?,Array.getD_eq_getD_getElem?,Array.getElem?_setIfInBounds]
    by_cases e:i=j
    ·subst e;simp [show i<listed.size by omega]
    ·have e':(j==i)=false:=by simp;omega
     rw [if_neg e,e',Bool.or_false]
   refine ⟨by omega,h2,fun j hi' hj'=>⟨fun hlt hc=> ?_,fun hgt hc=> ?_⟩,?_⟩
   ·exact hcl.before ho i j h1 (.inr hedges) (ho.conf j i hj' hi' hlt hc)
   ·show listed.getD j true=false
    cases hDj:listed.getD j true with
    |false=>rfl
    |true=>
     have:listed.getD i true=true:=hcl.before ho j i (by omega) (.inl hDj) (ho.conf i j hi' hj' hgt hc)
     rw [h2] at this;exact absurd this (by simp)
   ·refine Okay.congr (D:=fun j=>(listed.setIfInBounds i true).getD j true) (fun j _=>hD' j) (ih _ _ (by simpa using hs) ?_ ?_)
    ·intro j hj hDj e he hb
     show (listed.setIfInBounds i true).getD e.on true=true
     replace hDj:(listed.setIfInBounds i true).getD j true=true:=hDj
     rw [hD'] at hDj⊢
     simp only [Bool.or_eq_true,beq_iff_eq] at hDj⊢
     rcases hDj with hDj|rfl
     ·exact .inl (hcl j hj hDj e he hb)
     ·exact .inl (hedges e he hb)
    ·have h3:=z7s (D:=fun j=>(listed.setIfInBounds i true).getD j true) (D':=fun j=>listed.getD j true||j==i) ops.size (fun j _=>hD' j)
     have h4:=zcr (D:=fun j=>listed.getD j true) h2 h1
     omega
theorem zcp (hlen:ks.length=ops.size)(ho:OrderOk ops ks)(t:Nat):Okay ks (Region.linearise .any ops t) (fun _=>false):=by
 have h:=zof hlen ho ops.size t (Array.replicate ops.size false) (by simp) (by
  intro j hj h
  exfalso
  simp [Array.getD_eq_getD_getElem?,hj] at h) (zen _ _)
 refine Okay.congr (fun i hi=> ?_) h
 simp [Array.getD_eq_getD_getElem?,show i<ops.size by omega]
theorem zf6: ∀(m i:Nat),i+m=ks.length→Okay ks (List.range' i m) (fun j=>decide (j<i))
 |0,i,h=>fun j hj=>by simp;omega
 |m+1,i,h=>by
  rw [List.range'_succ]
  refine ⟨by omega,by simp,fun j hi hj=>⟨fun hlt _=>by simpa using hlt,fun hgt _=>by simp;omega⟩,?_⟩
  refine Okay.congr (fun j hj=> ?_) (zf6 m (i+1) (by omega))
  by_cases e:j=i
  ·subst e;simp
  ·have:(j==i)=false:=by simp [e]
   rw [this,Bool.or_false]
   simp;omega
end
end Go.Ev
namespace Go.Ev
open Go
section
variable {us:Us} {w:World} {K:Kx} {st:St}
def Kx.cut (K:Kx) (n:Nat):Kx:={K with lm:=fun l=>if l<n then K.lm l else none}
theorem z64 {n:Nat}: ∀{l:List AV},okRefs n l=true→∀i (h:i<l.length),okRef n l[i]=true
 | [],_,i,h=>absurd h (by simp)
 |a::r,hok,i,h=>by
  simp only [okRefs,Bool.and_eq_true] at hok
  cases i with
  |zero=>exact hok.1
  |succ i=>simpa using z64 hok.2 i (by simpa using h)
theorem Rel.cut {a x} (h:Rel us w K a x): ∀{n:Nat},okRef n a=true→Rel us w (K.cut n) a x:=by
 induction h with
 |any K x=>intro n _;exact .any _ x
 |v K x h=>intro n _;exact .v _ x h
 |ptr K l o c h=>intro n ho;exact .ptr _ l o c (by simp only [okRef,decide_eq_true_eq] at ho;simp [Kx.cut,ho,h])
 |eptr K e o c p n vs hu1 hn hc h1 hl hr _=>intro m _;exact .eptr _ e o c p n vs hu1 hn hc h1 hl hr
 |lst K g z xs c p n cap vs hu1 hn hc h1 hz hcap hl hr ht _=>intro m _;exact .lst _ g z xs c p n cap vs hu1 hn hc h1 hz hcap hl hr ht
 |rsl K l o n c z a b cap h hx=>intro m ho;exact .rsl _ l o n c z a b cap (by simp only [okRef,decide_eq_true_eq] at ho;simp [Kx.cut,ho,h]) hx
 |fn K f a b va vb ha hb _ _ iha ihb=>
  intro n ho
  simp only [okRef,Bool.and_eq_true] at ho
  exact .fn _ f a b va vb ha hb (fun i h h'=>iha i h h' (z64 ho.1 i h)) (fun i h h'=>ihb i h h' (z64 ho.2 i h))
 |ifc K t a x _ ih=>intro n ho;exact .ifc _ t a x (ih (by simpa [okRef] using ho))
 |agg K cs vs hl _ ih=>intro n ho;simp only [okRef] at ho;exact .agg _ cs vs hl (fun i h h'=>ih i h h' (z64 ho i h))
 |tup K cs vs hl _ ih=>intro n ho;simp only [okRef] at ho;exact .tup _ cs vs hl (fun i h h'=>ih i h h' (z64 ho i h))
theorem zf7 {n:Nat}: ∀{e:Env},okEnv n e=true→∀t,okRef n (e.get t)=true
 | [],_,t=>rfl
 |(i,a)::r,h,t=>by
  simp only [okEnv,Bool.and_eq_true] at h
  simp only [Env.get]
  split
  ·exact h.1
  ·exact zf7 h.2 t
theorem zbq {n:Nat}: ∀{s:List (List AV)},okStore n s=true→∀(l:Nat) (cs:List AV),s[l]? =some cs→okRefs n cs=true
 | [],_,l,cs,h=>by simp at h
 |a::r,hok,l,cs,h=>by
  simp only [okStore,Bool.and_eq_true] at hok
  cases l with
  |zero=>simp at h;subst h;exact hok.1
  |succ l=>exact zbq hok.2 l cs (by simpa using h)
theorem zmp (hG:Good us w K st)(n:Nat)(h:okStore n (st.store.take n)=true):Good us w (K.cut n) ⟨st.store.take n,st.tips⟩:=by
 have hlm: ∀l c,(K.cut n).lm l=some c→l<n∧K.lm l=some c:=by
  intro l c h
  simp only [Kx.cut] at h
  split at h
  ·exact ⟨by assumption,h⟩
  ·simp at h
 refine ⟨hG.T,fun l c h=> ?_,fun l c cs hl hs=> ?_,fun l l' c h h'=>by
   have h1:=hlm l c h
   have h2:=hlm l' c h'
   simp only [List.getElem?_take,if_pos h1.1,if_pos h2.1]
   exact hG.inj l l' c h1.2 h2.2,hG.tkinj,hG.tklt,hG.tkus,hG.uslt,fun l c h=>by
   have h1:=hlm l c h
   simp only [List.getElem?_take,if_pos h1.1]
   exact hG.disj l c h1.2,fun l t c h=>hG.lmtk l t c (hlm l c h).2⟩
 ·have h1:=hlm l c h
  have h2:=hG.lmlt l c h1.2
  simp only [List.length_take];omega
 ·obtain ⟨h1,h2⟩:=hlm l c hl
  have hs':st.store[l]? =some cs:=by
   have:(st.store.take n)[l]? =some cs:=hs
   rw [List.getElem?_take] at this
   by_cases hln:l<n
   ·rw [if_pos hln] at this;exact this
   ·exact absurd h1 hln
  obtain ⟨cur,ty,g1,g0,g2,g3⟩:=hG.blk l c cs h2 hs'
  have hok:=zbq h l cs hs
  exact ⟨cur,ty,g1,g0,⟨g2.len,fun i h h'=>(g2.rel i h h').cut (z64 hok i h)⟩,g3⟩
def Kx.ren (K:Kx) (n:Nat) (A:List (Nat×Nat)):Kx:=
 ⟨K.lm,fun t=>if t<n then K.tk t else (A[t-n]?).bind fun p=>K.tk p.1,K.T.take n++A.map (·.2)⟩
theorem z70 (l:List AV):(untips l).length=l.length:=by
 induction l with
 |nil=>rfl
 |cons a r ih=>simp [untips,ih]
theorem z8a (l:List AV)(i:Nat)(h:i<(untips l).length):(untips l)[i]=untip (l[i]'(by rw [z70] at h;exact h)):=by
 induction l generalizing i with
 |nil=>simp [untips] at h
 |cons a r ih=>
  cases i with
  |zero=>simp [untips]
  |succ i=>simp [untips];exact ih i (by simpa [untips] using h)
theorem Rel.untip {a x} (h:Rel us w K a x): ∀{K':Kx},K'.lm=K.lm→Rel us w K' (Ev.untip a) x:=by
 induction h with
 |any K x=>intro K' _;simp only [Ev.untip];exact .any _ x
 |v K x h=>intro K' _;simp only [Ev.untip];exact .v _ x h
 |ptr K l o c h=>intro K' e;simp only [Ev.untip];exact .ptr _ l o c (by rw [e];exact h)
 |eptr K e o c p n vs hu1 hn hc h1 hl hr _=>intro K' _;simp only [Ev.untip];exact .eptr _ e o c p n vs hu1 hn hc h1 hl hr
 |lst K g z xs c p n cap vs hu1 hn hc h1 hz hcap hl hr ht _=>intro K' _;simp only [Ev.untip];exact .lst _ .any z xs c p n cap vs hu1 hn hc h1 hz hcap hl hr trivial
 |rsl K l o n c z a b cap h hx=>intro K' e;simp only [Ev.untip];exact .rsl _ l o n c z a b cap (by rw [e];exact h) hx
 |fn K f a b va vb ha hb _ _ iha ihb=>
  intro K' e
  simp only [Ev.untip]
  exact .fn _ f _ _ va vb (by rw [z70];exact ha) (by rw [z70];exact hb) (fun i h h'=>by rw [z8a];exact iha i _ h' e) (fun i h h'=>by rw [z8a];exact ihb i _ h' e)
 |ifc K t a x _ ih=>intro K' e;simp only [Ev.untip];exact .ifc _ t _ x (ih e)
 |agg K cs vs hl _ ih=>intro K' e;simp only [Ev.untip];exact .agg _ _ vs (by rw [z70];exact hl) (fun i h h'=>by rw [z8a];exact ih i _ h' e)
 |tup K cs vs hl _ ih=>intro K' e;simp only [Ev.untip];exact .tup _ _ vs (by rw [z70];exact hl) (fun i h h'=>by rw [z8a];exact ih i _ h' e)
theorem zgu (n:Nat)(tips:List Nat)(acc:List (Nat×Nat))(a:AV): ∃r,(ren1 n tips acc a).2=acc++r:=by
 unfold ren1
 repeat' split
 all_goals first
  |exact ⟨[],(List.append_nil _).symm⟩
  |exact ⟨_,rfl⟩
theorem Rel.lst_map {g g' z xs x} {K':Kx} (h:Rel us w K (.lst g z xs) x)(ht: ∀c p cap,Tagged us w K g c p xs.length cap z→Tagged us w K' g' c p xs.length cap z):Rel us w K' (.lst g' z xs) x:=by
 obtain ⟨c,p,cap,vs,rfl,h1⟩:=h.lst_inv
 exact LstAt.rel ⟨h1.lies,h1.cells,h1.one,h1.each,h1.fits,h1.rels,ht c p cap h1.tag⟩
theorem zdz {n:Nat} {tips:List Nat} {acc A:List (Nat×Nat)} {a:AV} {x:Value} (hT:K.T=tips)(hn:n≤tips.length)(h:Rel us w K a x)(hA: ∃r,A=(ren1 n tips acc a).2++r):Rel us w (K.ren n A) (ren1 n tips acc a).1 x:=by
 have hlen:(K.T.take n).length=n:=by rw [hT];simp;omega
 cases a with
 |lst g z xs=>
  cases g with
  |any=>simp only [ren1];exact h.lst_map (fun _ _ _ _=>trivial)
  |full=>simp only [ren1];exact h.lst_map (fun _ _ _ h=>h)
  |own t e=>
   simp only [ren1] at hA⊢
   split
   ·next ht=>
    refine h.lst_map (fun c p cap hg=> ?_)
    obtain ⟨m,h1,h2,h3⟩:=hg
    refine ⟨m,?_,h2,fun he=> ?_⟩
    ·simp only [Kx.ren]
     rw [List.getElem?_append_left (by omega),List.getElem?_take,if_pos ht];exact h1
    ·obtain ⟨g1,g2,g3⟩:=h3 he
     exact ⟨g1,by simp only [Kx.ren,if_pos ht];exact g2,g3⟩
   ·next ht=>
    rw [if_neg ht] at hA
    split
    ·next hc=>
     rw [if_pos hc] at hA
     obtain ⟨r,hA⟩:=hA
     refine h.lst_map (fun c p cap hg=> ?_)
     obtain ⟨m,h1,h2,h3⟩:=hg
     have hm:e=m:=by
      have:=hc.1
      rw [←hT,h1] at this
      simpa using this.symm
     obtain ⟨g1,g2,g3⟩:=h3 hm
     have hAt:A[acc.length]? =some (t,xs.length):=by rw [hA];simp
     refine ⟨xs.length,?_,Nat.le_refl _,fun _=>⟨g1,?_,g3⟩⟩
     ·simp only [Kx.ren]
      rw [List.getElem?_append_right (by omega),hlen,Nat.add_sub_cancel_left,List.getElem?_map,hAt];rfl
     ·simp only [Kx.ren]
      rw [if_neg (by omega),Nat.add_sub_cancel_left,hAt];exact g2
    ·exact h.lst_map (fun _ _ _ _=>trivial)
 |any=>simp only [ren1];exact .any _ _
 |v y=>simp only [ren1];rw [h.v_inv];cases h with|v _ _ hp=>exact .v _ _ hp
 |ptr l o=>simp only [ren1];obtain ⟨c,hc,rfl⟩:=h.ptr_inv;exact .ptr _ l o c hc
 |rsl l o k c z b=>simp only [ren1];obtain ⟨c',cap,hc,rfl,hx⟩:=h.rsl_inv;exact .rsl _ l o k c z b c' cap hc hx
 |eptr e o=>simp only [ren1];obtain ⟨c,p,vs,rfl,h1⟩:=h.eptr_inv;exact h1.rel o
 |fn f a b=>have:=h.untip (K':=K.ren n A) rfl;simpa only [ren1,untip] using this
 |ifc t a=>have:=h.untip (K':=K.ren n A) rfl;simpa only [ren1,untip] using this
 |agg cs=>have:=h.untip (K':=K.ren n A) rfl;simpa only [ren1,untip] using this
 |tup cs=>have:=h.untip (K':=K.ren n A) rfl;simpa only [ren1,untip] using this
theorem za6 (n:Nat)(tips:List Nat): ∀(e:Env) (acc:List (Nat×Nat)),∃r,(renEnv n tips acc e).2=acc++r
 | [],acc=>⟨[],by simp [renEnv]⟩
 |(t,a)::e,acc=>by
  obtain ⟨r1,h1⟩:=zgu n tips acc a
  obtain ⟨r2,h2⟩:=za6 n tips e (ren1 n tips acc a).2
  exact ⟨r1++r2,by simp only [renEnv];rw [h2,h1,List.append_assoc]⟩
theorem z7w (n:Nat)(tips:List Nat): ∀(e:List AV) (acc:List (Nat×Nat)),∃r,(renCells n tips acc e).2=acc++r
 | [],acc=>⟨[],by simp [renCells]⟩
 |a::e,acc=>by
  obtain ⟨r1,h1⟩:=zgu n tips acc a
  obtain ⟨r2,h2⟩:=z7w n tips e (ren1 n tips acc a).2
  exact ⟨r1++r2,by simp only [renCells];rw [h2,h1,List.append_assoc]⟩
theorem z7v (n:Nat)(tips:List Nat): ∀(e:List (List AV)) (acc:List (Nat×Nat)),∃r,(renStore n tips acc e).2=acc++r
 | [],acc=>⟨[],by simp [renStore]⟩
 |a::e,acc=>by
  obtain ⟨r1,h1⟩:=z7w n tips a acc
  obtain ⟨r2,h2⟩:=z7v n tips e (renCells n tips acc a).2
  exact ⟨r1++r2,by simp only [renStore];rw [h2,h1,List.append_assoc]⟩
theorem zhu {n:Nat} {tips:List Nat} {A:List (Nat×Nat)} {a:Act} (hT:K.T=tips)(hn:n≤tips.length): ∀(e:Env) (acc:List (Nat×Nat)),(∃r,A=(renEnv n tips acc e).2++r)→(∀t,Rel us w K (e.get t) (a.tmps.getD t undef))→
  ∀t,Rel us w (K.ren n A) ((renEnv n tips acc e).1.get t) (a.tmps.getD t undef)
 | [],acc,_,_,t=> .any _ _
 |(i,v)::e,acc,hA,hE,t=>by
  obtain ⟨r,hA⟩:=hA
  simp only [renEnv] at hA⊢
  simp only [Env.get]
  obtain ⟨r2,h2⟩:=za6 n tips e (ren1 n tips acc v).2
  split
  ·next e1=>
   have:=hE t
   simp only [Env.get,if_pos e1] at this
   exact zdz hT hn this ⟨r2++r,by rw [hA,h2,List.append_assoc]⟩
  ·next e1=>
   have key: ∀(e:Env) (acc:List (Nat×Nat)),(∃r,A=(renEnv n tips acc e).2++r)→Rel us w K (e.get t) (a.tmps.getD t undef)→Rel us w (K.ren n A) ((renEnv n tips acc e).1.get t) (a.tmps.getD t undef):=by
    intro e
    induction e with
    |nil=>intro acc _ _;exact .any _ _
    |cons p e ih=>
     intro acc hA' hE'
     obtain ⟨j,u⟩:=p
     obtain ⟨r',hA'⟩:=hA'
     simp only [renEnv] at hA'⊢
     simp only [Env.get] at hE'⊢
     obtain ⟨r3,h3⟩:=za6 n tips e (ren1 n tips acc u).2
     split
     ·next e2=>rw [if_pos e2] at hE';exact zdz hT hn hE' ⟨r3++r',by rw [hA',h3,List.append_assoc]⟩
     ·next e2=>rw [if_neg e2] at hE';exact ih _ ⟨r',hA'⟩ hE'
   have:=hE t
   simp only [Env.get,if_neg e1] at this
   exact key e _ ⟨r,hA⟩ this
theorem zal {n:Nat} {tips:List Nat} {A:List (Nat×Nat)} (hT:K.T=tips)(hn:n≤tips.length): ∀(cs:List AV) (acc:List (Nat×Nat)) (vs:List Value),(∃r,A=(renCells n tips acc cs).2++r)→Rels us w K cs vs→Rels us w (K.ren n A) (renCells n tips acc cs).1 vs
 | [],acc,vs,_,h=>by rw [h.nil_inv];exact .nil
 |c::cs,acc,vs,hA,h=>by
  obtain ⟨x,r,rfl,h1,h2⟩:=h.cons_inv
  obtain ⟨r',hA⟩:=hA
  simp only [renCells] at hA⊢
  obtain ⟨r3,h3⟩:=z7w n tips cs (ren1 n tips acc c).2
  exact .cons (zdz hT hn h1 ⟨r3++r',by rw [hA,h3,List.append_assoc]⟩) (zal hT hn cs _ r ⟨r',hA⟩ h2)
theorem z7u {n:Nat} {tips:List Nat} {A:List (Nat×Nat)}: ∀(s:List (List AV)) (acc:List (Nat×Nat)),(∃r,A=(renStore n tips acc s).2++r)→
  (renStore n tips acc s).1.length=s.length∧∀(l:Nat) (cs':List AV),(renStore n tips acc s).1[l]? =some cs'→∃(cs:List AV) (acc':List (Nat×Nat)),s[l]? =some cs∧cs'=(renCells n tips acc' cs).1∧∃r,A=(renCells n tips acc' cs).2++r
 | [],acc,_=>⟨rfl,fun l cs' h=>by simp [renStore] at h⟩
 |c::s,acc,hA=>by
  obtain ⟨r,hA⟩:=hA
  simp only [renStore] at hA⊢
  obtain ⟨h1,h2⟩:=z7u (A:=A) s (renCells n tips acc c).2 ⟨r,hA⟩
  refine ⟨by simp [h1],fun l cs' h=> ?_⟩
  cases l with
  |zero=>
   simp only [List.getElem?_cons_zero,sI_] at h
   subst h
   obtain ⟨r3,h3⟩:=z7v n tips s (renCells n tips acc c).2
   exact ⟨c,acc,rfl,rfl,⟨r3++r,by rw [hA,h3,List.append_assoc]⟩⟩
  |succ l=>simpa using h2 l cs' (by simpa using h)
theorem z5x {n:Nat} {tips:List Nat}: ∀(s:List (List AV)) (acc:List (Nat×Nat)) (l:Nat),s[l]? =some []→(renStore n tips acc s).1[l]? =some []
 | [],acc,l,h=>by simp at h
 |c::s,acc,l,h=>by
  simp only [renStore]
  cases l with
  |zero=>simp only [List.getElem?_cons_zero,sI_] at h;subst h;rfl
  |succ l=>simpa using z5x s _ l (by simpa using h)
def AccOk (n:Nat) (acc:List (Nat×Nat)):Prop:=(∀p∈acc,n≤p.1)∧∀(i j:Nat) (p q:Nat×Nat),acc[i]? =some p→acc[j]? =some q→p.1=q.1→i=j
theorem zjd {n:Nat} {tips:List Nat} {acc:List (Nat×Nat)} (a:AV)(h:AccOk n acc):AccOk n (ren1 n tips acc a).2:=by
 unfold ren1
 repeat' split
 all_goals first
  |exact h
  |skip
 rename_i t e z xs ht hc
 refine ⟨fun p hp=> ?_,fun i j p q hi hj hpq=> ?_⟩
 ·rcases List.mem_append.1 hp with hp|hp
  ·exact h.1 p hp
  ·simp only [List.mem_singleton] at hp;subst hp;simp only;omega
 ·have hne: ∀(k:Nat) (r:Nat×Nat),acc[k]? =some r→r.1≠t:=by
   intro k r hk
   have:=List.all_eq_true.1 hc.2 r (List.mem_of_getElem? hk)
   simpa using this
  rw [List.getElem?_append] at hi hj
  split at hi<;>split at hj
  ·exact h.2 i j p q hi hj hpq
  ·simp only [List.getElem?_singleton] at hj
   split at hj
   ·simp only [sI_] at hj;subst hj;exact absurd hpq (hne i p hi)
   ·simp at hj
  ·simp only [List.getElem?_singleton] at hi
   split at hi
   ·simp only [sI_] at hi;subst hi;exact absurd hpq.symm (hne j q hj)
   ·simp at hi
  ·simp only [List.getElem?_singleton] at hi hj
   split at hi<;>split at hj
   ·omega
   ·simp at hj
   ·simp at hi
   ·simp at hi
theorem zew {n:Nat} {tips:List Nat}: ∀(e:Env) (acc:List (Nat×Nat)),AccOk n acc→AccOk n (renEnv n tips acc e).2
 | [],_,h=>h
 |(_,a)::e,acc,h=>zew e _ (zjd a h)
theorem zbi {n:Nat} {tips:List Nat}: ∀(e:List AV) (acc:List (Nat×Nat)),AccOk n acc→AccOk n (renCells n tips acc e).2
 | [],_,h=>h
 |a::e,acc,h=>zbi e _ (zjd a h)
theorem zbh {n:Nat} {tips:List Nat}: ∀(e:List (List AV)) (acc:List (Nat×Nat)),AccOk n acc→AccOk n (renStore n tips acc e).2
 | [],_,h=>h
 |a::e,acc,h=>zbh e _ (zbi a _ h)
theorem zcv {n t c:Nat} {A:List (Nat×Nat)} (h:(K.ren n A).tk t=some c):(t<n∧K.tk t=some c)∨(n≤t∧∃p,A[t-n]? =some p∧K.tk p.1=some c):=by
 simp only [Kx.ren] at h
 split at h
 ·exact .inl ⟨by assumption,h⟩
 ·refine .inr ⟨by omega,?_⟩
  cases hp:A[t-n]? with
  |none=>simp [hp] at h
  |some p=>exact ⟨p,rfl,by simpa [hp] using h⟩
theorem zg9 {n:Nat} {env:Env} {a:Act} (hG:Good us w K st)(hn:n≤st.tips.length)(hE:EnvRel us w K env a):
  ∃A,AccOk n A∧Good us w (K.ren n A) (renAll n env st).2∧EnvRel us w (K.ren n A) (renAll n env st).1 a:=by
 let A:=(renStore n st.tips (renEnv n st.tips [] env).2 st.store).2
 have hA:AccOk n A:=zbh _ _ (zew _ _ ⟨by simp,fun i j p q h=>by simp at h⟩)
 have hlen:(K.T.take n).length=n:=by rw [hG.T];simp;omega
 obtain ⟨r,hr⟩:=z7v n st.tips st.store (renEnv n st.tips [] env).2
 obtain ⟨hsl,hsg⟩:=z7u (A:=A) (n:=n) (tips:=st.tips) st.store (renEnv n st.tips [] env).2 ⟨[],by simp [A]⟩
 refine ⟨A,hA,⟨?_,fun l c h=> ?_,fun l c cs' hl hs=> ?_,fun l l' c h h'=>(hG.inj l l' c h h').imp (fun h=>h) (Or.imp (z5x _ _ _) (z5x _ _ _)),fun t t' c h h'=> ?_,fun t c h=> ?_,fun t c h=> ?_,hG.uslt,fun l c h=>(hG.disj l c h).imp (z5x _ _ _) (fun h=>h),fun l t c h h2=> ?_⟩,?_⟩
 ·simp only [renAll,Kx.ren,hG.T];rfl
 ·simp only [renAll];rw [hsl];exact hG.lmlt l c h
 ·simp only [renAll] at hs
  obtain ⟨cs,acc',h1,rfl,h3⟩:=hsg l cs' hs
  obtain ⟨cur,ty,g1,g0,g2,g3⟩:=hG.blk l c cs hl h1
  have h4:=zal hG.T hn cs acc' _ h3 g2
  have h5:(renCells n st.tips acc' cs).1.length=cs.length:=by rw [h4.len];simp;omega
  exact ⟨cur,ty,g1,by rw [h5];exact g0,by rw [h5];exact h4,g3⟩
 ·rcases zcv h with ⟨e1,h1⟩ | ⟨e1,p,hp,h1⟩ <;>rcases zcv h' with ⟨e2,h2⟩ | ⟨e2,q,hq,h2⟩
  ·exact hG.tkinj t t' c h1 h2
  ·have:=hG.tkinj _ _ c h1 h2
   have:=hA.1 q (List.mem_of_getElem? hq)
   omega
  ·have:=hG.tkinj _ _ c h1 h2
   have:=hA.1 p (List.mem_of_getElem? hp)
   omega
  ·have:=hA.2 _ _ p q hp hq (hG.tkinj _ _ c h1 h2)
   omega
 ·have e:(st.tips.take n).length=n:=by simp;omega
  show t<(st.tips.take n++A.map (·.2)).length
  rw [List.length_append,List.length_map,e]
  rcases zcv h with ⟨e1,_⟩ | ⟨e1,p,hp,_⟩
  ·omega
  ·have:=(List.getElem?_eq_some_iff.1 hp).1
   omega
 ·rcases zcv h with ⟨_,h1⟩ | ⟨_,p,_,h1⟩
  ·exact hG.tkus _ c h1
  ·exact hG.tkus _ c h1
 ·rcases zcv h2 with ⟨_,h1⟩ | ⟨_,p,_,h1⟩
  ·exact hG.lmtk l _ c h h1
  ·exact hG.lmtk l _ c h h1
 ·exact zhu hG.T hn env [] ⟨r,by simp only [A];rw [hr]⟩ hE
theorem zbk {n:Nat} (env:Env)(st:St)(h:n≤st.tips.length):(renAll n env st).2.store.length=st.store.length∧n≤(renAll n env st).2.tips.length:=by
 simp only [renAll]
 obtain ⟨r1,_⟩:=z7u (A:=(renStore n st.tips (renEnv n st.tips [] env).2 st.store).2) (n:=n) (tips:=st.tips) st.store (renEnv n st.tips [] env).2 ⟨[],by simp⟩
 rw [r1]
 exact ⟨rfl,by simp;omega⟩
theorem z4u (n:Nat)(M:List Nat): ∀xs:List AV,(mapLs n M xs).length=xs.length
 | []=>rfl
 |a::r=>by simp [mapLs,z4u n M r]
theorem z71 (n:Nat)(M:List Nat): ∀(xs:List AV) (i:Nat) (h:i<(mapLs n M xs).length),(mapLs n M xs)[i]=mapL n M (xs[i]'(by rw [z4u] at h;exact h))
 | [],i,h=>by simp [mapLs] at h
 |a::r,0,h=>by simp [mapLs]
 |a::r,i+1,h=>by simp [mapLs];exact z71 n M r i (by simpa [mapLs] using h)
theorem z80 (n:Nat)(M:List Nat): ∀(s:List (List AV)) (i:Nat),(mapStore n M s)[i]? =(s[i]?).map (mapLs n M)
 | [],i=>by simp [mapStore]
 |a::r,0=>by simp [mapStore]
 |a::r,i+1=>by simp [mapStore];exact z80 n M r i
theorem z6w (n:Nat)(M:List Nat): ∀s:List (List AV),(mapStore n M s).length=s.length
 | []=>rfl
 |a::r=>by simp [mapStore,z6w n M r]
theorem z9f (st:St): ∀(M:List Nat) (i:Nat),(pickStore st M)[i]? =(M[i]?).map fun l=>(st.store[l]?).getD []
 | [],i=>by simp [pickStore]
 |a::r,0=>by simp [pickStore]
 |a::r,i+1=>by simp [pickStore];exact z9f st r i
theorem z9e (st:St): ∀M:List Nat,(pickStore st M).length=M.length
 | []=>rfl
 |a::r=>by simp [pickStore,z9e st r]
def Kx.names (K:Kx) (n:Nat) (M:List Nat):Kx:={K with lm:=fun l=>if l<n then K.lm l else (M[l-n]?).bind K.lm}
theorem zf2 {l:Nat}: ∀{M:List Nat} {i:Nat},posOf l M=some i→M[i]? =some l
 | [],i,h=>by simp [posOf] at h
 |x::r,i,h=>by
  simp only [posOf] at h
  split at h
  ·next e=>simp only [sI_] at h;subst h;subst e;rfl
  ·obtain ⟨j,hj,rfl⟩:=Option.map_eq_some_iff.1 h
   simpa using zf2 hj
theorem zd3 {n:Nat} {M:List Nat} {l l' c:Nat} (h:newName n M l=some l')(hl:K.lm l=some c):(K.names n M).lm l'=some c:=by
 simp only [newName] at h
 split at h
 ·next e=>simp only [sI_] at h;subst h;simp [Kx.names,e,hl]
 ·obtain ⟨j,hj,rfl⟩:=Option.map_eq_some_iff.1 h
  simp only [Kx.names]
  rw [if_neg (by omega),Nat.add_sub_cancel_left,zf2 hj];exact hl
theorem Rel.names {a x} {n:Nat} {M:List Nat} (h:Rel us w K a x):Rel us w (K.names n M) (mapL n M a) x:=by
 induction h with
 |any K x=>simp only [mapL];exact .any _ x
 |v K x h=>simp only [mapL];exact .v _ x h
 |ptr K l o c h=>
  simp only [mapL]
  split
  ·next l' e=>exact .ptr _ l' o c (zd3 e h)
  ·exact .any _ _
 |eptr K e o c p m vs hu1 hn hc h1 hl hr _=>simp only [mapL];exact .eptr _ e o c p m vs hu1 hn hc h1 hl hr
 |lst K g z xs c p m cap vs hu1 hn hc h1 hz hcap hl hr ht _=>simp only [mapL];exact .lst _ g z xs c p m cap vs hu1 hn hc h1 hz hcap hl hr ht
 |rsl K l o m c z a b cap h hx=>
  simp only [mapL]
  split
  ·next l' e=>exact .rsl _ l' o m c z a b cap (zd3 e h) hx
  ·exact .any _ _
 |fn K f a b va vb ha hb _ _ iha ihb=>
  simp only [mapL]
  exact .fn _ f _ _ va vb (by rw [z4u];exact ha) (by rw [z4u];exact hb) (fun i h h'=>by rw [z71];exact iha i _ h') (fun i h h'=>by rw [z71];exact ihb i _ h')
 |ifc K t a x _ ih=>simp only [mapL];exact .ifc _ t _ x ih
 |agg K cs vs hl _ ih=>simp only [mapL];exact .agg _ _ vs (by rw [z4u];exact hl) (fun i h h'=>by rw [z71];exact ih i _ h')
 |tup K cs vs hl _ ih=>simp only [mapL];exact .tup _ _ vs (by rw [z4u];exact hl) (fun i h h'=>by rw [z71];exact ih i _ h')
theorem zd4 (n:Nat)(M:List Nat): ∀(e:Env) (t:Tmp),(mapEnv n M e).get t=mapL n M (e.get t)
 | [],t=>by simp [mapEnv,Env.get,mapL]
 |(i,a)::r,t=>by
  simp only [mapEnv,Env.get]
  split
  ·rfl
  ·exact zd4 n M r t
theorem zao {n:Nat}: ∀{M:List Nat},namesOk n M=true→(∀l∈M,n≤l)∧∀(i j l:Nat),M[i]? =some l→M[j]? =some l→i=j
 | [],_=>⟨by simp,fun i j l h=>by simp at h⟩
 |x::r,h=>by
  simp only [namesOk,Bool.and_eq_true,decide_eq_true_eq,Bool.not_eq_true'] at h
  obtain ⟨⟨h1,h2⟩,h3⟩:=h
  obtain ⟨h4,h5⟩:=zao h3
  have hx: ∀(i:Nat),r[i]? =some x→False:=fun i hi=>by
   have:=List.mem_of_getElem? hi
   have h6:r.contains x=true:=by simpa using this
   rw [h6] at h2;simp at h2
  refine ⟨fun l hl=> ?_,fun i j l hi hj=> ?_⟩
  ·rcases List.mem_cons.1 hl with rfl|hl
   ·exact h1
   ·exact h4 l hl
  ·cases i with
   |zero=>
    cases j with
    |zero=>rfl
    |succ j=>simp only [List.getElem?_cons_zero,sI_] at hi;subst hi;exact (hx j (by simpa using hj)).elim
   |succ i=>
    cases j with
    |zero=>simp only [List.getElem?_cons_zero,sI_] at hj;subst hj;exact (hx i (by simpa using hi)).elim
    |succ j=>have:=h5 i j l (by simpa using hi) (by simpa using hj);omega
theorem zib {n:Nat} {M:List Nat} (hG:Good us w K st)(hn:n≤st.store.length)(hM:namesOk n M=true):
  Good us w (K.names n M) ⟨mapStore n M (st.store.take n)++mapStore n M (pickStore st M),st.tips⟩:=by
 obtain ⟨hM1,hM2⟩:=zao hM
 have hlt:(mapStore n M (st.store.take n)).length=n:=by rw [z6w,List.length_take];omega
 have inv: ∀l' c,(K.names n M).lm l'=some c→∃l,K.lm l=some c∧((l'<n∧l=l')∨(n≤l'∧M[l'-n]? =some l)):=by
  intro l' c h
  simp only [Kx.names] at h
  split at h
  ·next e=>exact ⟨l',h,.inl ⟨e,rfl⟩⟩
  ·obtain ⟨l,h1,h2⟩:=Option.bind_eq_some_iff.1 h
   exact ⟨l,h2,.inr ⟨by omega,h1⟩⟩
 have ent: ∀l' l c,K.lm l=some c→((l'<n∧l=l')∨(n≤l'∧M[l'-n]? =some l))→(mapStore n M (st.store.take n)++mapStore n M (pickStore st M))[l']? =(st.store[l]?).map (mapLs n M):=by
  intro l' l c hl h
  rcases h with ⟨h1,rfl⟩ | ⟨h1,h2⟩
  ·rw [List.getElem?_append_left (by omega),z80,List.getElem?_take,if_pos h1]
  ·rw [List.getElem?_append_right (by omega),hlt,z80,z9f,h2]
   simp only [Option.map_some]
   rw [List.getElem?_eq_getElem (hG.lmlt l c hl)]
   rfl
 have dead: ∀l' l c,K.lm l=some c→((l'<n∧l=l')∨(n≤l'∧M[l'-n]? =some l))→st.store[l]? =some []→(mapStore n M (st.store.take n)++mapStore n M (pickStore st M))[l']? =some []:=by
  intro l' l c hl h hd
  rw [ent l' l c hl h,hd];rfl
 refine ⟨hG.T,fun l' c h=> ?_,fun l' c cs h hs=> ?_,fun l1 l2 c h1 h2=> ?_,hG.tkinj,hG.tklt,hG.tkus,hG.uslt,fun l' c h=> ?_,fun l' t c h ht=> ?_⟩
 ·obtain ⟨l,hl,h1⟩:=inv l' c h
  rw [List.length_append,hlt,z6w,z9e]
  rcases h1 with ⟨h1,_⟩ | ⟨h1,h2⟩
  ·omega
  ·have:=(List.getElem?_eq_some_iff.1 h2).1;omega
 ·obtain ⟨l,hl,h1⟩:=inv l' c h
  simp only [ent l' l c hl h1] at hs
  obtain ⟨cs2,h2,rfl⟩:=Option.map_eq_some_iff.1 hs
  obtain ⟨cur,ty,g1,g0,g2,g3⟩:=hG.blk l c cs2 hl h2
  exact ⟨cur,ty,g1,by rw [z4u];exact g0,by rw [z4u];exact ⟨by rw [z4u];exact g2.len,fun i h h'=>by rw [z71];exact (g2.rel i _ h').names⟩,g3⟩
 ·obtain ⟨a,ha,h3⟩:=inv l1 c h1
  obtain ⟨b,hb,h4⟩:=inv l2 c h2
  rcases hG.inj a b c ha hb with e|e|e
  ·subst e
   refine .inl ?_
   rcases h3 with ⟨h3,rfl⟩ | ⟨h3,h5⟩ <;>rcases h4 with ⟨h4,h6⟩ | ⟨h4,h6⟩
   ·exact h6
   ·have:=hM1 _ (List.mem_of_getElem? h6);omega
   ·have:=hM1 _ (List.mem_of_getElem? h5);omega
   ·have:=hM2 _ _ _ h5 h6;omega
  ·exact .inr (.inl (dead l1 a c ha h3 e))
  ·exact .inr (.inr (dead l2 b c hb h4 e))
 ·obtain ⟨l,hl,h1⟩:=inv l' c h
  rcases hG.disj l c hl with e|e
  ·exact .inl (dead l' l c hl h1 e)
  ·exact .inr e
 ·obtain ⟨l,hl,_⟩:=inv l' c h
  exact hG.lmtk l t c hl ht
theorem zkj {us0:Us} {w0:World} {K0:Kx} {st0:St} {gc:Bool} {env:Env} {a:Act} (hG0:Good us0 w0 K0 st0)(hX:Ext us0 w0 K0 us w K)(hN:NewK st0.store.length st0.tips.length K0 K)(hlenS:st0.store.length≤st.store.length)(hlen:st0.tips.length≤st.tips.length)(hG:Good us w K st)(hE:EnvRel us w K env a):
  ∃K2,Good us w K2 (gcAV gc st0.store.length st0.tips.length env st).2∧EnvRel us w K2 (gcAV gc st0.store.length st0.tips.length env st).1 a∧Ext us0 w0 K0 us w K2∧NewK st0.store.length st0.tips.length K0 K2:=by
 cases gc with
 |false=>exact ⟨K,hG,hE,hX,hN⟩
 |true=>
  have hren: ∀(env1:Env) (st1:St) (K1:Kx),Good us w K1 st1→EnvRel us w K1 env1 a→Ext us0 w0 K0 us w K1→NewK st0.store.length st0.tips.length K0 K1→st1.tips=st.tips→
    ∃K2,Good us w K2 (renAll st0.tips.length env1 st1).2∧EnvRel us w K2 (renAll st0.tips.length env1 st1).1 a∧Ext us0 w0 K0 us w K2∧NewK st0.store.length st0.tips.length K0 K2:=by
   intro env1 st1 K1 g1 g2 g3 g4 g5
   obtain ⟨A,hA,h1,h2⟩:=zg9 (n:=st0.tips.length) g1 (by rw [g5];exact hlen) g2
   refine ⟨K1.ren st0.tips.length A,h1,h2,⟨g3.os,g3.tape,g3.output,g3.size,g3.sz,g3.usle,⟨g3.kle.lm,fun t m h=> ?_⟩,g3.frame,g3.usNone,g3.lmNew,fun t c h=> ?_⟩,⟨g4.lm,fun t h=> ?_⟩⟩
   ·have hlt:t<st0.tips.length:=by rw [hG0.T] at h;exact (List.getElem?_eq_some_iff.1 h).1
    obtain ⟨m',k1,k2,k3⟩:=g3.kle.T t m h
    refine ⟨m',?_,k2,fun e=> ?_⟩
    ·simp only [Kx.ren]
     have:(K1.T.take st0.tips.length)[t]? =some m':=by rw [List.getElem?_take,if_pos hlt];exact k1
     rw [List.getElem?_append_left (List.getElem?_eq_some_iff.1 this).1]
     exact this
    ·simp only [Kx.ren,if_pos hlt]
     exact k3 e
   ·rcases zcv h with ⟨_,h1⟩ | ⟨_,p,hp,h1⟩
    ·exact g3.tkNew _ c h1
    ·rcases g3.tkNew _ c h1 with h2|h2
     ·have:=hG0.tklt _ c h2
      have:=hA.1 p (List.mem_of_getElem? hp)
      omega
     ·exact .inr h2
   ·by_cases e:t<st0.tips.length
    ·simp only [Kx.ren,if_pos e] at h
     exact g4.tk t h
    ·exact .inr (by omega)
  simp only [gcAV,if_true]
  by_cases hk:hasKey env=true
  ·rw [if_pos hk]
   unfold compact compactW
   split
   ·next hM=>
    refine hren _ _ (K.names st0.store.length _) (zib hG hlenS hM) (fun t=>by rw [zd4];exact (hE t).names) ⟨hX.os,hX.tape,hX.output,hX.size,hX.sz,hX.usle,⟨fun l c h=> ?_,hX.kle.T⟩,hX.frame,hX.usNone,fun l c h=> ?_,hX.tkNew⟩ ⟨fun l c h=> ?_,hN.tk⟩ rfl
    ·have h2:=hG0.lmlt l c h
     have h3:=hX.kle.lm l c h
     exact ⟨by simp [Kx.names,h2,h3.1],h3.2⟩
    ·simp only [Kx.names] at h
     split at h
     ·exact hX.lmNew l c h
     ·obtain ⟨l0,_,h2⟩:=Option.bind_eq_some_iff.1 h
      exact hX.lmNew l0 c h2
    ·by_cases e:l<st0.store.length
     ·simp only [Kx.names,if_pos e] at h
      exact hN.lm l c h
     ·exact .inr (by omega)
   ·exact hren _ _ K hG hE hX hN rfl
  rw [if_neg hk]
  have hcut: ∃K1,Good us w K1 (cutSt st0.store.length env st)∧EnvRel us w K1 env a∧Ext us0 w0 K0 us w K1∧NewK st0.store.length st0.tips.length K0 K1∧(cutSt st0.store.length env st).tips=st.tips:=by
   unfold cutSt
   split
   ·next hc=>
    have hlm: ∀l c,(K.cut st0.store.length).lm l=some c→K.lm l=some c:=by
     intro l c h
     simp only [Kx.cut] at h
     split at h
     ·exact h
     ·simp at h
    refine ⟨K.cut st0.store.length,zmp hG _ hc.2,fun t=>(hE t).cut (zf7 hc.1 t),⟨hX.os,hX.tape,hX.output,hX.size,hX.sz,hX.usle,⟨fun l c h=> ?_,hX.kle.T⟩,hX.frame,hX.usNone,fun l c h=>hX.lmNew l c (hlm l c h),hX.tkNew⟩,⟨fun l c h=>hN.lm l c (hlm l c h),hN.tk⟩,rfl⟩
    have h1:=hX.kle.lm l c h
    have h2:=hG0.lmlt l c h
    exact ⟨by simp [Kx.cut,h2,h1.1],h1.2⟩
   ·exact ⟨K,hG,hE,hX,hN,rfl⟩
  obtain ⟨K1,g1,g2,g3,g4,g5⟩:=hcut
  exact hren _ _ K1 g1 g2 g3 g4 g5
theorem zfh (gc:Bool)(env:Env) {l n:Nat} {st:St} (h1:l≤st.store.length)(h2:n≤st.tips.length):
  l≤(gcAV gc l n env st).2.store.length∧n≤(gcAV gc l n env st).2.tips.length:=by
 cases gc with
 |false=>exact ⟨h1,h2⟩
 |true=>
  simp only [gcAV,if_true]
  split
  ·have e:l≤(compact l env st).2.store.length∧(compact l env st).2.tips=st.tips:=by
    unfold compact compactW
    split
    ·simp only [List.length_append,z6w,List.length_take,and_true];omega
    ·exact ⟨h1,rfl⟩
   have:=zbk (n:=n) (compact l env st).1 (compact l env st).2 (by rw [e.2];exact h2)
   rw [this.1]
   exact ⟨e.1,this.2⟩
  ·have e:l≤(cutSt l env st).store.length∧(cutSt l env st).tips=st.tips:=by
    unfold cutSt
    split
    ·exact ⟨by simp;omega,rfl⟩
    ·exact ⟨h1,rfl⟩
   have:=zbk (n:=n) env (cutSt l env st) (by rw [e.2];exact h2)
   rw [this.1]
   exact ⟨e.1,this.2⟩
theorem zl1 {env:Env} {a:Act} (h:EnvRel us w K env a)(ks:List Tmp):EnvRel us w K (canon env ks) a:=by
 intro t
 induction ks with
 |nil=>exact .any _ _
 |cons k ks ih=>
  simp only [canon,Env.get]
  split
  ·next e=>subst e;exact h k
  ·exact ih
end
end Go.Ev
namespace Go.Ev
open Go
section
variable {us us1:Us} {w w1:World} {K K1:Kx} {st st1:St}
def Kx.hide (K:Kx) (st:St):Kx:={K with lm:=fun l=>if visN st l=true then K.lm l else none}
theorem z31 {l c:Nat} (h:(K.hide st).lm l=some c):visN st l=true∧K.lm l=some c:=by
 simp only [Kx.hide] at h
 split at h
 ·next e=>exact ⟨e,h⟩
 ·simp at h
theorem ze9 {l c:Nat} (h:K.lm l=some c)(hv:visN st l=true):(K.hide st).lm l=some c:=by
 simp only [Kx.hide];rw [if_pos hv];exact h
theorem z7q (st:St): ∀(xs:List AV),visRs st xs=true→∀(i:Nat) (h:i<xs.length),visR st xs[i]=true
 | [],_,i,h=>by simp at h
 |a::r,hv,0,h=>by simp only [visRs,Bool.and_eq_true] at hv;exact hv.1
 |a::r,hv,i+1,h=>by simp only [visRs,Bool.and_eq_true] at hv;exact z7q st r hv.2 i (by simpa using h)
theorem z8i: ∀(xs:List AV),noLs xs=true→∀(i:Nat) (h:i<xs.length),noL xs[i]=true
 | [],_,i,h=>by simp at h
 |a::r,hv,0,h=>by simp only [noLs,Bool.and_eq_true] at hv;exact hv.1
 |a::r,hv,i+1,h=>by simp only [noLs,Bool.and_eq_true] at hv;exact z8i r hv.2 i (by simpa using h)
theorem Rel.hide {a x} (st:St)(h:Rel us w K a x):visR st a=true→Rel us w (K.hide st) a x:=by
 induction h with
 |any K x=>intro _;exact .any _ x
 |v K x h=>intro _;exact .v _ x h
 |ptr K l o c h=>intro hv;exact .ptr _ l o c (ze9 h (by simpa [visR] using hv))
 |eptr K e o c p n vs hu1 hn hc h1 hl hr _=>intro _;exact .eptr _ e o c p n vs hu1 hn hc h1 hl hr
 |lst K g z xs c p n cap vs hu1 hn hc h1 hz hcap hl hr ht _=>intro _;exact .lst _ g z xs c p n cap vs hu1 hn hc h1 hz hcap hl hr (by cases g<;>exact ht)
 |rsl K l o n c z b d cap h hx=>intro hv;exact .rsl _ l o n c z b d cap (ze9 h (by simpa [visR] using hv)) hx
 |fn K f a b va vb ha hb hra hrb iha ihb=>
  intro hv
  simp only [visR,Bool.and_eq_true] at hv
  exact .fn _ f a b va vb ha hb (fun i h h'=>iha i h h' (z7q st a hv.1 i h)) (fun i h h'=>ihb i h h' (z7q st b hv.2 i h))
 |ifc K t a x h ih=>intro hv;exact .ifc _ t a x (ih (by simpa [visR] using hv))
 |agg K cs vs hl hr ih=>intro hv;exact .agg _ cs vs hl (fun i h h'=>ih i h h' (z7q st cs (by simpa [visR] using hv) i h))
 |tup K cs vs hl hr ih=>intro hv;exact .tup _ cs vs hl (fun i h h'=>ih i h h' (z7q st cs (by simpa [visR] using hv) i h))
theorem Rel.hideV {a x} (st:St)(h:Rel us w K a x):Rel us w (K.hide st) (hideV st a) x:=by
 unfold Go.Ev.hideV
 split
 ·next e=>exact h.hide st e
 ·exact .any _ x
theorem Rel.noList {us':Us} {w':World} {a x} (h:Rel us w K a x): ∀{K':Kx},noL a=true→(∀l c,K.lm l=some c→K'.lm l=some c∧∀n,SizeAt w c n→SizeAt w' c n)→Rel us' w' K' a x:=by
 induction h with
 |any K x=>intro K' _ _;exact .any _ x
 |v K x h=>intro K' _ _;exact .v _ x h
 |ptr K l o c h=>intro K' _ hk;exact .ptr _ l o c (hk l c h).1
 |eptr K e o c p n vs hu1 hn hc h1 hl hr _=>intro K' hv;simp [noL] at hv
 |lst K g z xs c p n cap vs hu1 hn hc h1 hz hcap hl hr ht _=>intro K' hv;simp [noL] at hv
 |rsl K l o n c z b d cap h hx=>
  intro K' _ hk
  exact .rsl _ l o n c z b d cap (hk l d h).1 (hx.imp (fun h=>h) fun ⟨h1,m,h2,h3⟩=>⟨h1,m,(hk l d h).2 m h2,h3⟩)
 |fn K f a b va vb ha hb hra hrb iha ihb=>
  intro K' hv hk
  simp only [noL,Bool.and_eq_true] at hv
  exact .fn _ f a b va vb ha hb (fun i h h'=>iha i h h' (z8i a hv.1 i h) hk) (fun i h h'=>ihb i h h' (z8i b hv.2 i h) hk)
 |ifc K t a x h ih=>intro K' hv hk;exact .ifc _ t a x (ih (by simpa [noL] using hv) hk)
 |agg K cs vs hl hr ih=>intro K' hv hk;exact .agg _ cs vs hl (fun i h h'=>ih i h h' (z8i cs (by simpa [noL] using hv) i h) hk)
 |tup K cs vs hl hr ih=>intro K' hv hk;exact .tup _ cs vs hl (fun i h h'=>ih i h h' (z8i cs (by simpa [noL] using hv) i h) hk)
theorem z7r {l:Nat} (h:visN st l=true): ∃cs,st.store[l]? =some cs∧visB cs=true∧cs≠[]:=by
 unfold visN at h
 split at h
 ·rename_i cs hcs
  refine ⟨cs,hcs,h,?_⟩
  rintro rfl
  simp [visB] at h
 ·simp at h
theorem zi9 {l:Nat}:(hideSt st).store[l]? =(st.store[l]?).map (hideC st):=by simp [hideSt]
theorem z73:(hideSt st).store.length=st.store.length:=by simp [hideSt]
theorem zc3 (st:St): ∀(env:Env) (t:Tmp),(hideEnv st env).get t=hideV st (env.get t)
 | [],t=>by
  simp only [hideEnv,Env.get,hideV]
  exact (ite_self _).symm
 |(i,a)::r,t=>by
  simp only [hideEnv,Env.get]
  split
  ·rfl
  ·exact zc3 st r t
theorem zkc (hG:Good us w K st):Good us w (K.hide st) (hideSt st):=by
 refine ⟨hG.T,fun l c h=> ?_,fun l c cs h hs=> ?_,fun l l' c h h'=> ?_,hG.tkinj,hG.tklt,hG.tkus,hG.uslt,fun l c h=> ?_,fun l t c h=>hG.lmtk l t c (z31 h).2⟩
 ·rw [z73];exact hG.lmlt l c (z31 h).2
 ·obtain ⟨hv,hk⟩:=z31 h
  obtain ⟨cs0,h0,hb,_⟩:=z7r hv
  rw [zi9,h0] at hs
  simp only [Option.map_some,sI_] at hs
  unfold hideC at hs
  rw [if_pos hb] at hs
  subst hs
  obtain ⟨cur,ty,g1,g0,g2,g3⟩:=hG.blk l c cs0 hk h0
  exact ⟨cur,ty,g1,by rw [List.length_map];exact g0,⟨by rw [List.length_map];exact g2.len,fun i h1 h2=>by
   rw [List.getElem_map]
   have h3:i<cs0.length:=by simpa using h1
   have h4:i<(cur.toList.take cs0.length).length:=by simpa using h2
   have:=(g2.rel i h3 h4).hideV st
   simpa using this⟩,g3⟩
 ·obtain ⟨hv,hk⟩:=z31 h
  obtain ⟨hv',hk'⟩:=z31 h'
  obtain ⟨cs,h1,_,h2⟩:=z7r hv
  obtain ⟨cs',h1',_,h2'⟩:=z7r hv'
  rcases hG.inj l l' c hk hk' with e|e|e
  ·exact .inl e
  ·rw [h1] at e;simp at e;exact absurd e h2
  ·rw [h1'] at e;simp at e;exact absurd e h2'
 ·obtain ⟨hv,hk⟩:=z31 h
  obtain ⟨cs,h1,_,h2⟩:=z7r hv
  rcases hG.disj l c hk with e|e
  ·rw [h1] at e;simp at e;exact absurd e h2
  ·exact .inr e
theorem zml {env:Env} {a:Act} (hE:EnvRel us w K env a):EnvRel us w (K.hide st) (hideEnv st env) a:=fun t=>by
 rw [zc3];exact (hE t).hideV st
theorem z8k: ∀(xs ys:List (List AV)),xs.length≤ys.length→(mergeS xs ys).length=ys.length
 | [],ys,_=>rfl
 |x::xs,[],h=>by simp at h
 |x::xs,y::ys,h=>by simp only [mergeS,List.length_cons];rw [z8k xs ys (by simpa using h)]
theorem za9: ∀(xs ys:List (List AV)) (l:Nat),xs.length≤ys.length→(mergeS xs ys)[l]? =match xs[l]? with
  |some x=>if visB x=true then ys[l]? else some x
  |none=>ys[l]?
 | [],ys,l,_=>by simp [mergeS]
 |x::xs,[],l,h=>by simp at h
 |x::xs,y::ys,0,h=>by
  simp only [mergeS,List.getElem?_cons_zero]
  split<;>rfl
 |x::xs,y::ys,l+1,h=>by
  simp only [mergeS,List.getElem?_cons_succ]
  exact za9 xs ys l (by simpa using h)
theorem zgz: ∀(S:List (List AV)),noLB S=true→∀(l:Nat) (cs:List AV),S[l]? =some cs→noLs cs=true
 | [],_,l,cs,h=>by simp at h
 |a::r,hv,0,cs,h=>by
  simp only [noLB,Bool.and_eq_true] at hv
  simp only [List.getElem?_cons_zero,sI_] at h
  subst h;exact hv.1
 |a::r,hv,l+1,cs,h=>by
  simp only [noLB,Bool.and_eq_true] at hv
  exact zgz r hv.2 l cs (by simpa using h)
theorem zdh: ∀(l:List IOp) (env:Env) (t:Tmp),((∃i,∃h:i<l.length,l[i].d=some t)∧(forgot l env).get t=.any)∨((∀i (h:i<l.length),l[i].d≠some t)∧(forgot l env).get t=env.get t)
 | [],env,t=> .inr ⟨fun i h=>absurd h (by simp),rfl⟩
 |o::r,env,t=>by
  simp only [forgot,z8n]
  by_cases e:o.d=some t
  ·rw [if_pos e];exact .inl ⟨⟨0,by simp,e⟩,rfl⟩
  ·rw [if_neg e]
   rcases zdh r env t with ⟨⟨i,h,h1⟩,h2⟩ | ⟨h1,h2⟩
   ·exact .inl ⟨⟨i+1,by simpa using h,by simpa using h1⟩,h2⟩
   ·refine .inr ⟨fun i h=> ?_,h2⟩
    cases i with
    |zero=>exact e
    |succ i=>exact h1 i (by simpa using h)
theorem zjt {env:Env} {a a':Act} {ks:List IOp} (hG:Good us w K st)(hE:EnvRel us w K env a)(hX:Ext us w (K.hide st) us1 w1 K1)(hG1:Good us1 w1 K1 st1)(hN:NewK (hideSt st).store.length (hideSt st).tips.length (K.hide st) K1)
  (hlen:(hideSt st).store.length≤st1.store.length) (hno:noLB st1.store=true) (hfr: ∀t,(∀i (h:i<ks.length),ks[i].d≠some t)→a'.tmps.getD t undef=a.tmps.getD t undef):
  ∃us' K',Ext us w K us' w1 K'∧Good us' w1 K' ⟨mergeS st.store st1.store,st.tips⟩∧EnvRel us' w1 K' (forgot ks env) a'∧NewK st.store.length st.tips.length K K':=by
 rw [z73] at hlen hN
 let us':Us:=fun c=>if c<w.heap.size then us c else none
 let K':Kx:=⟨fun l=>if l<st.store.length∧visN st l=false then K.lm l else K1.lm l,K.tk,K.T⟩
 have husT: ∀c n,us c=some n→us' c=some n:=fun c n h=>by show (if _ then _ else _)=_;rw [if_pos (hG.uslt c n h)];exact h
 have husL: ∀c,c<w.heap.size→us' c=us c:=fun c h=>by show (if _ then _ else _)=_;rw [if_pos h]
 have husS: ∀c n,us' c=some n→us c=some n∧c<w.heap.size:=fun c n h=>by
  have h':(if c<w.heap.size then us c else none)=some n:=h
  split at h'
  ·next e=>exact ⟨h',e⟩
  ·simp at h'
 have hvis: ∀l c,K.lm l=some c→visN st l=true→K1.lm l=some c:=fun l c h hv=>(hX.kle.lm l c (ze9 h hv)).1
 have hKlm: ∀l c,K.lm l=some c→K'.lm l=some c:=by
  intro l c h
  show (if _ then _ else _)=_
  by_cases hv:visN st l=true
  ·rw [if_neg (fun e=>by rw [hv] at e;simp at e)];exact hvis l c h hv
  ·rw [if_pos ⟨hG.lmlt l c h,by simpa using hv⟩];exact h
 have hK1lm: ∀l c,K1.lm l=some c→K'.lm l=some c∧¬(l<st.store.length∧visN st l=false):=by
  intro l c h
  have: ¬(l<st.store.length∧visN st l=false):=by
   rintro ⟨h1,h2⟩
   rcases hN.lm l c h with e|e
   ·rw [(z31 e).1] at h2;simp at h2
   ·omega
  exact ⟨by show (if _ then _ else _)=_;rw [if_neg this];exact h,this⟩
 have hinv: ∀l c,K'.lm l=some c→(l<st.store.length∧visN st l=false∧K.lm l=some c)∨(¬(l<st.store.length∧visN st l=false)∧K1.lm l=some c):=by
  intro l c h
  have h':(if l<st.store.length∧visN st l=false then K.lm l else K1.lm l)=some c:=h
  split at h'
  ·next e=>exact .inl ⟨e.1,e.2,h'⟩
  ·next e=>exact .inr ⟨e,h'⟩
 have hmH: ∀l,l<st.store.length→visN st l=false→(mergeS st.store st1.store)[l]? =st.store[l]? :=by
  intro l h1 h2
  rw [za9 _ _ _ hlen,List.getElem?_eq_getElem h1]
  simp only
  rw [if_neg]
  unfold visN at h2
  rw [List.getElem?_eq_getElem h1] at h2
  simp only at h2
  rw [h2];simp
 have hmV: ∀l,¬(l<st.store.length∧visN st l=false)→(mergeS st.store st1.store)[l]? =st1.store[l]? :=by
  intro l h1
  rw [za9 _ _ _ hlen]
  by_cases h2:l<st.store.length
  ·rw [List.getElem?_eq_getElem h2]
   simp only
   rw [if_pos]
   have h3:visN st l=true:=by
    cases h4:visN st l
    ·exact absurd ⟨h2,h4⟩ h1
    ·rfl
   unfold visN at h3
   rw [List.getElem?_eq_getElem h2] at h3
   exact h3
  ·rw [List.getElem?_eq_none (by omega)]
 have hule:UsLe us w us' w1:=fun c n h=>by
  obtain ⟨_,_,_,h3⟩:=hX.usle c n h
  exact ⟨n,husT c n h,Nat.le_refl _,h3⟩
 have hkle:KLe us w K us' w1 K':=by
  refine ⟨fun l c h=>⟨hKlm l c h,fun n hn=>hX.sz c n hn⟩,fun t m hm=>⟨m,hm,Nat.le_refl _,fun _ c hc=>⟨hc,?_,fun n hn=>hX.sz c n hn⟩⟩⟩
  obtain ⟨n,hn⟩:=hG.tkus t c hc
  exact husL c (hG.uslt c n hn)
 have hX':Ext us w K us' w1 K':=
  ⟨hX.os,hX.tape,hX.output,hX.size,hX.sz,hule,hkle,fun c hc hl ht=>⟨(hX.frame c hc (fun l e=>hl l (z31 e).2) ht).1,husL c hc⟩,fun c hc h _=>by rw [husL c hc];exact h,fun l c h=>by
   rcases hinv l c h with ⟨_,_,h1⟩ | ⟨_,h1⟩
   ·exact .inl ⟨l,h1⟩
   ·rcases hX.lmNew l c h1 with ⟨l0,e⟩ |e
    ·exact .inl ⟨l0,(z31 e).2⟩
    ·exact .inr e,fun _ _ h=> .inl h⟩
 have hmix: ∀l l0 c,K.lm l=some c→visN st l=false→K.lm l0=some c→visN st l0=true→st.store[l]? =some []:=by
  intro l l0 c h hv h0 hv0
  obtain ⟨cs,h1,_,h2⟩:=z7r hv0
  rcases hG.inj l l0 c h h0 with e|e|e
  ·rw [e,hv0] at hv;simp at hv
  ·exact e
  ·rw [h1] at e;simp at e;exact absurd e h2
 refine ⟨us',K',hX',⟨hG.T,fun l c h=> ?_,fun l c cs h hs=> ?_,fun l1 l2 c h1 h2=> ?_,hG.tkinj,hG.tklt,fun t c h=> ?_,fun c n h=> ?_,fun l c h=> ?_,fun l t c h=> ?_⟩,fun t=> ?_,⟨fun l c h=> ?_,fun t h=> .inl h⟩⟩
 ·simp only
  rw [z8k _ _ hlen]
  rcases hinv l c h with ⟨h1,_,_⟩ | ⟨_,h1⟩
  ·omega
  ·exact hG1.lmlt l c h1
 ·simp only at hs
  rcases hinv l c h with ⟨h1,hv,h2⟩ | ⟨hn,h1⟩
  ·rw [hmH l h1 hv] at hs
   have hb:=hG.blk l c cs h2 hs
   by_cases hal: ∃l0,K.lm l0=some c∧visN st l0=true
   ·obtain ⟨l0,h3,h4⟩:=hal
    have hd:=hmix l l0 c h2 hv h3 h4
    rw [hs] at hd
    simp only [sI_] at hd
    subst hd
    have h5:=hvis l0 c h3 h4
    obtain ⟨cur,ty,g1,_,_,g3⟩:=hG1.blk l0 c _ h5 (List.getElem?_eq_getElem (hG1.lmlt l0 c h5))
    exact ⟨cur,ty,g1,Nat.zero_le _,by simpa using Rels.nil,g3⟩
   ·have hfrm:=(hX.frame c (hG.lmltH h2) (fun l0 e=>hal ⟨l0,(z31 e).2,(z31 e).1⟩) (fun t e=>hG.lmtk l t c h2 e)).1
    exact hb.mono hule hkle hfrm
  ·rw [hmV l hn] at hs
   obtain ⟨cur,ty,g1,g0,g2,g3⟩:=hG1.blk l c cs h1 hs
   have hnl:=zgz _ hno l cs hs
   exact ⟨cur,ty,g1,g0,⟨g2.len,fun i hi hi'=>(g2.rel i hi hi').noList (z8i cs hnl i hi) (fun l c h=>⟨(hK1lm l c h).1,fun n hn=>hn⟩)⟩,g3⟩
 ·simp only
  rcases hinv l1 c h1 with ⟨a1,a2,a3⟩ | ⟨a1,a3⟩ <;>rcases hinv l2 c h2 with ⟨b1,b2,b3⟩ | ⟨b1,b3⟩
  ·rw [hmH l1 a1 a2,hmH l2 b1 b2];exact hG.inj l1 l2 c a3 b3
  ·rcases hX.lmNew l2 c b3 with ⟨l0,e⟩ |e
   ·exact .inr (.inl (by rw [hmH l1 a1 a2];exact hmix l1 l0 c a3 a2 (z31 e).2 (z31 e).1))
   ·have:=hG.lmltH a3;omega
  ·rcases hX.lmNew l1 c a3 with ⟨l0,e⟩ |e
   ·exact .inr (.inr (by rw [hmH l2 b1 b2];exact hmix l2 l0 c b3 b2 (z31 e).2 (z31 e).1))
   ·have:=hG.lmltH b3;omega
  ·rw [hmV l1 a1,hmV l2 b1];exact hG1.inj l1 l2 c a3 b3
 ·obtain ⟨n,hn⟩:=hG.tkus t c h
  exact ⟨n,husT c n hn⟩
 ·have:=(husS c n h).2
  exact Nat.lt_of_lt_of_le this hX.size
 ·simp only
  rcases hinv l c h with ⟨a1,a2,a3⟩ | ⟨a1,a3⟩
  ·rw [hmH l a1 a2]
   rcases hG.disj l c a3 with e|e
   ·exact .inl e
   ·exact .inr (by rw [husL c (hG.lmltH a3)];exact e)
  ·rw [hmV l a1]
   rcases hG1.disj l c a3 with e|e
   ·exact .inl e
   ·refine .inr ?_
    cases hu:us' c with
    |none=>rfl
    |some n=>
     obtain ⟨h2,_⟩:=husS c n hu
     obtain ⟨n',h3,_⟩:=hX.usle c n h2
     rw [h3] at e;simp at e
 ·rcases hinv l c h with ⟨_,_,a3⟩ | ⟨_,a3⟩
  ·exact hG.lmtk l t c a3
  ·intro ht
   rcases hX.lmNew l c a3 with ⟨l0,e⟩ |e
   ·exact hG.lmtk l0 t c (z31 e).2 ht
   ·have:=hG.tkltH ht;omega
 ·rcases zdh ks env t with ⟨_,h2⟩ | ⟨h1,h2⟩
  ·rw [h2];exact .any _ _
  ·rw [h2,hfr t h1];exact (hE t).mono hule hkle
 ·rcases hinv l c h with ⟨_,_,a3⟩ | ⟨_,a3⟩
  ·exact .inl a3
  ·rcases hN.lm l c a3 with e|e
   ·exact .inl (z31 e).2
   ·exact .inr e
end
end Go.Ev
namespace Go.Ev
open Go
section
variable {P:Program} {G:Nat→List Nat} {pure:FuncId→Bool} {call:CallF}
def Ends (x:X) (us:Us) (w:World) (K:Kx) (st:St) (nt:Nat) (ds:List Deferred) (env':Env) (st':St) (e:Exit) (a':Act) (w':World):Prop:=
 (match x with| .normal=>e=.normal| .exit i=>e=.exit i| .ret=>e=.ret)∧
 ∃us' K',Ext us w K us' w' K'∧Good us' w' K' st'∧EnvRel us' w' K' env' a'∧nt≤a'.tmps.size∧a'.defers=ds∧NewK st.store.length st.tips.length K K'∧st.store.length≤st'.store.length∧st.tips.length≤st'.tips.length
theorem zef {ks:List IOp} {E:Nat→Env} {T:Nat→St} {V:Nat→AV} {ts:List Tmp} (ht:Trace pure call ks E T V)(hq:qOk ts ks=true): ∀i,i≤ks.length→∀t∈ts,(E i).get t=(E 0).get t
 |0,_,_,_=>rfl
 |i+1,hi,t,hm=>by
  rw [(ht.step i hi).1,z8n]
  have h1:=(List.all_eq_true.1 hq) ks[i] (List.getElem_mem hi)
  simp only [Bool.and_eq_true] at h1
  rw [if_neg]
  ·exact zef ht hq i (by omega) t hm
  ·intro e
   have h2:=h1.2
   rw [e] at h2
   simp at h2
   exact h2 hm
theorem zhz {a b:AV} (h:plainEq a b=true):a=b:=by
 unfold plainEq at h
 split at h
 ·simp only [decide_eq_true_eq] at h
  rw [h.1,h.2]
 ·simp only [beq_iff_eq] at h
  rw [h]
 ·simp at h
theorem zce: ∀{a b:List AV},cellsAre a b=true→a=b
 | [],[],_=>rfl
 | [],_::_,h=>by simp [cellsAre] at h
 |_::_,[],h=>by simp [cellsAre] at h
 |a::r,b::s,h=>by
  simp only [cellsAre,Bool.and_eq_true] at h
  rw [zhz h.1,zce h.2]
theorem z9c: ∀(ys cs:List AV) (o:Nat),(cs.drop o).take ys.length=ys→putCells cs o ys=cs
 | [],_,_,_=>rfl
 |y::r,cs,o,h=>by
  have ho:o<cs.length:=by
   rcases Nat.lt_or_ge o cs.length with h1|h1
   ·exact h1
   ·rw [List.drop_eq_nil_of_le h1] at h;simp at h
  rw [List.drop_eq_getElem_cons ho,List.length_cons,List.take_succ_cons,List.cons.injEq] at h
  have hs:cs.set o y=cs:=by rw [←h.1];exact List.set_getElem_self ho
  show putCells (cs.set o y) (o+1) r=cs
  rw [hs]
  exact z9c r cs (o+1) h.2
theorem zes {s:Nat} {st st2:St} {a x:AV} (h:sameSt st a x=true)(h2:storeAV s st a x=some st2):st2.store=st.store:=by
 unfold sameSt at h
 split at h
 ·rename_i l o
  split at h
  ·rename_i cs hcs
   simp only [storeAV] at h2
   split at h2
   ·rw [hcs] at h2
    simp only at h2
    split at h2
    ·simp only [sI_] at h2
     rw [←h2]
     simp only
     rw [z9c _ _ _ (zce h)]
     obtain ⟨hl,rfl⟩:=List.getElem?_eq_some_iff.1 hcs
     exact List.set_getElem_self hl
    ·simp at h2
   ·simp at h2
  ·simp at h
 ·simp at h
theorem za2 {ks:List IOp} {E:Nat→Env} {T:Nat→St} {V:Nat→AV} {ts:List Tmp} (ht:Trace pure call ks E T V)(hq:qOk ts ks=true) {t:Tmp} {l o:Nat} (hm:t∈ts)(hp:(E 0).get t=.ptr l o): ∀i,i≤ks.length→(T i).store[l]? =(T 0).store[l]?
 |0,_=>rfl
 |i+1,hi=>by
  have ih:=za2 ht hq hm hp i (by omega)
  rw [←ih]
  have h1:=(List.all_eq_true.1 hq) ks[i] (List.getElem_mem hi)
  simp only [Bool.and_eq_true] at h1
  have h1:=h1.1
  rcases (ht.step i hi).2 with ⟨_,hop⟩ | ⟨_,_,hop⟩
  ·generalize ks[i].k=k at h1 hop
   cases k
   case storeq ts' s a x=>
    simp only [beq_iff_eq] at h1
    subst h1
    simp only [opAV] at hop
    split at hop
    ·next hoff0=>
     split at hop
     ·rename_i st2 h2
      simp only [sI_,Prod.mk.injEq] at hop
      obtain ⟨_,rfl⟩:=hop
      rcases hoff0 with hoff|hsame
      case inr=>rw [zes hsame h2]
      cases hx:aval (E i) a<;>rw [hx] at h2 hoff<;>simp only [offB,Bool.false_eq_true] at hoff
      rename_i l' o'
      have h3:=(List.all_eq_true.1 hoff) t hm
      rw [zef ht hq i (by omega) t hm,hp] at h3
      simp only [bne_iff_ne,ne_eq] at h3
      simp only [storeAV] at h2
      split at h2
      ·split at h2
       ·split at h2
        ·simp only [sI_] at h2;rw [←h2];exact List.getElem?_set_ne (fun e=>h3 e.symm)
        ·simp at h2
       ·simp at h2
      ·simp at h2
     ·simp at hop
    ·simp at hop
   case loadp ts' s ag a=>
    simp only [opAV,only] at hop
    split at hop
    ·split at hop
     ·simp only [sI_,Prod.mk.injEq] at hop;rw [←hop.2]
     ·simp at hop
    ·simp at hop
   case load s ag a=>
    simp only [opAV,only] at hop
    split at hop
    ·simp only [sI_,Prod.mk.injEq] at hop;rw [←hop.2]
    ·simp at hop
   all_goals first
    |(simp only [isVal,Bool.false_eq_true] at h1;done)
    |(rw [(ze4 rfl hop).2])
  ·rw [hop]
theorem zhw {ks:List IOp} {E:Nat→Env} {T:Nat→St} {V:Nat→AV} {ts:List Tmp} (ht:Trace pure call ks E T V)(hq:qOk ts ks=true) {i:Nat} (hi:i<ks.length) {ts':List Tmp} {s:Nat} {ag:Bool} {x:Operand} (hk:ks[i].k=.loadp ts' s ag x)(hw:wantedAV (E i) ks[i].g=some true):
  ∀q,q≤ks.length→loadAV s ag (T q) (aval (E i) x)=loadAV s ag (T i) (aval (E i) x):=by
 intro q hqn
 have h1:=(List.all_eq_true.1 hq) ks[i] (List.getElem_mem hi)
 simp only [Bool.and_eq_true,hk,beq_iff_eq] at h1
 have h1:=h1.1
 subst h1
 rcases (ht.step i hi).2 with ⟨_,hop⟩ | ⟨h2,_⟩
 ·rw [hk] at hop
  simp only [opAV] at hop
  split at hop
  ·next hon=>
   cases hx:aval (E i) x<;>rw [hx] at hon<;>simp only [onB,Bool.false_eq_true] at hon
   case eptr e o=>simp only [loadAV]
   rename_i l o
   obtain ⟨t,hm,h3⟩:=List.any_eq_true.1 hon
   rw [zef ht hq i (by omega) t hm] at h3
   split at h3
   ·rename_i l' o' hp
    simp only [beq_iff_eq] at h3
    subst h3
    simp only [loadAV]
    rw [za2 ht hq hm hp q hqn,za2 ht hq hm hp i (by omega)]
   ·simp at h3
  ·simp at hop
 ·rw [hw] at h2;simp at h2
theorem z5i {mt:Mode} {nt:Nat} {ops:Array Oper} {draw:Bool} {id:Nat} {ks:List IOp} {ts:List Tmp} (hmix:P.follows .mixedOrders=true)(hc:compRegionQ P pure mt nt ts ops draw=some ks)(hm:CallMono pure call)(hcall:CallOk P G pure call)(hcs:CallStore pure call)
  {env env':Env} {st st':St} (hv:opsAV pure call ks env st=some (env',st')) {us:Us} {w:World} {K:Kx} {a:Act} (hgl:GlobOk G us w) (hgm:GlobOk mt.2.2.2 us w) (hG:Good us w K st) (hE:EnvRel us w K env a) (hs:nt≤a.tmps.size) {Q:Exit→Act→World→Prop}
  (hQ: ∀a' w',(∀t,(∀i (h:i<ks.length),ks[i].d≠some t)→a'.tmps.getD t undef=a.tmps.getD t undef)→Ends .normal us w K st nt a.defers env' st' .normal a' w'→Q .normal a' w'):(Code.region id ops draw).wp P Q a w:=by
 obtain ⟨E,T,V,ht,e0,t0,en,tn⟩:=zdr hv
 have hcomp: ∃pv rs ks0,ops.toList.mapM (compIOp P pure pv rs mt nt ops)=some ks0∧(ks=ks0∨∃ts,ks=ks0.map (protOp ts ks0)∧qOk ts ks=true)∧(draw=true→orderOk ops ks=true):=by
  unfold compRegionQ at hc
  split at hc
  ·unfold compRegion at hc
   split at hc
   ·exact ⟨_,_,_,hc,.inl rfl,fun h=>by simp at h⟩
   ·split at hc
    ·rename_i l hl
     split at hc
     ·next ho=>simp only [sI_] at hc;subst hc;exact ⟨_,_,_,hl,.inl rfl,fun _=>ho⟩
     ·split at hc
      ·rename_i l2 hl2
       split at hc
       ·next ho=>simp only [sI_] at hc;subst hc;exact ⟨_,_,_,hl2,.inl rfl,fun _=>ho⟩
       ·simp at hc
      ·simp at hc
    ·simp at hc
  ·split at hc
   ·rename_i l hl
    split at hc
    ·next ho=>simp only [sI_] at hc;subst hc;exact ⟨_,_,_,hl,.inr ⟨_,rfl,ho.1⟩,fun _=>ho.2⟩
    ·simp at hc
   ·simp at hc
 obtain ⟨pv,rs,ks0,hmap,hks,hord⟩:=hcomp
 obtain ⟨hlen,hget⟩:=ze7 hmap
 have hl0:ks.length=ks0.length:=by
  rcases hks with rfl| ⟨ts,rfl,_⟩
  ·rfl
  ·simp
 have hlen':ks.length=ops.size:=by rw [hl0];simpa using hlen
 have hcomp: ∀i (h:i<ks.length),∃(pv rs:Bool) (mt:Mode) (o:Oper) (io:IOp),ops[i]? =some o∧compIOp P pure pv rs mt nt ops o=some io∧GlobOk mt.2.2.2 us w∧OpOf ks E T i io ks[i]:=by
  intro i h
  have h2:i<ops.size:=by omega
  have h0:i<ks0.length:=by omega
  refine ⟨pv,rs,mt,ops[i],ks0[i],Array.getElem?_eq_getElem h2,by have:=hget i (by simpa using h2) h0;rw [Array.getElem_toList] at this;exact this,hgm,?_⟩
  rcases hks with rfl| ⟨ts,e,hq⟩
  ·exact .inl rfl
  ·have ek:ks[i]=protOp ts ks0 ks0[i]:=by simp [e]
   have hpt:=fun ts' s ag x (hk:ks[i].k=.loadp ts' s ag x) hw=>zhw (i:=i) ht hq h hk hw
   rw [ek] at hpt⊢
   generalize ks0[i]=o at hpt
   obtain ⟨d,g,k⟩:=o
   cases k<;>try exact .inl rfl
   ·rename_i s ag a
    cases a<;>try exact .inl rfl
    rename_i t
    simp only [protOp] at hpt⊢
    split
    ·next hc=>
     rw [if_pos hc] at hpt
     exact .inr (.inl ⟨ts,s,ag,.tmp t,rfl,rfl,hpt ts s ag (.tmp t) rfl⟩)
    ·exact .inl rfl
   ·rename_i s a x
    exact .inr (.inr ⟨ts,s,a,x,rfl,rfl⟩)
 have start: ∀w1,Good us w1 K st→Ext us w K us w1 K→∃us' K' qS qT,Inv ks E T V nt (a.defers,fun t=>a.tmps.getD t undef) us w K (fun _=>false) a w1 us' K' qS qT:=by
  intro w1 hG1 hX1
  obtain ⟨qS,a1,a2,a3⟩:=z7h (fun j=>turnsS (ikAt ks j)) (fun _=>false) ks.length
  obtain ⟨qT,b1,b2,b3⟩:=z7h (fun j=>turnsT (ikAt ks j)) (fun _=>false) ks.length
  have pS:=ht.pushS hm (i:=0) (Nat.zero_le qS) a1 (fun m hmn _ h2=>by
   cases h:turnsS ks[m].k with
   |false=>rfl
   |true=>exact absurd (a3 m h2 (by rw [z7e hmn];exact h)) (by simp))
  have pT:=ht.pushT hm (i:=0) (Nat.zero_le qT) b1 (fun m hmn _ h2=>by
   cases h:turnsT ks[m].k with
   |false=>rfl
   |true=>exact absurd (b3 m h2 (by rw [z7e hmn];exact h)) (by simp))
  rw [t0] at pS pT
  obtain ⟨hG2,hX2⟩:=hG1.extend (S2:=⟨(T qS).store,(T qT).tips⟩) pS pT
  refine ⟨us,_,qS,qT,hX1.trans hX2,hG2,fun t=> ?_,a1,fun h=>a2 h,a3,b1,fun h=>b2 h,b3,fun i hi _ l h1 _=> ?_,fun i hi _ l h1 _=> ?_,hs,⟨fun l c h=> .inl h,fun t h=> .inl h⟩,⟨rfl,fun _ _=>rfl⟩⟩
  ·rw [z86 ht 0 ks.length (Nat.zero_le _) (Nat.le_refl _) (fun j hj=>absurd hj (by omega)) (fun _ _ _=>rfl),e0]
   exact (hE t).mono (hX1.trans hX2).usle (hX1.trans hX2).kle
  ·cases hk:K.lm l with
   |none=>rfl
   |some c=>
    have h2:=hG.lmlt l c hk
    have h3:=(ht.mono hm (Nat.zero_le i) (by omega)).1
    rw [t0] at h3
    omega
  ·cases hk:K.tk l with
   |none=>rfl
   |some c=>
    have h2:=hG.tklt l c hk
    have h3:=(ht.mono hm (Nat.zero_le i) (by omega)).2
    rw [t0] at h3
    omega
 have finish: ∀a' w' us' K' qS qT D,(∀i,i<ks.length→D i=true)→Inv ks E T V nt (a.defers,fun t=>a.tmps.getD t undef) us w K D a' w' us' K' qS qT→Q .normal a' w':=by
  intro a' w' us' K' qS qT D hD h
  refine hQ a' w' h.defers.2 ⟨rfl,us',K',h.ext,?_,?_,h.size,h.defers.1,?_,?_,?_⟩
  ·have e1:qS=ks.length:=by
    rcases Nat.lt_or_ge qS ks.length with hlt|hge
    ·have:=(h.qS2 hlt).2
     rw [hD qS hlt] at this;exact absurd this (by simp)
    ·have:=h.qS1;omega
   have e2:qT=ks.length:=by
    rcases Nat.lt_or_ge qT ks.length with hlt|hge
    ·have:=(h.qT2 hlt).2
     rw [hD qT hlt] at this;exact absurd this (by simp)
    ·have:=h.qT1;omega
   have:=h.good
   rw [e1,e2,tn] at this
   exact this
  ·have:=h.env
   rw [zc9 ht ks.length (Nat.le_refl _) hD,en] at this
   exact this
  ·have:=h.new;rw [t0] at this;exact this
  ·have:=(ht.mono hm (Nat.zero_le ks.length) (Nat.le_refl _)).1;rw [t0,tn] at this;exact this
  ·have:=(ht.mono hm (Nat.zero_le ks.length) (Nat.le_refl _)).2;rw [t0,tn] at this;exact this
 cases draw with
 |false=>
  refine wp_region ?_
  have hok:Okay ks (List.range ops.size) (fun _=>false):=by
   have:=zf6 (ks:=ks) ks.length 0 (by omega)
   rw [hlen',←List.range_eq_range'] at this
   exact Okay.congr (fun i _=>by simp) this
  exact zcw hcomp hgl ht hm hcall hcs finish _ _ a w hok (start w hG (.refl _ _ _))
 |true=>
  refine wp_region_draw (fun t=> ?_)
  obtain ⟨hG1,hX1⟩:=hG.drew
  simp only [Region.schedule,hmix,Bool.true_or,if_true]
  exact zcw hcomp hgl ht hm hcall hcs finish _ _ a w.drew (zcp hlen' (zf4 hlen' (hord rfl)) t) (start w.drew hG1 hX1)
theorem Ends.trans {x:X} {us us1:Us} {w w1:World} {K K1:Kx} {st st1 st2:St} {nt:Nat} {ds:List Deferred} {env2:Env} {e:Exit} {a2:Act} {w2:World} (hX:Ext us w K us1 w1 K1)(hN:NewK st.store.length st.tips.length K K1)(hl:st.store.length≤st1.store.length)(hl':st.tips.length≤st1.tips.length)
  (h:Ends x us1 w1 K1 st1 nt ds env2 st2 e a2 w2):Ends x us w K st nt ds env2 st2 e a2 w2:=by
 obtain ⟨h1,us',K',h2,h3,h4,h5,h6,h7,h8,h9⟩:=h
 exact ⟨h1,us',K',hX.trans h2,h3,h4,h5,h6,hN.trans h7 hl hl',by omega,by omega⟩
def CodeOk (P:Program) (G:Nat→List Nat) (nt:Nat) (c:Code) (body:Env→St→Out):Prop:=
 ∀env st x env' st',body env st=some (x,env',st')→∀us w K a,GlobOk G us w→Good us w K st→EnvRel us w K env a→nt≤a.tmps.size→
  ∀Q:Exit→Act→World→Prop,(∀e a' w',Ends x us w K st nt a.defers env' st' e a' w'→Q e a' w')→c.wp P Q a w
theorem zi4 {nt:Nat} {c:Code} (gc:Bool)(keep:List Tmp)(body:Env→St→Out)(hb:CodeOk P G nt c body)(n:Nat):
  CodeOk P G nt (.loop c) (fun env st=>loopAV (fun env' st'=>body (gcAV gc st.store.length st.tips.length (canon env' keep) st').1 (gcAV gc st.store.length st.tips.length (canon env' keep) st').2) n env st):=by
 intro env0 st0 x env' st' hv us0 w0 K0 a0 hgl0 hG0 hE0 hs0 Q hQ b k cs
 have key: ∀(n:Nat) (env:Env) (st:St),loopAV (fun env' st'=>body (gcAV gc st0.store.length st0.tips.length (canon env' keep) st').1 (gcAV gc st0.store.length st0.tips.length (canon env' keep) st').2) n env st=some (x,env',st')→
   ∀us w K a,Ext us0 w0 K0 us w K→NewK st0.store.length st0.tips.length K0 K→st0.store.length≤st.store.length→st0.tips.length≤st.tips.length→Good us w K st→EnvRel us w K env a→nt≤a.tmps.size→a.defers=a0.defers→
   ∃e a' w',Q e a' w'∧Arrives P (lone (b.at a (.code c:: .inLoop c::k)) cs w) b k cs e a' w':=by
  intro n
  induction n with
  |zero=>intro env st h;simp [loopAV] at h
  |succ n ih=>
   intro env st h us w K a hX hN hl1 hl2 hG hE hs hd
   obtain ⟨K2,g1,g2,g3,g4⟩:=zkj (gc:=gc) hG0 hX hN hl1 hl2 hG (zl1 hE keep)
   have hlens:st0.store.length≤(gcAV gc st0.store.length st0.tips.length (canon env keep) st).2.store.length∧st0.tips.length≤(gcAV gc st0.store.length st0.tips.length (canon env keep) st).2.tips.length:=by
    exact zfh gc (canon env keep) hl1 hl2
   simp only [loopAV] at h
   generalize hgs:gcAV gc st0.store.length st0.tips.length (canon env keep) st=gs at h g1 g2 hlens
   split at h
   ·rename_i env1 st1 hbody
    have hwp:=hb _ _ _ _ _ hbody us w K2 a (hgl0.mono g3.usle) g1 g2 hs (fun e a' w'=>Ends .normal us w K2 gs.2 nt a.defers env1 st1 e a' w') (fun _ _ _ h=>h)
    obtain ⟨e,a1,w1,hends,harr⟩:=hwp b (.inLoop c::k) cs
    obtain ⟨rfl,us1,K1,h2,h3,h4,h5,h6,h7,h8,h9⟩:=hends
    obtain ⟨e2,a2,w2,hq2,harr2⟩:=ih env1 st1 h us1 w1 K1 a1 (g3.trans h2) (g4.trans h7 hlens.1 hlens.2) (by omega) (by omega) h3 h4 h5 (h6.trans hd)
    exact ⟨e2,a2,w2,hq2,.of_steps (Steps.trans harr (.one step_inLoop)) harr2⟩
   ·rename_i hne
    have hbody:body gs.1 gs.2=some (x,env',st'):=h
    have hx:x≠.normal:=by
     intro hx
     subst hx
     exact hne env' st' hbody
    have hwp:=hb _ _ _ _ _ hbody us w K2 a (hgl0.mono g3.usle) g1 g2 hs (fun e a' w'=>Ends x us w K2 gs.2 nt a.defers env' st' e a' w') (fun _ _ _ h=>h)
    obtain ⟨e,a1,w1,hends,harr⟩:=hwp b (.inLoop c::k) cs
    have hends0:Ends x us0 w0 K0 st0 nt a0.defers env' st' e a1 w1:=by
     rw [←hd]
     exact hends.trans g3 g4 hlens.1 hlens.2
    have hene:e≠.normal:=by
     have:=hends.1
     cases x with
     |normal=>exact absurd rfl hx
     |exit i=>simp only at this;rw [this];simp
     |ret=>simp only at this;rw [this];simp
    exact ⟨e,a1,w1,hQ e a1 w1 hends0,.pass (x:=.inLoop c) rfl (fun _ _=> .inl hene) harr⟩
 obtain ⟨e,a',w',hq,harr⟩:=key n env0 st0 hv us0 w0 K0 a0 (.refl _ _ _) (.refl _ _ _) (Nat.le_refl _) (Nat.le_refl _) hG0 hE0 hs0 rfl
 exact ⟨e,a',w',hq,.of_steps (.one step_loop) harr⟩
theorem zii {nt:Nat} {keep:Nat→List Tmp} {gc:Bool} (n:Nat)(hmix:P.follows .mixedOrders=true)(hm:CallMono pure call)(hcall:CallOk P G pure call)(hcs:CallStore pure call)(hkg: ∀g,keep (glKey+g)≠[]→keep (glKey+g)=G g):
  ∀(c:Code) (b:Nat) (ic:IC),compC P pure keep gc nt b c=some ic→CodeOk P G nt c (fun env st=>codeAV pure call (fun body=>loopAV body n) ic env st):=by
 intro c
 induction c with
 |skip=>
  intro b ic hc env st x env' st' hv us w K a hgl hG hE hs Q hQ
  simp only [compC,sI_] at hc;subst hc
  simp only [codeAV,sI_,Prod.mk.injEq] at hv
  obtain ⟨rfl,rfl,rfl⟩:=hv
  exact wp_skip (hQ _ _ _ ⟨rfl,us,K,.refl _ _ _,hG,hE,hs,rfl,.refl _ _ _,Nat.le_refl _,Nat.le_refl _⟩)
 |region id ops draw=>
  intro b ic hc env st x env' st' hv us w K a hgl hG hE hs Q hQ
  simp only [compC] at hc
  cases hr:compRegionQ P pure (!(keep mutKey).isEmpty|| !(keep (mutRKey+id)).isEmpty,keep keptKey,!(keep pvKey).isEmpty,fun g=>keep (glKey+g)) nt (keep (qKey+id)) ops draw with
  |none=>simp [hr] at hc
  |some ks=>
   simp only [hr,Option.map_some,sI_] at hc
   split at hc
   ·split at hc
    case isFalse=>
     subst hc
     simp only [codeAV] at hv
     split at hv
     ·rename_i e1 st1 hops
      split at hv
      ·next hno=>
       simp only [sI_,Prod.mk.injEq] at hv
       obtain ⟨rfl,rfl,rfl⟩:=hv
       refine z5i hmix hr hm hcall hcs hops hgl (fun g hg=>by have h1:=hkg g hg;simp only at hg⊢;rw [h1] at hg⊢;exact hgl g hg) (zkc hG) (zml hE) hs (fun a' w' hfr h=>hQ _ _ _ ?_)
       obtain ⟨_,us1,K1,h2,h3,_,h5,h6,h7,h8,h9⟩:=h
       obtain ⟨us',K',k1,k2,k3,k4⟩:=zjt hG hE h2 h3 h7 h8 hno hfr
       exact ⟨rfl,us',K',k1,k2,k3,h5,h6,k4,by simp only;rw [z8k _ _ (by rw [z73] at h8;exact h8)];rw [z73] at h8;exact h8,Nat.le_refl _⟩
      ·simp at hv
     ·simp at hv
    subst hc
    simp only [codeAV] at hv
    split at hv
    ·rename_i e1 s1 hops
     simp only [sI_,Prod.mk.injEq] at hv
     obtain ⟨rfl,rfl,rfl⟩:=hv
     exact z5i hmix hr hm hcall hcs hops hgl (fun g hg=>by have h1:=hkg g hg;simp only at hg⊢;rw [h1] at hg⊢;exact hgl g hg) hG hE hs (fun a' w' _ h=>hQ _ _ _ h)
    ·simp at hv
   ·rename_i ts _
    split at hc
    ·subst hc
     simp only [codeAV] at hv
     obtain ⟨us1,g1,g2,g3,g4,g5⟩:=zag (keep (frzKey+id)) hG hE
     split at hv
     ·rename_i e1 s1 hops
      simp only [sI_,Prod.mk.injEq] at hv
      obtain ⟨rfl,rfl,rfl⟩:=hv
      exact z5i hmix hr hm hcall hcs hops (hgl.mono g3.usle) (fun g hg=>by have h1:=hkg g hg;simp only at hg⊢;rw [h1] at hg⊢;exact hgl.mono g3.usle g hg) g1 g2 hs (fun a' w' _ h=>hQ _ _ _ (h.trans g3 (.refl _ _ _) (by rw [g4];exact Nat.le_refl _) (by rw [g5];exact Nat.le_refl _)))
     ·simp at hv
    ·split at hc
     ·subst hc
      simp only [codeAV] at hv
      obtain ⟨us1,g1,g2,g3⟩:=zaf ((keep (frzKey+id)).map (· -500000)) hG hE
      have g45:=z8q ((keep (frzKey+id)).map (· -500000)) env st
      split at hv
      ·rename_i e1 s1 hops
       simp only [sI_,Prod.mk.injEq] at hv
       obtain ⟨rfl,rfl,rfl⟩:=hv
       exact z5i hmix hr hm hcall hcs hops (hgl.mono g3.usle) (fun g hg=>by have h1:=hkg g hg;simp only at hg⊢;rw [h1] at hg⊢;exact hgl.mono g3.usle g hg) g1 g2 hs (fun a' w' _ h=>hQ _ _ _ (h.trans g3 (.refl _ _ _) (by rw [g45.1];exact Nat.le_refl _) (by rw [g45.2];exact Nat.le_refl _)))
      ·simp at hv
     ·subst hc
      simp only [codeAV] at hv
      obtain ⟨us0,f1,f2,f3,f4,f5⟩:=zag ((keep (frzKey+id)).map (· -1000000)) hG hE
      obtain ⟨us1,g1,g2,g3⟩:=zaf ((keep (frzKey+id)).map (· -1000000)) f1 f2
      have g45:=z8q ((keep (frzKey+id)).map (· -1000000)) (frzAV ((keep (frzKey+id)).map (· -1000000)) env st).1 (frzAV ((keep (frzKey+id)).map (· -1000000)) env st).2
      split at hv
      ·rename_i e1 s1 hops
       simp only [sI_,Prod.mk.injEq] at hv
       obtain ⟨rfl,rfl,rfl⟩:=hv
       exact z5i hmix hr hm hcall hcs hops ((hgl.mono f3.usle).mono g3.usle) (fun g hg=>by have h1:=hkg g hg;simp only at hg⊢;rw [h1] at hg⊢;exact (hgl.mono f3.usle).mono g3.usle g hg) g1 g2 hs (fun a' w' _ h=>hQ _ _ _ (h.trans (f3.trans g3) (.refl _ _ _) (by rw [g45.1,f4];exact Nat.le_refl _) (by rw [g45.2,f5];exact Nat.le_refl _)))
      ·simp at hv
 |seq c1 c2 ih1 ih2=>
  intro b ic hc env st x env' st' hv us w K a hgl hG hE hs Q hQ
  simp only [compC] at hc
  split at hc
  ·rename_i i1 i2 h1 h2
   simp only [sI_] at hc;subst hc
   simp only [codeAV] at hv
   refine wp_seq ?_
   split at hv
   ·rename_i e1 s1 hv1
    refine ih1 b i1 h1 env st _ _ _ hv1 us w K a hgl hG hE hs _ (fun e a' w' h=> ?_)
    obtain ⟨rfl,us1,K1,g1,g2,g3,g4,g5,g6,g7,g8⟩:=h
    refine ih2 b i2 h2 e1 s1 x env' st' hv us1 w' K1 a' (hgl.mono g1.usle) g2 g3 g4 Q (fun e a2 w2 h2=>hQ e a2 w2 ?_)
    rw [←g5]
    exact h2.trans g1 g6 g7 g8
   ·rename_i hne
    refine ih1 b i1 h1 env st x env' st' hv us w K a hgl hG hE hs _ (fun e a' w' h=> ?_)
    have hx:x≠.normal:=by intro hx;subst hx;exact hne _ _ hv
    have h1':=h.1
    cases x with
    |normal=>exact absurd rfl hx
    |exit i=>simp only at h1';subst h1';exact hQ _ _ _ h
    |ret=>simp only at h1';subst h1';exact hQ _ _ _ h
  ·simp at hc
 |cond c c1 c2 ih1 ih2=>
  intro b ic hc env st x env' st' hv us w K a hgl hG hE hs Q hQ
  simp only [compC] at hc
  split at hc
  ·rename_i i1 i2 h1 h2
   simp only [sI_] at hc;subst hc
   simp only [codeAV] at hv
   split at hv
   ·rename_i t ht
    have hr:=ze hE c
    rw [ht] at hr
    refine wp_cond hr.v_inv ?_
    cases t
    ·exact ih2 b i2 h2 env st x env' st' (by simpa using hv) us w K a hgl hG hE hs Q hQ
    ·exact ih1 b i1 h1 env st x env' st' (by simpa using hv) us w K a hgl hG hE hs Q hQ
   ·simp at hv
  ·simp at hc
 |block i c ih=>
  intro b ic hc env st x env' st' hv us w K a hgl hG hE hs Q hQ
  simp only [compC] at hc
  cases h1:compC P pure keep gc nt i c with
  |none=>simp [h1] at hc
  |some i1=>
   simp only [h1,Option.map_some,sI_] at hc;subst hc
   simp only [codeAV] at hv
   refine wp_block ?_
   split at hv
   ·rename_i j e1 s1 hv1
    refine ih i i1 h1 env st _ _ _ hv1 us w K a hgl hG hE hs _ (fun e a' w' h=> ?_)
    have h1':=h.1
    simp only at h1'
    subst h1'
    simp only [Exit.inBlock]
    split at hv
    ·next hji=>
     simp only [sI_,Prod.mk.injEq] at hv
     obtain ⟨rfl,rfl,rfl⟩:=hv
     rw [if_pos hji]
     exact hQ _ _ _ ⟨rfl,h.2⟩
    ·next hji=>
     simp only [sI_,Prod.mk.injEq] at hv
     obtain ⟨rfl,rfl,rfl⟩:=hv
     rw [if_neg hji]
     exact hQ _ _ _ ⟨rfl,h.2⟩
   ·rename_i hne
    refine ih i i1 h1 env st x env' st' hv us w K a hgl hG hE hs _ (fun e a' w' h=> ?_)
    have h1':=h.1
    cases x with
    |normal=>simp only at h1';subst h1';exact hQ _ _ _ h
    |exit j=>exact absurd hv (hne j _ _)
    |ret=>simp only at h1';subst h1';exact hQ _ _ _ h
 |loop c ih=>
  intro b ic hc
  simp only [compC] at hc
  cases h1:compC P pure keep gc nt b c with
  |none=>simp [h1] at hc
  |some i1=>
   simp only [h1,Option.map_some,sI_] at hc;subst hc
   exact zi4 gc (keep b) _ (ih b i1 h1) n
 |exit i=>
  intro b ic hc env st x env' st' hv us w K a hgl hG hE hs Q hQ
  simp only [compC,sI_] at hc;subst hc
  simp only [codeAV,sI_,Prod.mk.injEq] at hv
  obtain ⟨rfl,rfl,rfl⟩:=hv
  exact wp_exit (hQ _ _ _ ⟨rfl,us,K,.refl _ _ _,hG,hE,hs,rfl,.refl _ _ _,Nat.le_refl _,Nat.le_refl _⟩)
 |ret=>
  intro b ic hc env st x env' st' hv us w K a hgl hG hE hs Q hQ
  simp only [compC,sI_] at hc;subst hc
  simp only [codeAV,sI_,Prod.mk.injEq] at hv
  obtain ⟨rfl,rfl,rfl⟩:=hv
  exact wp_ret (hQ _ _ _ ⟨rfl,us,K,.refl _ _ _,hG,hE,hs,rfl,.refl _ _ _,Nat.le_refl _,Nat.le_refl _⟩)
 |rangeFunc _ _ _ _ _ _=>intro b ic hc;simp [compC] at hc
 |scope c ih=>
  intro b ic hc env st x env' st' hv us w K a hgl hG hE hs Q hQ
  simp only [compC] at hc
  refine wp_scope_straight (ih b ic hc env st x env' st' hv us w K a hgl hG hE hs _ (fun e a' w' h=> ?_))
  have h1':=h.1
  cases x with
  |normal=>simp only at h1';subst h1';exact hQ _ _ _ h
  |exit j=>simp only at h1';subst h1';exact hQ _ _ _ h
  |ret=>simp only at h1';subst h1';exact hQ _ _ _ h
 |label _=>
  intro b ic hc env st x env' st' hv us w K a hgl hG hE hs Q hQ
  simp only [compC,sI_] at hc;subst hc
  simp only [codeAV,sI_,Prod.mk.injEq] at hv
  obtain ⟨rfl,rfl,rfl⟩:=hv
  exact wp_label (hQ _ _ _ ⟨rfl,us,K,.refl _ _ _,hG,hE,hs,rfl,.refl _ _ _,Nat.le_refl _,Nat.le_refl _⟩)
 |goto _=>intro b ic hc;simp [compC] at hc
 |refuse _=>intro b ic hc;simp [compC] at hc
end
end Go.Ev
namespace Go.Ev
open Go
section
variable {P:Program} {pure:FuncId→Bool} {call:CallF}
theorem zmr (gc:Bool)(env:Env) {l n:Nat} {st:St} (h1:l≤st.store.length)(h2:n≤st.tips.length):
 l≤(gcAV gc l n env st).2.store.length∧n≤(gcAV gc l n env st).2.tips.length:=zfh gc env h1 h2
theorem zf5 (hm:CallMono pure call) {ks:List IOp} {env env':Env} {st st':St} (h:opsAV pure call ks env st=some (env',st')):st.store.length≤st'.store.length∧st.tips.length≤st'.tips.length:=by
 obtain ⟨E,T,V,ht,e0,t0,en,tn⟩:=zdr h
 have:=ht.mono hm (Nat.zero_le ks.length) (Nat.le_refl _)
 rw [t0,tn] at this
 exact this
theorem zd5 {L N:Nat} {body:Env→St→Out} (hb: ∀env st x env' st',L≤st.store.length→N≤st.tips.length→body env st=some (x,env',st')→L≤st'.store.length∧N≤st'.tips.length):
  ∀(n:Nat) (env:Env) (st:St) (x:X) (env':Env) (st':St),L≤st.store.length→N≤st.tips.length→loopAV body n env st=some (x,env',st')→L≤st'.store.length∧N≤st'.tips.length
 |0,env,st,x,env',st',_,_,h=>by simp [loopAV] at h
 |n+1,env,st,x,env',st',h1,h2,h=>by
  simp only [loopAV] at h
  split at h
  ·rename_i e1 s1 hbody
   have:=hb _ _ _ _ _ h1 h2 hbody
   exact zd5 hb n _ _ _ _ _ this.1 this.2 h
  ·exact hb _ _ _ _ _ h1 h2 h
theorem zdn (hm:CallMono pure call)(n:Nat): ∀(ic:IC) (env:Env) (st:St) (x:X) (env':Env) (st':St),codeAV pure call (fun b=>loopAV b n) ic env st=some (x,env',st')→st.store.length≤st'.store.length∧st.tips.length≤st'.tips.length:=by
 intro ic
 induction ic with
 |skip=>intro env st x env' st' h;simp only [codeAV,sI_,Prod.mk.injEq] at h;obtain ⟨_,_,rfl⟩:=h;exact ⟨Nat.le_refl _,Nat.le_refl _⟩
 |exit i=>intro env st x env' st' h;simp only [codeAV,sI_,Prod.mk.injEq] at h;obtain ⟨_,_,rfl⟩:=h;exact ⟨Nat.le_refl _,Nat.le_refl _⟩
 |ret=>intro env st x env' st' h;simp only [codeAV,sI_,Prod.mk.injEq] at h;obtain ⟨_,_,rfl⟩:=h;exact ⟨Nat.le_refl _,Nat.le_refl _⟩
 |ops l=>
  intro env st x env' st' h
  simp only [codeAV] at h
  split at h
  ·rename_i e1 s1 h1
   simp only [sI_,Prod.mk.injEq] at h;obtain ⟨_,_,rfl⟩:=h
   exact zf5 hm h1
  ·simp at h
 |frz ts=>
  intro env st x env' st' h
  simp only [codeAV,sI_,Prod.mk.injEq] at h;obtain ⟨_,_,rfl⟩:=h
  have:=zdf ts env st
  rw [this.1,this.2];exact ⟨Nat.le_refl _,Nat.le_refl _⟩
 |frzp ts=>
  intro env st x env' st' h
  simp only [codeAV,sI_,Prod.mk.injEq] at h;obtain ⟨_,_,rfl⟩:=h
  have:=z8q ts env st
  rw [this.1,this.2];exact ⟨Nat.le_refl _,Nat.le_refl _⟩
 |lost l=>
  intro env st x env' st' h
  simp only [codeAV] at h
  split at h
  ·rename_i e1 s1 h1
   split at h
   ·simp only [sI_,Prod.mk.injEq] at h;obtain ⟨_,_,rfl⟩:=h
    have h2:=(zf5 hm h1).1
    rw [z73] at h2
    simp only
    rw [z8k _ _ h2]
    exact ⟨h2,Nat.le_refl _⟩
   ·simp at h
  ·simp at h
 |seq a b iha ihb=>
  intro env st x env' st' h
  simp only [codeAV] at h
  split at h
  ·rename_i e1 s1 h1
   have h2:=iha _ _ _ _ _ h1
   have h3:=ihb _ _ _ _ _ h
   exact ⟨by omega,by omega⟩
  ·exact iha _ _ _ _ _ h
 |cond c a b iha ihb=>
  intro env st x env' st' h
  simp only [codeAV] at h
  split at h
  ·split at h
   ·exact iha _ _ _ _ _ h
   ·exact ihb _ _ _ _ _ h
  ·simp at h
 |block i a iha=>
  intro env st x env' st' h
  simp only [codeAV] at h
  split at h
  ·rename_i j e1 s1 h1
   have h2:=iha _ _ _ _ _ h1
   split at h<;>(simp only [sI_,Prod.mk.injEq] at h;obtain ⟨_,_,rfl⟩:=h;exact h2)
  ·exact iha _ _ _ _ _ h
 |loop gc ks a iha=>
  intro env st x env' st' h
  simp only [codeAV] at h
  refine zd5 (fun e s x e' s' h1 h2 hb=> ?_) n _ _ _ _ _ (Nat.le_refl _) (Nat.le_refl _) h
  have h3:=zmr gc (canon e ks) h1 h2
  have h4:=iha _ _ _ _ _ hb
  exact ⟨by omega,by omega⟩
theorem zij (hm:CallMono pure call)(n:Nat) {fn:IF} {args:List AV} {st st':St} {r:AV} (h:bodyAV pure call (fun b=>loopAV b n) fn args st=some (r,st')):st.store.length≤st'.store.length∧st.tips.length≤st'.tips.length:=by
 simp only [bodyAV] at h
 split at h
 ·rename_i e s h1
  split at h
  ·simp only [sI_,Prod.mk.injEq] at h;obtain ⟨_,rfl⟩:=h;exact zdn hm n _ _ _ _ _ _ h1
  ·simp at h
 ·rename_i e s h1
  split at h
  ·simp only [sI_,Prod.mk.injEq] at h;obtain ⟨_,rfl⟩:=h;exact zdn hm n _ _ _ _ _ _ h1
  ·simp at h
 ·simp at h
theorem zmg (st1 st:St)(r:AV):(leave st1 st r).2.store=st.store∧∃rest,(leave st1 st r).2.tips=st.tips++rest:=⟨rfl,[],by simp [leave]⟩
theorem z92 {L:Lib} {f:FuncId} {args:List AV} {st st':St} {r:AV} (h:primAV L f args st=some (r,st')):L.pure f=false∧(st.store.length≤st'.store.length∧st.tips.length≤st'.tips.length)∧L.prim f args st=some (r,st'):=by
 unfold primAV at h
 split at h
 ·rename_i r1 s1 h1
  split at h
  ·next hc=>
   simp only [sI_,Prod.mk.injEq] at h
   obtain ⟨rfl,rfl⟩:=h
   exact ⟨hc.1,hc.2,h1⟩
  ·simp at h
 ·simp at h
theorem zfm {L:Lib} (hm:CallMono L.pure call)(n:Nat):CallMono L.pure (enterAV L call (fun b=>loopAV b n)):=by
 have hp: ∀f args st r st',enterAV L call (fun b=>loopAV b n) f args st=some (r,st')→L.pure f=true→st'.store=st.store∧∃rest,st'.tips=st.tips++rest:=by
  intro f args st r st' h hf
  simp only [enterAV] at h
  split at h
  ·rw [if_pos hf] at h
   split at h
   ·rename_i r1 st1 _
    simp only [sI_] at h
    have:=zmg st1 st r1
    rw [h] at this
    exact this
   ·simp at h
  ·rw [(z92 h).1] at hf;simp at hf
 refine ⟨fun f args st r st' h=> ?_,hp⟩
 by_cases hf:L.pure f=true
 ·obtain ⟨h1,r,h2⟩:=hp f args st _ st' h hf
  rw [h1,h2];simp
 ·simp only [enterAV] at h
  split at h
  ·rw [if_neg hf] at h
   exact zij hm n h
  ·exact (z92 h).2.1
theorem z7k (L:Lib): ∀n,CallMono L.pure (callAV L n)
 |0=>⟨fun f args st r st' h=>by simp [callAV] at h,fun f args st r st' h=>by simp [callAV] at h⟩
 |n+1=>zfm (z7k L n) n
theorem z88 (L:Lib)(n:Nat):CallStore L.pure (callAV L n):=fun f args st r st' h hf=>((z7k L n).pure f args st r st' h hf).1
theorem zg7 {us:Us} {w:World} {K:Kx} {S:St} {r:AV} {t:TypeId} {s:Nat} {ag:Bool} {A:AV} {x:Value} (hs:sizeT P t=some s)(hag:isAggT P t=some ag)(hG:Good us w K S)(h:loadAV s ag S A=some r)(hr:Rel us w K A x):
  ∃ad y,x=.pointer (some ad)∧(loadVar t ad).run P w=.ok y w∧Rel us w K r y:=by
 unfold loadAV at h
 split at h
 ·rename_i l q
  obtain ⟨c,hc,rfl⟩:=hr.ptr_inv
  cases hl:S.store[l]? with
  |none=>simp [hl] at h
  |some cs=>
   simp only [hl,Option.bind_some] at h
   obtain ⟨cur,ty,h1,_,h2,_⟩:=hG.blk l c cs hc hl
   obtain ⟨y,h3,h4⟩:=z78 (P:=P) (p:=0) hs hag h h2 (z41 h1 _)
   rw [Nat.zero_add] at h3
   exact ⟨_,y,rfl,h3,h4⟩
 ·rename_i e q
  obtain ⟨c,p,vs,rfl,h1⟩:=hr.eptr_inv
  obtain ⟨y,h3,h4⟩:=z78 (P:=P) hs hag h h1.rels.ofNil h1.cells
  exact ⟨_,y,rfl,h3,h4⟩
 ·simp at h
def resultOf (tmps:Array Value):ResultVar→Sem Value
 | .tmp t=>Pure.pure (tmps.getD t undef)
 | .cell a t=>do loadVar t (←asAddr (tmps.getD a undef))
theorem zbg {us:Us} {w:World} {K:Kx} {st:St} {env:Env} {a:Act} (hG:Good us w K st)(hE:EnvRel us w K env a): ∀(rs:List ResultVar) (l:List (Tmp×Option (Nat×Bool))),rs.mapM (compRes P)=some l→∀xs,resAV env st l=some xs→
  ∃vs:List Value,(rs.mapM (resultOf a.tmps)).run P w=.ok vs w∧Rels us w K xs vs
 | [],l,hl,xs,hx=>by
  simp at hl;subst hl;simp only [resAV,sI_] at hx;subst hx
  exact ⟨[],rfl,.nil⟩
 |x::rs,l,hl,xs,hx=>by
  rw [List.mapM_cons] at hl
  cases h1:compRes P x with
  |none=>simp [h1] at hl
  |some y=>
   cases h2:rs.mapM (compRes P) with
   |none=>simp [h1,h2] at hl
   |some ys=>
    simp [h1,h2] at hl
    subst hl
    obtain ⟨t,o⟩:=y
    cases o with
    |none=>
     simp only [resAV] at hx
     split at hx
     ·rename_i xs' hxs
      simp only [sI_] at hx;subst hx
      obtain ⟨vs,h3,h4⟩:=zbg hG hE rs ys h2 xs' hxs
      cases x with
      |tmp t'=>
       simp only [compRes,sI_,Prod.mk.injEq,and_true] at h1;subst h1
       refine ⟨a.tmps.getD t' undef::vs,?_,.cons (hE t') h4⟩
       simp only [List.mapM_cons,Sem.run_bind,resultOf,Sem.run_pure,Result.andThen_ok,h3]
      |cell t' ty=>
       simp only [compRes] at h1
       split at h1<;>simp at h1
     ·simp at hx
    |some q=>
     obtain ⟨s,ag⟩:=q
     simp only [resAV] at hx
     split at hx
     ·rename_i x1 xs' hx1 hxs
      simp only [sI_] at hx;subst hx
      obtain ⟨vs,h3,h4⟩:=zbg hG hE rs ys h2 xs' hxs
      cases x with
      |tmp t'=>simp [compRes] at h1
      |cell t' ty=>
       simp only [compRes] at h1
       split at h1
       ·rename_i s' ag' hs' hag'
        simp only [sI_,Prod.mk.injEq] at h1
        obtain ⟨rfl,rfl,rfl⟩:=h1
        obtain ⟨ad,y,e1,e2,e3⟩:=zg7 (P:=P) hs' hag' hG hx1 (hE t')
        refine ⟨y::vs,?_,.cons e3 h4⟩
        simp only [List.mapM_cons,Sem.run_bind,resultOf,e1,asAddr,Sem.run_pure,Result.andThen_ok,e2,h3]
       ·simp at h1
     ·simp at hx
theorem z9a {us:Us} {w:World} {K:Kx} {st:St} {env:Env} {a:Act} {fn:Func} {l:List (Tmp×Option (Nat×Bool))} {xs:List AV} (hG:Good us w K st)(hE:EnvRel us w K env a)(hl:fn.results.toList.mapM (compRes P)=some l)(hx:resAV env st l=some xs):
  ∃v,(results fn a.tmps).run P w=.ok v w∧Rel us w K (tupAV xs) v:=by
 obtain ⟨vs,h1,h2⟩:=zbg hG hE _ l hl xs hx
 have hrun:(results fn a.tmps).run P w=.ok (if h:vs.toArray.size=1 then vs.toArray[0] else .tuple vs.toArray) w:=by
  have e:results fn a.tmps=(do let vs←fn.results.mapM (resultOf a.tmps);Pure.pure (if h:vs.size=1 then vs[0] else .tuple vs)):=by
   unfold results
   congr 1
  rw [e,Array.mapM_eq_mapM_toList]
  simp only [Sem.run_bind,Sem.run_map,h1,Result.andThen_ok,Sem.run_pure]
 refine ⟨_,hrun,?_⟩
 match xs,vs,h2 with
 | [],vs,h2=>rw [h2.nil_inv];exact Rel.mkTup (vs:= #[]) .nil
 | [x],vs,h2=>
  obtain ⟨y,r,rfl,e1,e2⟩:=h2.cons_inv
  rw [e2.nil_inv]
  exact e1
 |x::y::xs,vs,h2=>
  have hlen:=h2.len
  have: ¬vs.toArray.size=1:=by simp at hlen⊢;omega
  rw [dif_neg this]
  exact Rel.mkTup (by simpa [tupAV] using h2)
end
end Go.Ev
namespace Go.Ev
open Go
section
variable {P:Program}
open Classical in
noncomputable def frozen (us:Us) (w:World) (K:Kx):Us:=fun c=>
 match us c with
 |some n=>some n
 |none=>if ∃l,K.lm l=some c then (match w.heap[c]? with|some (.cells cur _ _)=>some cur.size|_=>none) else none
theorem zdg {us:Us} {w:World} {K:Kx} {c:Nat} (h: ∀l,K.lm l≠some c):frozen us w K c=us c:=by
 have: ¬ ∃l,K.lm l=some c:=fun ⟨l,e⟩=>h l e
 simp only [frozen,if_neg this]
 cases us c<;>rfl
theorem zkm {us:Us} {w:World} {K:Kx} {l c:Nat} {cur:Array Value} {ty:TypeId} (h:K.lm l=some c)(hb:w.heap[c]? =some (.cells cur ty (0,0))): ∃n,frozen us w K c=some n∧(us c=none→n=cur.size):=by
 have: ∃l,K.lm l=some c:=⟨l,h⟩
 simp only [frozen,if_pos this,hb]
 cases us c with
 |none=>exact ⟨_,rfl,fun _=>rfl⟩
 |some n=>exact ⟨n,rfl,fun h=>by simp at h⟩
theorem z5g {us:Us} {w:World} {K:Kx}:UsLe us w (frozen us w K) w:=by
 intro c n hc
 exact ⟨n,by simp only [frozen,hc],Nat.le_refl _,fun _ _=>rfl⟩
theorem zec (st:St)(l:List AV):(fins st l).length=l.length:=by
 induction l with
 |nil=>rfl
 |cons a r ih=>simp [fins,ih]
theorem zhc (st:St)(l:List AV)(i:Nat)(h:i<(fins st l).length):(fins st l)[i]=fin st (l[i]'(by rw [zec] at h;exact h)):=by
 induction l generalizing i with
 |nil=>simp [fins] at h
 |cons a r ih=>
  cases i with
  |zero=>simp [fins]
  |succ i=>simp [fins];exact ih i (by simpa [fins] using h)
theorem zpb {us:Us} {w:World} {K:Kx} {a:AV} {x:Value} (h:Rel us w K a x): ∀st:St,Good us w K st→Rel (frozen us w K) w .nil (fin st a) x:=by
 induction h with
 |any K x=>intro st _;simp only [fin];exact .any _ x
 |v K x h=>intro st _;simp only [fin];exact .v _ x h
 |ptr K l o c h=>intro st _;simp only [fin];exact .any _ _
 |eptr K e o c p n vs hu1 hn hc h1 hl hr _=>intro st hG;have:=(Rel.pub (Rel.eptr K e o c p n vs hu1 hn hc h1 hl hr)).mono (z5g (us:=us) (w:=w) (K:=K)) (KLe.nil _ _ _ _ .nil);simpa only [fin,Ev.pub] using this
 |lst K g z xs c p n cap vs hu1 hn hc h1 hz hcap hl hr ht _=>intro st hG;have:=(Rel.pub (Rel.lst K g z xs c p n cap vs hu1 hn hc h1 hz hcap hl hr ht)).mono (z5g (us:=us) (w:=w) (K:=K)) (KLe.nil _ _ _ _ .nil);simpa only [fin,Ev.pub] using this
 |rsl K l o n c z a b cap h hx=>
  intro st hG
  simp only [fin]
  split
  ·rename_i cs hcs
   split
   ·next hc=>
    obtain ⟨h1,h2,h3⟩:=hc
    obtain ⟨cur,ty,g1,g0,g2,g3⟩:=hG.blk l b cs h hcs
    have hcle:c≤cap:=Caps.le hx
    have hr:=((g2.drop o).pubs).mono (z5g (us:=us) (w:=w) (K:=K)) (KLe.nil _ _ _ _ .nil)
    obtain ⟨q1,q2⟩:=z74 a z n (pubs (cs.drop o)) ((cur.toList.take cs.length).drop o) h2 (by rw [z2a];simp;omega) hr
    have hn:(group a z n (pubs (cs.drop o))).length=n:=z53 _ _ _ _
    have hvl:(((cur.toList.take cs.length).drop o).take (n*z)).length=n*z:=by simp;omega
    obtain ⟨m,hm1,hm2⟩:=zkm (us:=us) h g1
    have hm:o+n*z≤m:=by
     by_cases hne:cs=[]
     ·subst hne;simp only [List.length_nil] at h1;omega
     ·have:=hm2 (hG.live h hcs hne);omega
    have:=Rel.lst (us:=frozen us w K) (w:=w) .nil .any z (group a z n (pubs (cs.drop o))) b o m cap (((cur.toList.take cs.length).drop o).take (n*z))
     hm1 (by rw [hvl];exact hm) (fun i hi=>by
      have hi':o+i<(cur.toList.take cs.length).length:=by rw [hvl] at hi;simp;omega
      have:=z41 g1 cs.length (o+i) hi'
      rw [Nat.zero_add] at this
      rw [this]
      simp) (fun x hx=>g3 x (List.mem_of_mem_take (List.mem_of_mem_drop (List.mem_of_mem_take hx)))) q2 (by rw [hn];omega) q1.len q1.rel trivial
    rw [hn] at this
    exact this
   ·exact .any _ _
  ·exact .any _ _
 |fn K f a b va vb ha hb hra hrb _ _=>intro st hG;have:=(Rel.pub (Rel.fn K f a b va vb ha hb hra hrb)).mono (z5g (us:=us) (w:=w) (K:=K)) (KLe.nil _ _ _ _ .nil);simpa only [fin,Ev.pub] using this
 |ifc K t a x h _=>intro st hG;have:=(Rel.pub (Rel.ifc K t a x h)).mono (z5g (us:=us) (w:=w) (K:=K)) (KLe.nil _ _ _ _ .nil);simpa only [fin,Ev.pub] using this
 |agg K cs vs hl _ ih=>intro st hG;simp only [fin];exact .agg _ _ vs (by rw [zec];exact hl) (fun i h h'=>by rw [zhc];exact ih i _ h' st hG)
 |tup K cs vs hl _ ih=>intro st hG;simp only [fin];exact .tup _ _ vs (by rw [zec];exact hl) (fun i h h'=>by rw [zhc];exact ih i _ h' st hG)
theorem zmh {us us1 : Us} {w w1 : World} {K K1 : Kx} {st st1 st' S : St} {r r' : AV} {x : Value} (hG1 : Good us1 w1 K1 st1) (hX : Ext us w .nil us1 w1 K1) (hr : Rel us1 w1 K1 r x) (hG : Good us w K S)
    (htips : ∃ rest, S.tips = st'.tips ++ rest) (hfree : ∀ t, st.tips.length ≤ t → t < st'.tips.length → K.tk t = none) (hl : leave st1 st r = (r', st')) :
    ∃ us' K', Rel us' w1 K' r' x ∧ Ext us w K us' w1 K' ∧ Good us' w1 K' S ∧ Fresh st st' K K' := by
  have hold : ∀ c, c < w.heap.size → frozen us1 w1 K1 c = us c ∧ w1.heap[c]? = w.heap[c]? := by
    intro c hc
    have h1 := hX.frame c hc (fun l h => by simp [Kx.nil] at h) (fun l h => by simp [Kx.nil] at h)
    rw [       zdg (fun l h => by rcases hX.lmNew l c h with ⟨_, h⟩ | h; · simp [Kx.nil] at h
                                  · omega)]
    exact ⟨h1.2, h1.1⟩
  have hule : UsLe us w (frozen us1 w1 K1) w1 := hX.usle.trans z5g
  have hlt : ∀ t c, K.tk t = some c → c < w.heap.size := fun t c h => by
    obtain ⟨n, hn⟩ := hG.tkus t c h
    exact hG.uslt c n hn
  have hk : KLe us w K (frozen us1 w1 K1) w1 K := ⟨fun _ _ h => ⟨h, fun n hn => by obtain ⟨cur, ty, h1, h2⟩ := hn; exact ⟨cur, ty, (hold _ (Array.getElem?_eq_some_iff.1 h1).1).2.trans h1, h2⟩⟩, fun t m h => ⟨m, h, Nat.le_refl _, fun _ c hc => ⟨hc, (hold c (hlt t c hc)).1, fun n hn => hX.sz c n hn⟩⟩⟩
  have huslt : ∀ c n, frozen us1 w1 K1 c = some n → c < w1.heap.size := by
    intro c n h
    by_cases e : ∃ l, K1.lm l = some c
    · obtain ⟨l, e⟩ := e
      exact hG1.lmltH e
    · rw [zdg (fun l h => e ⟨l, h⟩)] at h
      exact hG1.uslt c n h
  have hbase : Ext us w K (frozen us1 w1 K1) w1 K ∧ Good (frozen us1 w1 K1) w1 K S :=
    ⟨⟨hX.os, hX.tape, hX.output, hX.size, hX.sz, hule, hk, fun c hc _ _ => ⟨(hold c hc).2, (hold c hc).1⟩, fun c hc h _ => (hold c hc).1.trans h, fun l _ h => .inl ⟨l, h⟩, fun _ _ h => .inl h⟩,
     ⟨hG.T, hG.lmlt, fun l c cs h hs => (hG.blk l c cs h hs).mono hule hk (hold c (hG.lmltH h)).2, hG.inj, hG.tkinj, hG.tklt, fun t c h => by rw [(hold c (hlt t c h)).1]; exact hG.tkus t c h, huslt, fun l c h => by rw [(hold c (hG.lmltH h)).1]; exact hG.disj l c h, hG.lmtk⟩⟩
  have plain : ∀ {b : AV}, Rel (frozen us1 w1 K1) w1 .nil b x → (r', st') = (b, st) → ∃ us' K', Rel us' w1 K' r' x ∧ Ext us w K us' w1 K' ∧ Good us' w1 K' S ∧ Fresh st st' K K' := by
    intro b hb e
    simp only [Prod.mk.injEq] at e
    obtain ⟨rfl, rfl⟩ := e
    exact ⟨_, K, hb.ofNil, hbase.1, hbase.2, .same _ _⟩
  exact plain (zpb hr st1 hG1) hl.symm
theorem zd0: ∀(i:Nat) (args:List AV) (t:Nat),(params i args).get t=if i≤t then (args[t-i]?).getD .any else .any
 |i,[],t=>by simp [params,Env.get]
 |i,a::r,t=>by
  simp only [params,Env.get,zd0 (i+1) r t]
  by_cases e:t=i
  ·subst e;simp
  ·by_cases e2:i≤t
   ·have h1:i+1≤t:=by omega
    have h2:t-i=(t-(i+1))+1:=by omega
    simp [e2,h1,h2,Ne.symm e,e]
   ·have h1: ¬i+1≤t:=by omega
    simp [e2,h1,Ne.symm e,e]
theorem zcy {us:Us} {w:World} {K:Kx} {args:List AV} {vs:Array Value} (h:Rels us w K args vs.toList)(n:Nat)(ds:List Deferred):EnvRel us w K (params 0 args) {tmps:=vs++Array.replicate n undef,defers:=ds}:=by
 intro t
 rw [zd0]
 simp only [Nat.zero_le,if_true,Nat.sub_zero]
 cases hx:args[t]? with
 |none=>exact .any _ _
 |some a=>
  obtain ⟨x,h1,h2⟩:=h.get hx
  have hlt:t<vs.size:=by simpa using (List.getElem?_eq_some_iff.1 h1).1
  have:(vs++Array.replicate n undef).getD t undef=x:=by
   rw [Array.getElem?_toList] at h1
   rw [Array.getD_eq_getD_getElem?,Array.getElem?_append_left hlt,h1];rfl
  simp only [Option.getD_some,this]
  exact h2
def FnsOk (P:Program) (G:Nat→List Nat) (L:Lib):Prop:=∀f fn,L.fns f=some fn→∃keep:Nat→List Tmp,(∀g,keep (glKey+g)≠[]→keep (glKey+g)=G g)∧compF P L.pure keep f=some fn
def PrimOk (P:Program) (L:Lib):Prop:=∀f args st r st',L.prim f args st=some (r,st')→∀(us:Us) (w:World) (K:Kx) (vs:Array Value),Good us w K st→Rels us w K args vs.toList→
 (∃ fn, P.funcs[f]? = some fn ∧ fn.body.isSome = true ∧ fn.name ≠ "runtime.NumGoroutine") ∧
 Calls P f vs w fun e w'=> ∃x us' K',e=.returned x∧Rel us' w' K' r x∧Ext us w K us' w' K'∧Good us' w' K' st'∧Fresh st st' K K'
def LibOk (P:Program) (G:Nat→List Nat) (L:Lib):Prop:=FnsOk P G L∧PrimOk P L
theorem zdm {pure:FuncId→Bool} {keep:Nat→List Tmp} {f:FuncId} {fn:IF} (h:compF P pure keep f=some fn):
  ∃ g c, P.funcs[f]? = some g ∧ g.body = some c ∧ g.name ≠ "runtime.NumGoroutine" ∧ compC P pure keep (pure f || !(keep gcKey).isEmpty) g.ntmps 0 c = some fn.code ∧ g.results.toList.mapM (compRes P) = some fn.res := by
 unfold compF at h
 split at h
 ·rename_i g hg
  split at h
  ·rename_i c hc
   split at h
   ·rename_i ic r h1 h2
    split at h
    ·simp at h
    ·next hne=>
     simp only [sI_] at h;subst h
     exact ⟨g,c,hg,hc,by simpa using hne,h1,h2⟩
   ·simp at h
  ·simp at h
 ·simp at h
theorem zdp {G:Nat→List Nat} {L:Lib} {call:CallF} {keep:Nat→List Tmp} {f:FuncId} {fn:IF} (n:Nat)(hmix:P.follows .mixedOrders=true)(hm:CallMono L.pure call)(hcall:CallOk P G L.pure call)(hcs:CallStore L.pure call)(hkg: ∀g,keep (glKey+g)≠[]→keep (glKey+g)=G g)(hc:compF P L.pure keep f=some fn)
  {us:Us} {w:World} {K:Kx} {st st':St} {args:List AV} {r:AV} {vs:Array Value} (hgl:GlobOk G us w) (hG:Good us w K st) (hr:Rels us w K args vs.toList) (hv:bodyAV L.pure call (fun b=>loopAV b n) fn args st=some (r,st')):
  Calls P f vs w fun e w'=> ∃x us' K',e=.returned x∧Rel us' w' K' r x∧Ext us w K us' w' K'∧Good us' w' K' st'∧NewK st.store.length st.tips.length K K':=by
 obtain ⟨g,c,h1,h2,h3,h4,h5⟩:=zdm hc
 refine calls_of_wp h1 h2 ?_
 have hcode:=zii n hmix hm hcall hcs hkg c 0 fn.code h4
 have hsize:g.ntmps≤(vs++Array.replicate (g.ntmps-vs.size) undef).size:=by simp;omega
 simp only [bodyAV] at hv
 split at hv
 ·rename_i e s h6
  split at hv
  ·rename_i xs h7
   simp only [sI_,Prod.mk.injEq] at hv
   obtain ⟨rfl,rfl⟩:=hv
   refine hcode _ _ _ _ _ h6 us w K _ hgl hG (zcy hr _ _) hsize _ (fun ex a' w' he=> ?_)
   obtain ⟨rfl,us',K',g1,g2,g3,g4,g5,g6,g7,g8⟩:=he
   obtain ⟨v,q1,q2⟩:=z9a (P:=P) g2 g3 h5 h7
   exact ⟨g5,v,q1,v,us',K',rfl,q2,g1,g2,g6⟩
  ·simp at hv
 ·rename_i e s h6
  split at hv
  ·rename_i xs h7
   simp only [sI_,Prod.mk.injEq] at hv
   obtain ⟨rfl,rfl⟩:=hv
   refine hcode _ _ _ _ _ h6 us w K _ hgl hG (zcy hr _ _) hsize _ (fun ex a' w' he=> ?_)
   obtain ⟨rfl,us',K',g1,g2,g3,g4,g5,g6,g7,g8⟩:=he
   obtain ⟨v,q1,q2⟩:=z9a (P:=P) g2 g3 h5 h7
   exact ⟨g5,v,q1,v,us',K',rfl,q2,g1,g2,g6⟩
  ·simp at hv
 ·simp at hv
theorem zmo {us:Us} {w:World} {K:Kx} {st:St} (hG:Good us w K st):Good us w .nil ⟨[],[]⟩:=
 ⟨rfl,fun l c h=>by simp [Kx.nil] at h,fun l c _ h=>by simp [Kx.nil] at h,fun l l' c h=>by simp [Kx.nil] at h,fun l l' c h=>by simp [Kx.nil] at h,fun l c h=>by simp [Kx.nil] at h,fun l c h=>by simp [Kx.nil] at h,hG.uslt,fun l c h=>by simp [Kx.nil] at h,fun l t c h=>by simp [Kx.nil] at h⟩
theorem zcg {G:Nat→List Nat} {L:Lib} (hmix:P.follows .mixedOrders=true)(hL:LibOk P G L): ∀n,CallOk P G L.pure (callAV L n)
 |0=>fun f args st r st' h=>by simp [callAV] at h
 |n+1=>by
  intro f args st r st' h us w K S S' vs hG hgl hcp hr
  have ih:=zcg hmix hL n
  simp only [callAV,enterAV] at h
  split at h
  ·rename_i fn hfn
   obtain ⟨keep,hkg,hc⟩:=hL.1 f fn hfn
   obtain ⟨g,c,h1,h2,h3,_,_⟩:=zdm hc
   refine ⟨⟨g,h1,by simp [h2],h3⟩,?_⟩
   by_cases hp:L.pure f=true
   ·rw [if_pos hp] at h hcp
    obtain ⟨_,rfl,htips,hfree⟩:=hcp
    split at h
    ·rename_i r1 st1 hb
     simp only [sI_] at h
     refine (zdp n hmix (z7k L n) ih (z88 L n) hkg hc hgl (zmo hG) hr.pubs hb).mono fun e w1 he=> ?_
     obtain ⟨x,us1,K1,rfl,g1,g2,g3,_⟩:=he
     obtain ⟨us',K',q1,q2,q3,q4⟩:=zmh g3 g2 g1 hG htips hfree h
     exact ⟨x,us',K',rfl,q1,q2,q3,q4,fun _ c hc=>(g2.frame c hc (fun l e=>by simp [Kx.nil] at e) (fun t e=>by simp [Kx.nil] at e)).1⟩
    ·simp at h
   ·rw [if_neg hp] at h hcp
    obtain ⟨rfl,rfl⟩:=hcp
    refine (zdp n hmix (z7k L n) ih (z88 L n) hkg hc hgl hG hr h).mono fun e w1 he=> ?_
    obtain ⟨x,us1,K1,rfl,g1,g2,g3,g4⟩:=he
    refine ⟨x,us1,K1,rfl,g1,g2,g3,⟨fun l c e=>(g4.lm l c e).elim .inl (fun e2=> .inr ⟨e2,g3.lmlt l c e⟩),fun t e=>(g4.tk t e).elim .inl (fun e2=> .inr ⟨e2,?_⟩)⟩,fun h=>absurd h hp⟩
    obtain ⟨c,hc⟩:=Option.isSome_iff_exists.1 e
    exact g3.tklt t c hc
  ·obtain ⟨hp,_,h1⟩:=z92 h
   rw [if_neg (by rw [hp];simp)] at hcp
   obtain ⟨rfl,rfl⟩:=hcp
   obtain ⟨q1,q2⟩:=hL.2 f args S r S' h1 us w K vs hG hr
   refine ⟨q1,q2.mono fun e w1 he=> ?_⟩
   obtain ⟨x,us1,K1,rfl,g1,g2,g3,g4⟩:=he
   exact ⟨x,us1,K1,rfl,g1,g2,g3,g4,fun h=>by rw [hp] at h;simp at h⟩
end
end Go.Ev
namespace Go.Ev
open Go Go.RowKit
section
variable {P:Program}
theorem zd9 {us:Us} {w:World} (hus: ∀c n,us c=some n→c<w.heap.size)(T:List Nat):Good us w ⟨fun _=>none,fun _=>none,T⟩ ⟨[],T⟩:=
 ⟨rfl,fun l c h=>by simp at h,fun l c _ h=>by simp at h,fun l l' c h=>by simp at h,fun l l' c h=>by simp at h,fun l c h=>by simp at h,fun l c h=>by simp at h,hus,fun l c h=>by simp at h,fun l t c h=>by simp at h⟩
theorem top {G:Nat→List Nat} {L:Lib} (hmix:P.follows .mixedOrders=true)(hL:LibOk P G L) {n:Nat} {f:FuncId} {args:List AV} {x:Value} {st:St} (hp:L.pure f=true)(h:callAV L n f args ⟨[],[]⟩=some (.v x,st))
  {us:Us} {w:World} {vs:Array Value} (hus: ∀c n,us c=some n→c<w.heap.size) (hgl:GlobOk G us w) (hr:Rels us w .nil args vs.toList):
  Calls P f vs w fun e w'=>e=.returned x∧Below w.heap.size w w':=by
 have hcall:=zcg hmix hL n f args ⟨[],[]⟩ _ st h us w ⟨fun _=>none,fun _=>none,st.tips⟩ ⟨[],st.tips⟩ ⟨[],st.tips⟩ vs (zd9 hus _) hgl
  (by
   rw [if_pos hp]
   exact ⟨z88 L n _ _ _ _ _ h hp,rfl,⟨[],by simp⟩,fun _ _ _=>rfl⟩) hr.ofNil
 refine hcall.2.mono fun e w' he=> ?_
 obtain ⟨y,us',K',rfl,h1,h2,_,_,_⟩:=he
 rw [h1.v_inv]
 exact ⟨rfl,h2.os,h2.tape,h2.output,h2.size,fun k hk=>(h2.frame k hk (fun _ e=>by simp at e) (fun _ e=>by simp at e)).1⟩
theorem top' {G:Nat→List Nat} {L:Lib} (hmix:P.follows .mixedOrders=true)(hL:LibOk P G L) {n:Nat} {f:FuncId} {args:List AV} {x:Value} {st:St} (h:callAV L n f args ⟨[],[]⟩=some (.v x,st))
  {us:Us} {w:World} {vs:Array Value} (hus: ∀c n,us c=some n→c<w.heap.size) (hgl:GlobOk G us w) (hr:Rels us w .nil args vs.toList):
  Calls P f vs w fun e w'=>e=.returned x∧Below w.heap.size w w':=by
 by_cases hp:L.pure f=true
 ·exact top hmix hL hp h hus hgl hr
 ·have hcall:=zcg hmix hL n f args ⟨[],[]⟩ _ st h us w .nil ⟨[],[]⟩ st vs (zd9 hus _) hgl
   (by rw [if_neg hp];exact ⟨rfl,rfl⟩) hr
  refine hcall.2.mono fun e w' he=> ?_
  obtain ⟨y,us',K',rfl,h1,h2,_,_,_⟩:=he
  rw [h1.v_inv]
  exact ⟨rfl,h2.os,h2.tape,h2.output,h2.size,fun k hk=>(h2.frame k hk (fun _ e=>by simp [Kx.nil] at e) (fun _ e=>by simp [Kx.nil] at e)).1⟩
theorem post_of_below {H:Type} {enc:TypeId×Value→H} {f:Func} {s:ChangeSpec} {apart fresh handsOn:Bool} {W W':World} {args:Array Value} {v:Value} {ds gs:List (DataW H)} {before pa pv:List MemPlace}
  (hW:DataW.Whole enc P f.params.toList s.vars apart W args.toList ds gs before) (hb:Below W.heap.size W W')
  (hres: ∀(b:Nat) (sp:Nat→Bool) (hd:Bool),DataW.TrodAll enc P W' b sp hd f.resultTypes.toList (v.resultList f.resultTypes.size) (s.fn H (ds++gs)).results [])
  (hargs:DataW.TrodAll enc P W' 0 (fun b=>decide (b<W.heap.size)) true f.params.toList args.toList (s.fn H (ds++gs)).args pa)
  (hvars:DataW.TrodVars enc P W' (fun b=>decide (b<W.heap.size)) s.vars (s.fn H (ds++gs)).vars pv)
  (hps:before=pa++pv):s.post enc P f apart fresh handsOn false W args v W':=
 ⟨ds,gs,before,[],pa,pv,hW,hres _ _ _,hargs,hvars,World.keptBut_mono (fun p hp=>⟨hp,by
  rw [hps,List.mem_append] at hp
  exact Or.inr hp⟩) (hb.frame (·∈before)),fun h=>by simp at h⟩
end
end Go.Ev
namespace Go.Ev
open Go Go.RowKit
def Up {α:Type} (g:Nat→Option α):Prop:=∀n m r,n≤m→g n=some r→g m=some r
open Classical in
noncomputable def limit {α:Type} (g:Nat→Option α):Option α:=if h: ∃r n,g n=some r then some h.choose else none
theorem zd6 {α:Type} {g:Nat→Option α} (h:Up g)(r:α):limit g=some r↔∃n,g n=some r:=by
 unfold limit
 split
 ·rename_i hex
  obtain ⟨n,hn⟩:=hex.choose_spec
  constructor
  ·intro e;simp only [sI_] at e;exact ⟨n,by rw [hn,e]⟩
  ·rintro ⟨m,hm⟩
   have h1:=h n (max n m) _ (Nat.le_max_left _ _) hn
   have h2:=h m (max n m) _ (Nat.le_max_right _ _) hm
   rw [h1] at h2
   exact h2
 ·rename_i hex
  constructor
  ·intro e;simp at e
  ·rintro ⟨m,hm⟩;exact absurd ⟨r,m,hm⟩ hex
def CLe (c c':CallF):Prop:=∀f a s r,c f a s=some r→c' f a s=some r
def BLe (b b':Env→St→Out):Prop:=∀e s r,b e s=some r→b' e s=some r
def LLe (l l':LoopF):Prop:=∀b b',BLe b b'→BLe (l b) (l' b')
section
variable {pure:FuncId→Bool} {c c':CallF} {l l':LoopF}
theorem zjl (h : CLe c c') {env : Env} {st : St} {k : IK} {r : AV × St} (hv : opAV pure c env st k = some r) : opAV pure c' env st k = some r := by
  cases k <;> simp only [opAV] at hv ⊢ <;> first
    | exact hv
    | (split at hv
       · next hp => rw [if_pos hp]; exact h _ _ _ _ hv
       · simp at hv)
    | (split at hv
       · split at hv
         · next hp => rw [if_pos hp]; exact h _ _ _ _ hv
         · simp at hv
       · simp at hv)
    | (split at hv
       · split at hv
         · split at hv
           · next hp => rw [if_pos hp]; exact h _ _ _ _ hv
           · simp at hv
         · simp at hv
       · simp at hv)
    | (split at hv
       · next hp =>
         rw [if_pos hp]
         split at hv
         · rename_i r1 st1 hc; rw [h _ _ _ _ hc]; exact hv
         · simp at hv
       · simp at hv)
theorem z9i (h:CLe c c'): ∀(ks:List IOp) (env:Env) (st:St) (r:Env×St),opsAV pure c ks env st=some r→opsAV pure c' ks env st=some r
 | [],_,_,_,hv=>hv
 |o::ks,env,st,r,hv=>by
  simp only [opsAV] at hv⊢
  split at hv
  ·rename_i hw
   split at hv
   ·rename_i a s ho
    rw [zjl h ho]
    exact z9i h ks _ _ _ hv
   ·simp at hv
  ·exact z9i h ks _ _ _ hv
  ·simp at hv
theorem z87 (h:CLe c c')(hl:LLe l l'): ∀(ic:IC) (env:Env) (st:St) (r:X×Env×St),codeAV pure c l ic env st=some r→codeAV pure c' l' ic env st=some r:=by
 intro ic
 induction ic with
 |skip=>intro env st r hv;exact hv
 |exit i=>intro env st r hv;exact hv
 |ret=>intro env st r hv;exact hv
 |frz ts=>intro env st r hv;exact hv
 |frzp ts=>intro env st r hv;exact hv
 |lost l=>
  intro env st r hv
  simp only [codeAV] at hv⊢
  split at hv
  ·rename_i e1 s1 ho
   rw [z9i h _ _ _ _ ho]
   exact hv
  ·simp at hv
 |ops ks=>
  intro env st r hv
  simp only [codeAV] at hv⊢
  split at hv
  ·rename_i e s ho;rw [z9i h _ _ _ _ ho];exact hv
  ·simp at hv
 |seq a b iha ihb=>
  intro env st r hv
  simp only [codeAV] at hv⊢
  split at hv
  ·rename_i e s ho;rw [iha _ _ _ ho];exact ihb _ _ _ hv
  ·rename_i hne
   rw [iha _ _ _ hv]
   split
   ·rename_i e s he;simp only [sI_] at he;subst he;exact absurd hv (hne _ _)
   ·rfl
 |cond x a b iha ihb=>
  intro env st r hv
  simp only [codeAV] at hv⊢
  split at hv
  ·rename_i t ht
   cases t
   ·exact ihb _ _ _ hv
   ·exact iha _ _ _ hv
  ·simp at hv
 |block i a iha=>
  intro env st r hv
  simp only [codeAV] at hv⊢
  split at hv
  ·rename_i j e s ho;rw [iha _ _ _ ho];exact hv
  ·rename_i hne
   rw [iha _ _ _ hv]
   split
   ·rename_i j e s he;simp only [sI_] at he;subst he;exact absurd hv (hne _ _ _)
   ·rfl
 |loop gc ks a iha=>
  intro env st r hv
  simp only [codeAV] at hv⊢
  exact hl _ _ (fun e s r hb=>iha _ _ _ hb) _ _ _ hv
theorem zfu (h:CLe c c')(hl:LLe l l') {fn:IF} {args:List AV} {st:St} {r:AV×St} (hv:bodyAV pure c l fn args st=some r):bodyAV pure c' l' fn args st=some r:=by
 simp only [bodyAV] at hv⊢
 split at hv
 ·rename_i e s ho;rw [z87 h hl _ _ _ _ ho];exact hv
 ·rename_i e s ho;rw [z87 h hl _ _ _ _ ho];exact hv
 ·simp at hv
theorem zdk {L:Lib} (h:CLe c c')(hl:LLe l l'):CLe (enterAV L c l) (enterAV L c' l'):=by
 intro f args st r hv
 simp only [enterAV] at hv⊢
 split at hv
 ·rename_i fn hfn
  by_cases hp:L.pure f=true
  ·rw [if_pos hp] at hv⊢
   split at hv
   ·rename_i r1 s1 hb;rw [zfu h hl hb];exact hv
   ·simp at hv
  ·rw [if_neg hp] at hv⊢
   exact zfu h hl hv
 ·exact hv
theorem z81 {b b':Env→St→Out} (h:BLe b b'): ∀(n m:Nat),n≤m→BLe (loopAV b n) (loopAV b' m)
 |0,_,_=>fun e s r hv=>by simp [loopAV] at hv
 |n+1,0,hnm=>absurd hnm (by omega)
 |n+1,m+1,hnm=>fun e s r hv=>by
  simp only [loopAV] at hv⊢
  split at hv
  ·rename_i e1 s1 ho;rw [h _ _ _ ho];exact z81 h n m (by omega) _ _ _ hv
  ·rename_i hne
   rw [h _ _ _ hv]
   split
   ·rename_i e1 s1 he;simp only [sI_] at he;subst he;exact absurd hv (hne _ _)
   ·rfl
theorem zb1 {n m:Nat} (h:n≤m):LLe (fun b=>loopAV b n) (fun b=>loopAV b m):=fun _ _ hb=>z81 hb n m h
theorem z6l (L:Lib): ∀(n m:Nat),n≤m→CLe (callAV L n) (callAV L m)
 |0,_,_=>fun f a s r hv=>by simp [callAV] at hv
 |n+1,0,hnm=>absurd hnm (by omega)
 |n+1,m+1,hnm=>zdk (z6l L n m (by omega)) (zb1 (by omega))
noncomputable def run (L:Lib):CallF:=fun f args st=>limit fun n=>callAV L n f args st
noncomputable def lim:LoopF:=fun b env st=>limit fun n=>loopAV b n env st
theorem z77 (L:Lib) {f:FuncId} {args:List AV} {st:St} {r:AV×St}:run L f args st=some r↔∃n,callAV L n f args st=some r:=
 zd6 (fun n m _ h hv=>z6l L n m h _ _ _ _ hv) r
theorem z9m {b:Env→St→Out} {env:Env} {st:St} {r:X×Env×St}:lim b env st=some r↔∃n,loopAV b n env st=some r:=
 zd6 (fun n m _ h hv=>z81 (fun _ _ _ h=>h) n m h _ _ _ hv) r
theorem z11 (L:Lib)(n:Nat):CLe (callAV L n) (run L):=fun _ _ _ _ h=>(z77 L).2 ⟨n,h⟩
theorem zi5 (n:Nat):LLe (fun b=>loopAV b n) lim:=fun _ _ hb _ _ _ h=>z9m.2 ⟨n,z81 hb n n (Nat.le_refl _) _ _ _ h⟩
theorem lim_eq (b:Env→St→Out)(env:Env)(st:St):lim b env st=match b env st with|some (.normal,env,st)=>lim b env st|r=>r:=by
 apply Option.ext
 intro r
 rw [z9m]
 constructor
 ·rintro ⟨n,h⟩
  cases n with
  |zero=>simp [loopAV] at h
  |succ n=>
   simp only [loopAV] at h
   split at h
   ·rename_i e1 s1 ho
    rw [ho]
    exact z9m.2 ⟨n,h⟩
   ·rename_i hne
    split
    ·rename_i e1 s1 he;exact absurd he (hne _ _)
    ·exact h
 ·intro h
  split at h
  ·rename_i e1 s1 ho
   obtain ⟨n,hn⟩:=z9m.1 h
   exact ⟨n+1,by simp only [loopAV,ho,hn]⟩
  ·rename_i hne
   refine ⟨1,?_⟩
   simp only [loopAV]
   exact h
theorem zjm {L : Lib} {env : Env} {st : St} {k : IK} {r : AV × St} (hv : opAV pure (run L) env st k = some r) : ∃ n, opAV pure (callAV L n) env st k = some r := by
  cases k <;> simp only [opAV] at hv ⊢ <;> first
    | exact ⟨0, hv⟩
    | (split at hv
       · next hp => obtain ⟨n, hn⟩ := (z77 L).1 hv; exact ⟨n, by rw [if_pos hp]; exact hn⟩
       · simp at hv)
    | (split at hv
       · split at hv
         · next hp => obtain ⟨n, hn⟩ := (z77 L).1 hv; exact ⟨n, by rw [if_pos hp]; exact hn⟩
         · simp at hv
       · simp at hv)
    | (split at hv
       · split at hv
         · split at hv
           · next hp => obtain ⟨n, hn⟩ := (z77 L).1 hv; exact ⟨n, by rw [if_pos hp]; exact hn⟩
           · simp at hv
         · simp at hv
       · simp at hv)
    | (split at hv
       · next hp =>
         split at hv
         · rename_i r1 st1 hc
           obtain ⟨n, hn⟩ := (z77 L).1 hc
           exact ⟨n, by rw [if_pos hp, hn]; exact hv⟩
         · simp at hv
       · simp at hv)
theorem z8h {L:Lib}: ∀(ks:List IOp) (env:Env) (st:St) (r:Env×St),opsAV pure (run L) ks env st=some r→∃n,opsAV pure (callAV L n) ks env st=some r
 | [],_,_,_,hv=>⟨0,hv⟩
 |o::ks,env,st,r,hv=>by
  simp only [opsAV] at hv⊢
  split at hv
  ·rename_i hw
   split at hv
   ·rename_i a s ho
    obtain ⟨n1,h1⟩:=zjm ho
    obtain ⟨n2,h2⟩:=z8h ks _ _ _ hv
    refine ⟨max n1 n2,?_⟩
    rw [zjl (z6l L n1 _ (Nat.le_max_left _ _)) h1]
    exact z9i (z6l L n2 _ (Nat.le_max_right _ _)) _ _ _ _ h2
   ·simp at hv
  ·exact z8h ks _ _ _ hv
  ·simp at hv
theorem zcb {L:Lib}: ∀(ic:IC) (env:Env) (st:St) (r:X×Env×St),codeAV pure (run L) lim ic env st=some r→∃n,codeAV pure (callAV L n) (fun b=>loopAV b n) ic env st=some r:=by
 intro ic
 induction ic with
 |skip=>intro env st r hv;exact ⟨0,hv⟩
 |exit i=>intro env st r hv;exact ⟨0,hv⟩
 |ret=>intro env st r hv;exact ⟨0,hv⟩
 |frz ts=>intro env st r hv;exact ⟨0,hv⟩
 |frzp ts=>intro env st r hv;exact ⟨0,hv⟩
 |lost l=>
  intro env st r hv
  simp only [codeAV] at hv⊢
  split at hv
  ·rename_i e1 s1 ho
   obtain ⟨n,hn⟩:=z8h _ _ _ _ ho
   exact ⟨n,by rw [hn];exact hv⟩
  ·simp at hv
 |ops ks=>
  intro env st r hv
  simp only [codeAV] at hv⊢
  split at hv
  ·rename_i e s ho
   obtain ⟨n,hn⟩:=z8h _ _ _ _ ho
   exact ⟨n,by rw [hn];exact hv⟩
  ·simp at hv
 |seq a b iha ihb=>
  intro env st r hv
  simp only [codeAV] at hv⊢
  split at hv
  ·rename_i e s ho
   obtain ⟨n1,h1⟩:=iha _ _ _ ho
   obtain ⟨n2,h2⟩:=ihb _ _ _ hv
   refine ⟨max n1 n2,?_⟩
   rw [z87 (z6l L n1 _ (Nat.le_max_left _ _)) (zb1 (Nat.le_max_left _ _)) _ _ _ _ h1]
   exact z87 (z6l L n2 _ (Nat.le_max_right _ _)) (zb1 (Nat.le_max_right _ _)) _ _ _ _ h2
  ·rename_i hne
   obtain ⟨n,hn⟩:=iha _ _ _ hv
   refine ⟨n,?_⟩
   rw [hn]
   split
   ·rename_i e s he;simp only [sI_] at he;subst he;exact absurd hv (hne _ _)
   ·rfl
 |cond x a b iha ihb=>
  intro env st r hv
  simp only [codeAV] at hv⊢
  split at hv
  ·rename_i t ht
   cases t
   ·exact ihb _ _ _ hv
   ·exact iha _ _ _ hv
  ·simp at hv
 |block i a iha=>
  intro env st r hv
  simp only [codeAV] at hv⊢
  split at hv
  ·rename_i j e s ho
   obtain ⟨n,hn⟩:=iha _ _ _ ho
   exact ⟨n,by rw [hn];exact hv⟩
  ·rename_i hne
   obtain ⟨n,hn⟩:=iha _ _ _ hv
   refine ⟨n,?_⟩
   rw [hn]
   split
   ·rename_i j e s he;simp only [sI_] at he;subst he;exact absurd hv (hne _ _ _)
   ·rfl
 |loop gc ks a iha=>
  intro env st r hv
  simp only [codeAV] at hv⊢
  obtain ⟨k,hk⟩:=z9m.1 hv
  clear hv
  generalize st.store.length=lo at hk⊢
  generalize st.tips.length=hi at hk⊢
  have bodies: ∀n m,n≤m→BLe (fun env' st'=>codeAV pure (callAV L n) (fun b=>loopAV b n) a (gcAV gc lo hi (canon env' ks) st').1 (gcAV gc lo hi (canon env' ks) st').2)
    (fun env' st'=>codeAV pure (callAV L m) (fun b=>loopAV b m) a (gcAV gc lo hi (canon env' ks) st').1 (gcAV gc lo hi (canon env' ks) st').2):=
   fun n m h e s r hb=>z87 (z6l L n m h) (zb1 h) _ _ _ _ hb
  induction k generalizing env st with
  |zero=>simp [loopAV] at hk
  |succ k ih=>
   simp only [loopAV] at hk
   split at hk
   ·rename_i e1 s1 ho
    obtain ⟨n1,h1⟩:=iha _ _ _ ho
    obtain ⟨n2,h2⟩:=ih e1 s1 hk
    refine ⟨max n1 n2+1,?_⟩
    have h3:=bodies n1 (max n1 n2+1) (by omega) env st _ h1
    have h4:=z81 (bodies n2 (max n1 n2+1) (by omega)) n2 (max n1 n2) (by omega) _ _ _ h2
    rw [loopAV]
    split
    ·rename_i e2 s2 he
     have he:=h3.symm.trans he
     simp only [sI_,Prod.mk.injEq,true_and] at he
     obtain ⟨rfl,rfl⟩:=he
     exact h4
    ·rename_i hne
     exact absurd h3 (hne _ _)
   ·rename_i hne
    obtain ⟨n,hn⟩:=iha _ _ _ hk
    refine ⟨n+1,?_⟩
    have h3:=bodies n (n+1) (by omega) env st _ hn
    rw [loopAV]
    split
    ·rename_i e2 s2 he
     have he:=h3.symm.trans he
     simp only [sI_] at he
     subst he
     exact absurd hk (hne _ _)
    ·exact h3
theorem zch {L:Lib} {fn:IF} {args:List AV} {st:St} {r:AV×St} (hv:bodyAV pure (run L) lim fn args st=some r): ∃n,bodyAV pure (callAV L n) (fun b=>loopAV b n) fn args st=some r:=by
 simp only [bodyAV] at hv⊢
 split at hv
 ·rename_i e s ho
  obtain ⟨n,hn⟩:=zcb _ _ _ _ ho
  exact ⟨n,by rw [hn];exact hv⟩
 ·rename_i e s ho
  obtain ⟨n,hn⟩:=zcb _ _ _ _ ho
  exact ⟨n,by rw [hn];exact hv⟩
 ·simp at hv
theorem zj3 (L:Lib)(f:FuncId)(args:List AV)(st:St):run L f args st=enterAV L (run L) lim f args st:=by
 apply Option.ext
 intro r
 rw [z77]
 constructor
 ·rintro ⟨n,h⟩
  cases n with
  |zero=>simp [callAV] at h
  |succ n=>exact zdk (z11 L n) (zi5 n) _ _ _ _ h
 ·intro h
  simp only [enterAV] at h
  split at h
  ·rename_i fn hfn
   by_cases hp:L.pure f=true
   ·rw [if_pos hp] at h
    split at h
    ·rename_i r1 s1 hb
     obtain ⟨n,hn⟩:=zch hb
     exact ⟨n+1,by simp only [callAV,enterAV,hfn,if_pos hp,hn];exact h⟩
    ·simp at h
   ·rw [if_neg hp] at h
    obtain ⟨n,hn⟩:=zch h
    exact ⟨n+1,by simp only [callAV,enterAV,hfn,if_neg hp,hn]⟩
  ·rename_i hfn
   exact ⟨1,by simp only [callAV,enterAV,hfn];exact h⟩
end
theorem znq {P:Program} {G:Nat→List Nat} {L:Lib} (hmix:P.follows .mixedOrders=true)(hL:LibOk P G L) {f:FuncId} {args:List AV} {x:Value} {st:St} (h:run L f args ⟨[],[]⟩=some (.v x,st))
  {us:Us} {w:World} {vs:Array Value} (hus: ∀c n,us c=some n→c<w.heap.size) (hgl:GlobOk G us w) (hr:Rels us w .nil args vs.toList):
  Calls P f vs w fun e w'=>e=.returned x∧Below w.heap.size w w':=by
 obtain ⟨n,hn⟩:=(z77 L).1 h
 exact top' hmix hL hn hus hgl hr
end Go.Ev
namespace Go.Ev
open Go Go.RowKit
def flatTy (P:Program):Nat→TypeId→Bool
 |0,_=>false
 |d+1,t=>
  match P.underlying t with
  |some (.int _)=>true
  |some .bool=>true
  |some (.struct fs)=>fs.toList.all fun (f:Field)=>flatTy P d f.type
  |some (.array _ e)=>flatTy P d e
  |_=>false
def nestTy (P:Program):Nat→TypeId→Bool
 |0,_=>false
 |d+1,t=>
  match P.underlying t with
  |some (.slice e)=>flatTy P d e&&decide (0<P.cellsOf e)&&decide (P.cellsOf t=1)
  |_=>false
def okTy (P:Program):Nat→TypeId→Bool
 |0,_=>false
 |d+1,t=>
  flatTy P (d+1) t||
  match P.underlying t with
  |some (.slice e)=>(flatTy P d e&&decide (0<P.cellsOf e))||nestTy P d e
  |some (.struct fs)=>(fs.toList.all fun (f:Field)=>okTy P d f.type)&&decide (t<P.types.size)
  |_=>false
def aggB (P:Program) (t:TypeId):Bool:=
 match P.underlying t with
 |some (.struct _)=>true
 |some (.array _ _)=>true
 |_=>false
def weird (P:Program) (e:TypeId) (x:AV):Prop:=(∃e2,P.underlying e=some (.slice e2))∧∃a cap,x=.v (.slice (some a) 0 cap)
def Sh (P:Program):Nat→TypeId→List AV→Prop
 |0,_,_=>False
 |d+1,t,as=>
  match P.underlying t with
  |some (.int k)=> ∃n,as=[.v (.int k n)]∧(Lit.int k n).wf=true
  |some .bool=> ∃b,as=[.v (.bool b)]
  |some (.struct fs)=>as.length=P.cellsOf t∧∀(i:Nat) (f:Field),fs[i]? =some f→Sh P d f.type ((as.drop f.offset).take (P.cellsOf f.type))
  |some (.array n e)=>as.length=P.cellsOf t∧∀i:Nat,i<n→Sh P d e ((as.drop (i*P.cellsOf e)).take (P.cellsOf e))
  |some (.slice e)=>as=[.v (.slice none 0 0)]∨∃xs:List AV,as=[.lst .any (P.cellsOf e) xs]∧xs.length≤maxLen∧
   ∀x∈xs,(if aggB P e=true then ∃cs,x=.agg cs∧Sh P d e cs else Sh P d e [x])∨weird P e x
  |_=>False
def usOf (N:Nat) (w:World):Us:=fun c=>match w.heap[c]? with|some (.cells cs _ _)=>some (max N cs.size)|_=>none
theorem znp {N:Nat} {w:World} {c n:Nat} (h:usOf N w c=some n):c<w.heap.size:=by
 unfold usOf at h
 split at h
 ·next h1=>exact (Array.getElem?_eq_some_iff.1 h1).1
 ·simp at h
theorem z96 (N:Nat) {w:World} {a:Addr} {x:Value} (h:w.cell? a=some x):a.spot=none∧∃n,usOf N w a.block=some n∧a.off<n:=by
 unfold World.cell? at h
 unfold usOf
 split at h
 ·next cs _ _ h1=>
  rw [h1]
  split at h
  ·simp at h
  ·next hs=>exact ⟨by simpa using hs,_,rfl,Nat.lt_of_lt_of_le (Array.getElem?_eq_some_iff.1 h).1 (Nat.le_max_right _ _)⟩
 ·simp at h
theorem z6x {a:Addr} (h:a.spot=none)(i:Nat):a.add i=⟨a.block,a.off+i,none⟩:=by
 obtain ⟨b,o,s⟩:=a
 simp only at h
 subst h
 unfold Addr.add
 split
 ·next h=>subst h;rfl
 ·rfl
def Sound (N:Nat) (w:World) (cs:List Value):Prop:=∀x∈cs,∀a cap,x=.slice (some a) 0 cap→a.spot=none∧∃n,usOf N w a.block=some n∧a.off≤n
def RelCells (N:Nat) (w:World) (as:List AV) (cs:List Value):Prop:=
 as.length=cs.length∧∀i (h:i<as.length) (h':i<cs.length),Rel (usOf N w) w .nil as[i] cs[i]
theorem zat {α:Type}: ∀(L:List (List α)) (j:Nat) (l:List α),L[j]? =some l→(L.flatten.drop ((L.take j).map List.length).sum).take l.length=l
 | [],j,l,h=>by simp at h
 |a::r,0,l,h=>by simp at h;subst h;simp
 |a::r,j+1,l,h=>by
  simp only [List.getElem?_cons_succ] at h
  have ih:=zat r j l h
  simp only [List.flatten_cons,List.take_succ_cons,List.map_cons,List.sum_cons]
  rw [List.drop_append,List.drop_eq_nil_of_le (by omega),List.nil_append,show a.length+((r.take j).map List.length).sum-a.length=((r.take j).map List.length).sum by omega]
  exact ih
def FlatCells (cs:List Value):Prop:=∀c∈cs,plainV c=true∧c.oneCell'=true∧∀a l k,c≠.slice a l k
theorem FlatCells.rel (N:Nat) {w:World} {cs:List Value} (h:FlatCells cs):RelCells N w (cs.map .v) cs:=
 ⟨by simp,fun i h1 h2=>by simp only [List.getElem_map];exact .v _ _ (h _ (List.getElem_mem h2)).1⟩
section
variable {H:Type} {enc:TypeId×Value→H} {P:Program} {w:World} {base:Nat} {spare:Nat→Bool} {held:Bool}
theorem zf3 {α:Type} {cs:List α} {ns os:List Nat} (hlen:cs.length=ns.sum)(hos: ∀j o,os[j]? =some o→o=(ns.take j).sum)(hl:os.length=ns.length) {c:α} (hc:c∈cs):
  ∃(j o n:Nat),os[j]? =some o∧ns[j]? =some n∧c∈(cs.drop o).take n:=by
 obtain ⟨i,hi,rfl⟩:=List.getElem_of_mem hc
 have: ∀(ns:List Nat) (i:Nat),i<ns.sum→∃j n,ns[j]? =some n∧(ns.take j).sum≤i∧i<(ns.take j).sum+n:=by
  intro ns
  induction ns with
  |nil=>intro i h;simp at h
  |cons a r ih=>
   intro i h
   by_cases h0:i<a
   ·exact ⟨0,a,rfl,by simp,by simpa using h0⟩
   ·simp only [List.sum_cons] at h
    obtain ⟨j,n,h1,h2,h3⟩:=ih (i-a) (by omega)
    refine ⟨j+1,n,by simpa using h1,?_,?_⟩ <;>simp only [List.take_succ_cons,List.sum_cons]<;>omega
 obtain ⟨j,n,h1,h2,h3⟩:=this ns i (by omega)
 have hj:j<ns.length:=(List.getElem?_eq_some_iff.1 h1).1
 have ho:os[j]? =some os[j]:=List.getElem?_eq_getElem (by omega)
 refine ⟨j,os[j],n,ho,h1,?_⟩
 have:=hos j _ ho
 rw [List.mem_iff_getElem]
 refine ⟨i-os[j],by simp;omega,?_⟩
 simp only [List.getElem_take,List.getElem_drop]
 congr 1;omega
theorem zeb (hl:laidOutB P=true): ∀(d:Nat) (t:TypeId),t<P.types.size→flatTy P d t=true→∀(fuel:Nat) (cs:List Value) (x:DataW H×List MemPlace),DataW.trod enc P w base spare held fuel t cs=some x→
  Sh P d t (cs.map .v)∧FlatCells cs∧(aggB P t=false→∃c,cs=[c])
 |0,t,_,h=>by simp [flatTy] at h
 |d+1,t,htl,h=>by
  intro fuel cs x hx
  simp only [flatTy] at h
  simp only [Sh]
  split at h
  ·next k hu=>
   obtain ⟨n,rfl,_,hw⟩:=DataW.trod_int hu hx
   refine ⟨by rw [hu];exact ⟨n,rfl,hw⟩,fun c hc=> ?_,fun _=>⟨_,rfl⟩⟩
   simp at hc;subst hc;exact ⟨rfl,rfl,by simp⟩
  ·next hu=>
   obtain ⟨b,rfl,_⟩:=DataW.trod_bool hu hx
   refine ⟨by rw [hu];exact ⟨b,rfl⟩,fun c hc=> ?_,fun _=>⟨_,rfl⟩⟩
   simp at hc;subst hc;exact ⟨rfl,rfl,by simp⟩
  ·next fs hu=>
   obtain ⟨xs,n,rfl,_,hcl,hxl,hf⟩:=DataW.trod_struct hu hx
   obtain ⟨k1,k2,k3⟩:=kid_struct hl htl hu
   have each: ∀(i:Nat) (f:Field),fs[i]? =some f→Sh P d f.type (((cs.drop f.offset).take (P.cellsOf f.type)).map .v)∧FlatCells ((cs.drop f.offset).take (P.cellsOf f.type)):=by
    intro i f hfi
    have h1:=hf i f hfi
    have hi:i<xs.length:=by rw [hxl];exact (Array.getElem?_eq_some_iff.1 hfi).1
    rw [List.getElem?_eq_getElem hi] at h1
    have hm:f∈fs.toList:=by obtain ⟨hi,rfl⟩:=Array.getElem?_eq_some_iff.1 hfi;exact Array.mem_toList_iff.2 (Array.getElem_mem hi)
    have:=zeb hl d f.type (k1 f hm) (List.all_eq_true.1 h f hm) n _ _ h1
    exact ⟨this.1,this.2.1⟩
   refine ⟨by rw [hu];exact ⟨by simpa using hcl,fun i f hfi=>by rw [←List.map_drop,←List.map_take];exact (each i f hfi).1⟩,fun c hc=> ?_,fun ha=>by simp [aggB,hu] at ha⟩
   obtain ⟨j,o,m,h1,h2,h3⟩:=zf3 (ns:=fs.toList.map fun f=>P.cellsOf f.type) (os:=fs.toList.map (·.offset)) (by rw [hcl,k2]) (fun j o hj=>by
    simp only [List.getElem?_map,Option.map_eq_some_iff] at hj
    obtain ⟨f,hj,rfl⟩:=hj
    rw [k3 j f hj,List.map_take]) (by simp) hc
   simp only [List.getElem?_map,Option.map_eq_some_iff] at h1 h2
   obtain ⟨f,h1,rfl⟩:=h1
   obtain ⟨f',h2,rfl⟩:=h2
   rw [h1] at h2
   simp only [sI_] at h2
   subst h2
   exact (each j f (by simpa using h1)).2 c h3
  ·next n e hu=>
   obtain ⟨xs,m,rfl,_,hcl,hxl,hf⟩:=DataW.trod_array hu hx
   obtain ⟨k1,k2⟩:=kid_array hl htl hu
   have each: ∀i,i<n→Sh P d e (((cs.drop (i*P.cellsOf e)).take (P.cellsOf e)).map .v)∧FlatCells ((cs.drop (i*P.cellsOf e)).take (P.cellsOf e)):=by
    intro i hi
    have h1:=hf i hi
    rw [List.getElem?_eq_getElem (by omega)] at h1
    have:=zeb hl d e k1 h m _ _ h1
    exact ⟨this.1,this.2.1⟩
   refine ⟨by rw [hu];exact ⟨by simpa using hcl,fun i hi=>by rw [←List.map_drop,←List.map_take];exact (each i hi).1⟩,fun c hc=> ?_,fun ha=>by simp [aggB,hu] at ha⟩
   obtain ⟨i,hi,rfl⟩:=List.getElem_of_mem hc
   rw [hcl,k2] at hi
   have hz:0<P.cellsOf e:=by
    rcases Nat.eq_zero_or_pos (P.cellsOf e) with h0|h0
    ·rw [h0] at hi;simp at hi
    ·exact h0
   have hq:i / P.cellsOf e<n:=Nat.div_lt_of_lt_mul (by rw [Nat.mul_comm];exact hi)
   refine (each (i / P.cellsOf e) hq).2 _ ?_
   rw [List.mem_iff_getElem]
   have hmod:=Nat.mod_lt i hz
   have hdm:=Nat.div_add_mod i (P.cellsOf e)
   rw [Nat.mul_comm] at hdm
   refine ⟨i % P.cellsOf e,by simp only [List.length_take,List.length_drop];rw [hcl,k2];omega,?_⟩
   simp only [List.getElem_take,List.getElem_drop]
   congr 1
  ·simp at h
theorem zpd {d:Nat} {e:TypeId} {cs:List Value} (h1:Sh P d e (cs.map .v))(h2:FlatCells cs)(h3:aggB P e=false→∃c,cs=[c]):
  ∃x:AV,x.cells=cs.map .v∧(if aggB P e=true then ∃cs,x=.agg cs∧Sh P d e cs else Sh P d e [x]):=by
 cases ha:aggB P e with
 |true=>exact ⟨.agg (cs.map .v),rfl,by rw [if_pos rfl];exact ⟨_,rfl,h1⟩⟩
 |false=>
  obtain ⟨c,rfl⟩:=h3 ha
  exact ⟨.v c,rfl,by rw [if_neg (by simp)];exact h1⟩
theorem zhf (hl:laidOutB P=true) {d:Nat} {e:TypeId} (he:e<P.types.size)(hfl:flatTy P d e=true) {a:Addr} (hs:a.spot=none) {len n:Nat} {elems:List (DataW H×List MemPlace)} (hlen:elems.length=len)
  (hel: ∀i,i<len→(w.cells? base (a.add (i*P.cellsOf e)) (P.cellsOf e)).bind (DataW.trod enc P w base spare held n e)=elems[i]?):
  ∀m,m≤len→∃(xs:List AV) (vs:List Value),xs.length=m∧vs.length=m*P.cellsOf e∧flat xs=vs.map .v∧FlatCells vs∧CellsAt w a.block a.off vs∧
   (∀x∈xs,x.cells.length=P.cellsOf e)∧∀x∈xs,if aggB P e=true then ∃cs,x=.agg cs∧Sh P d e cs else Sh P d e [x]
 |0,_=>⟨[],[],rfl,by simp,rfl,fun c hc=>by simp at hc,fun i h=>by simp at h,by simp,by simp⟩
 |m+1,hm=>by
  obtain ⟨xs,vs,h1,h2,h3,h4,h5,h6,h7⟩:=zhf hl he hfl hs hlen hel m (by omega)
  have hm':=hel m (by omega)
  rw [List.getElem?_eq_getElem (by omega),Option.bind_eq_some_iff] at hm'
  obtain ⟨cs,hcs,ht⟩:=hm'
  obtain ⟨_,c1,c2⟩:=World.cells?_some hcs
  obtain ⟨f1,f2,f3⟩:=zeb hl d e he hfl _ _ _ ht
  obtain ⟨x,hx1,hx2⟩:=zpd f1 f2 f3
  refine ⟨xs++ [x],vs++cs,by simp [h1],by rw [List.length_append,h2,c1,Nat.succ_mul],?_,?_,?_,?_,?_⟩
  ·unfold flat at h3⊢;simp [h3,hx1]
  ·intro c hc
   rcases List.mem_append.1 hc with hc|hc
   ·exact h4 c hc
   ·exact f2 c hc
  ·intro i hi
   by_cases h:i<vs.length
   ·rw [List.getElem_append_left h];exact h5 i h
   ·have hi':i-vs.length<cs.length:=by simp at hi;omega
    have:=c2 (i-vs.length) (by omega)
    rw [List.getElem?_eq_getElem hi'] at this
    rw [List.getElem_append_right (by omega),←this]
    congr 1
    rw [z6x hs,z6x rfl,←h2,Addr.mk.injEq]
    exact ⟨rfl,by simp only;omega,rfl⟩
  ·intro y hy
   rcases List.mem_append.1 hy with hy|hy
   ·exact h6 y hy
   ·simp at hy;subst hy;rw [hx1];simp [c1]
  ·intro y hy
   rcases List.mem_append.1 hy with hy|hy
   ·exact h7 y hy
   ·simp at hy;subst hy;exact hx2
theorem zgn {N:Nat} (hl:laidOutB P=true) {d:Nat} {t e:TypeId} (ht:t<P.types.size)(hu:P.underlying t=some (.slice e))(hfl:flatTy P d e=true)(hz:0<P.cellsOf e) {fuel:Nat} {cs:List Value} {x:DataW H×List MemPlace}
  (h:DataW.trod enc P w base spare held fuel t cs=some x) (hsound:Sound N w cs): ∃as,Sh P (d+1) t as∧RelCells N w as cs:=by
 simp only [Sh,hu]
 rcases DataW.trod_slice hu h with ⟨rfl,_⟩ | ⟨a,len,cap,elems,rest,n,_,rfl,_,_,hlc,hcap,hlen,hel,_,_⟩
 ·refine ⟨_,.inl rfl,by simp,fun i h1 h2=> ?_⟩
  simp at h1;subst h1;exact .v _ _ rfl
 ·have hplace:a.spot=none∧∃k,usOf N w a.block=some k∧a.off+len*P.cellsOf e≤k:=by
   rcases Nat.eq_zero_or_pos len with h0|h0
   ·subst h0
    obtain ⟨h1,k,h2,h3⟩:=hsound _ (List.mem_singleton.2 rfl) a cap rfl
    exact ⟨h1,k,h2,by simpa using h3⟩
   ·have hs:a.spot=none:=by
     have hm':=hel 0 h0
     rw [List.getElem?_eq_getElem (by omega),Option.bind_eq_some_iff] at hm'
     obtain ⟨cs,hcs,_⟩:=hm'
     obtain ⟨_,c1,c2⟩:=World.cells?_some hcs
     have h1:=c2 0 hz
     rw [List.getElem?_eq_getElem (by omega)] at h1
     have:=(z96 N h1).1
     rw [Nat.zero_mul] at this
     simpa [Addr.add] using this
    have hm':=hel (len-1) (by omega)
    rw [List.getElem?_eq_getElem (by omega),Option.bind_eq_some_iff] at hm'
    obtain ⟨cs,hcs,_⟩:=hm'
    obtain ⟨_,c1,c2⟩:=World.cells?_some hcs
    have h1:=c2 (P.cellsOf e-1) (by omega)
    rw [List.getElem?_eq_getElem (by omega)] at h1
    obtain ⟨q1,k,q2,q3⟩:=z96 N h1
    rw [z6x hs,z6x rfl] at q2 q3
    simp only at q2 q3
    refine ⟨hs,k,q2,?_⟩
    have:(len-1)*P.cellsOf e+P.cellsOf e=len*P.cellsOf e:=by rw [←Nat.succ_mul];congr 1;omega
    omega
  obtain ⟨hs,k,hk,hoff⟩:=hplace
  obtain ⟨xs,vs,h1,h2,h3,h4,h5,h6,h7⟩:=zhf hl (kid_slice hl ht hu) hfl hs hlen hel len (Nat.le_refl _)
  refine ⟨_,.inr ⟨xs,rfl,by omega,fun x hx=> .inl (h7 x hx)⟩,by simp,fun i g1 g2=> ?_⟩
  simp at g1;subst g1
  obtain ⟨b,off,spot⟩:=a
  simp only at hs hk hoff h5
  subst hs
  subst h1
  simp only [List.getElem_cons_zero]
  refine Rel.lst .nil .any (P.cellsOf e) xs b off k cap vs hk (by omega) h5 (fun x hx=>(h4 x hx).2.1) h6 hlc (by rw [h3];simp) (fun i q1 q2=> ?_) trivial
  have:(flat xs)[i]=.v vs[i]:=by simp [h3]
  rw [this]
  exact .v _ _ (h4 _ (List.getElem_mem q2)).1
theorem zmk {N:Nat} (hl:laidOutB P=true) {d:Nat} {t e:TypeId} (ht:t<P.types.size)(hu:P.underlying t=some (.slice e))(hfl:flatTy P d e=true)(hz:0<P.cellsOf e) {fuel:Nat} {cs:List Value} {x:DataW H×List MemPlace}
  (h:DataW.trod enc P w base spare held fuel t cs=some x): ∃(a:AV) (c:Value),cs=[c]∧c.oneCell'=true∧a.cells=[a]∧(Sh P (d+1) t [a]∨weird P t a)∧Rel (usOf N w) w .nil a c:=by
 rcases DataW.trod_slice hu h with ⟨rfl,_⟩ | ⟨a,len,cap,elems,rest,n,_,rfl,hd,_,hlc,hcap,hlen,hel,_,_⟩
 ·refine ⟨.v (.slice none 0 0),_,rfl,rfl,rfl,.inl ?_,.v _ _ rfl⟩
  simp only [Sh,hu]
  exact .inl trivial
 ·rcases Nat.eq_zero_or_pos len with h0|h0
  ·subst h0
   exact ⟨.v (.slice (some a) 0 cap),_,rfl,rfl,rfl,.inr ⟨⟨e,hu⟩,a,cap,rfl⟩,.v _ _ rfl⟩
  ·obtain ⟨as,h1,h2,h3⟩:=zgn (N:=N) hl ht hu hfl hz h (fun x hx a' cap' he=>by
    simp only [List.mem_singleton] at hx
    subst hx
    simp only [Value.slice.injEq] at he
    omega)
   match as,h2 with
   | [b],_=>
    refine ⟨b,_,rfl,rfl,?_,.inl h1,h3 0 (by simp) (by simp)⟩
    simp only [Sh,hu] at h1
    rcases h1 with h1| ⟨xs,h1,_⟩
    ·simp only [List.cons.injEq,and_true] at h1;subst h1;rfl
    ·simp only [List.cons.injEq,and_true] at h1;subst h1;rfl
theorem zfc {N:Nat} (hl:laidOutB P=true) {d:Nat} {e e2:TypeId} (he:e<P.types.size)(hu:P.underlying e=some (.slice e2))(hfl:flatTy P d e2=true)(hz:0<P.cellsOf e2)(hc1:P.cellsOf e=1) {a:Addr} (hs:a.spot=none) {len n:Nat} {elems:List (DataW H×List MemPlace)} (hlen:elems.length=len)
  (hel: ∀i,i<len→(w.cells? base (a.add (i*P.cellsOf e)) (P.cellsOf e)).bind (DataW.trod enc P w base spare held n e)=elems[i]?):
  ∀m,m≤len→∃(xs:List AV) (vs:List Value),xs.length=m∧vs.length=m∧flat xs=xs∧(∀c∈vs,c.oneCell'=true)∧CellsAt w a.block a.off vs∧
   (∀x∈xs,x.cells.length=1)∧(∀x∈xs,Sh P (d+1) e [x]∨weird P e x)∧∀i (h:i<xs.length) (h':i<vs.length),Rel (usOf N w) w .nil xs[i] vs[i]
 |0,_=>⟨[],[],rfl,rfl,rfl,fun c hc=>by simp at hc,fun i h=>by simp at h,by simp,by simp,fun i h=>by simp at h⟩
 |m+1,hm=>by
  obtain ⟨xs,vs,h1,h2,h3,h4,h5,h6,h7,h8⟩:=zfc hl he hu hfl hz hc1 hs hlen hel m (by omega)
  have hm':=hel m (by omega)
  rw [List.getElem?_eq_getElem (by omega),Option.bind_eq_some_iff] at hm'
  obtain ⟨cs,hcs,ht⟩:=hm'
  obtain ⟨_,c1,c2⟩:=World.cells?_some hcs
  obtain ⟨b,c,rfl,f2,f3,f4,f5⟩:=zmk (N:=N) hl he hu hfl hz ht
  refine ⟨xs++ [b],vs++ [c],by simp [h1],by simp [h2],?_,?_,?_,?_,?_,?_⟩
  ·unfold flat at h3⊢;rw [List.flatMap_append,h3];simp [f3]
  ·intro y hy
   rcases List.mem_append.1 hy with hy|hy
   ·exact h4 y hy
   ·simp at hy;subst hy;exact f2
  ·intro i hi
   by_cases h:i<vs.length
   ·rw [List.getElem_append_left h];exact h5 i h
   ·have hi':i=vs.length:=by simp at hi;omega
    subst hi'
    have:=c2 0 (by simp [hc1])
    rw [List.getElem?_eq_getElem (by simp)] at this
    rw [List.getElem_append_right (by omega)]
    simp only [Nat.sub_self,List.getElem_cons_zero] at this⊢
    rw [←this]
    congr 1
    rw [z6x hs,z6x rfl,Addr.mk.injEq]
    exact ⟨rfl,by simp only [hc1];omega,rfl⟩
  ·intro y hy
   rcases List.mem_append.1 hy with hy|hy
   ·exact h6 y hy
   ·simp at hy;subst hy;rw [f3];rfl
  ·intro y hy
   rcases List.mem_append.1 hy with hy|hy
   ·exact h7 y hy
   ·simp at hy;subst hy;exact f4
  ·intro i hi hi'
   by_cases h:i<xs.length
   ·rw [List.getElem_append_left h,List.getElem_append_left (by omega)];exact h8 i h (by omega)
   ·have e1:i=xs.length:=by simp at hi;omega
    subst e1
    rw [List.getElem_append_right (by omega),List.getElem_append_right (by omega)]
    simp only [h1,h2,Nat.sub_self,List.getElem_cons_zero]
    exact f5
theorem zoh {N:Nat} (hl:laidOutB P=true) {d:Nat} {t e:TypeId} (ht:t<P.types.size)(hu:P.underlying t=some (.slice e))(hn:nestTy P d e=true) {fuel:Nat} {cs:List Value} {x:DataW H×List MemPlace}
  (h:DataW.trod enc P w base spare held fuel t cs=some x) (hsound:Sound N w cs): ∃as,Sh P (d+1) t as∧RelCells N w as cs:=by
 cases d with
 |zero=>simp [nestTy] at hn
 |succ d=>
 simp only [nestTy] at hn
 split at hn
 ·next e2 hu2=>
  simp only [Bool.and_eq_true,decide_eq_true_eq] at hn
  obtain ⟨⟨hfl,hz2⟩,hc1⟩:=hn
  have hagg:aggB P e=false:=by unfold aggB;rw [hu2]
  conv=>enter [1,as,1];unfold Sh;simp only [hu]
  rcases DataW.trod_slice hu h with ⟨rfl,_⟩ | ⟨a,len,cap,elems,rest,n,_,rfl,_,_,hlc,hcap,hlen,hel,_,_⟩
  ·refine ⟨_,.inl rfl,by simp,fun i h1 h2=> ?_⟩
   simp at h1;subst h1;exact .v _ _ rfl
  ·have hplace:a.spot=none∧∃k,usOf N w a.block=some k∧a.off+len*P.cellsOf e≤k:=by
    rcases Nat.eq_zero_or_pos len with h0|h0
    ·subst h0
     obtain ⟨h1,k,h2,h3⟩:=hsound _ (List.mem_singleton.2 rfl) a cap rfl
     exact ⟨h1,k,h2,by simpa using h3⟩
    ·have hs:a.spot=none:=by
      have hm':=hel 0 h0
      rw [List.getElem?_eq_getElem (by omega),Option.bind_eq_some_iff] at hm'
      obtain ⟨cs,hcs,_⟩:=hm'
      obtain ⟨_,c1,c2⟩:=World.cells?_some hcs
      have h1:=c2 0 (by omega)
      rw [List.getElem?_eq_getElem (by omega)] at h1
      have:=(z96 N h1).1
      rw [Nat.zero_mul] at this
      simpa [Addr.add] using this
     have hm':=hel (len-1) (by omega)
     rw [List.getElem?_eq_getElem (by omega),Option.bind_eq_some_iff] at hm'
     obtain ⟨cs,hcs,_⟩:=hm'
     obtain ⟨_,c1,c2⟩:=World.cells?_some hcs
     have h1:=c2 (P.cellsOf e-1) (by omega)
     rw [List.getElem?_eq_getElem (by omega)] at h1
     obtain ⟨q1,k,q2,q3⟩:=z96 N h1
     rw [z6x hs,z6x rfl] at q2 q3
     simp only at q2 q3
     refine ⟨hs,k,q2,?_⟩
     have:(len-1)*P.cellsOf e+P.cellsOf e=len*P.cellsOf e:=by rw [←Nat.succ_mul];congr 1;omega
     omega
   obtain ⟨hs,k,hk,hoff⟩:=hplace
   obtain ⟨xs,vs,h1,h2,h3,h4,h5,h6,h7,h8⟩:=zfc (N:=N) hl (kid_slice hl ht hu) hu2 hfl hz2 hc1 hs hlen hel len (Nat.le_refl _)
   refine ⟨_,.inr ⟨xs,rfl,by omega,fun x hx=> ?_⟩,by simp,fun i g1 g2=> ?_⟩
   ·rw [hagg,if_neg (by simp)];exact h7 x hx
   simp at g1;subst g1
   obtain ⟨b,off,spot⟩:=a
   simp only at hs hk hoff h5
   subst hs
   subst h1
   simp only [List.getElem_cons_zero]
   rw [hc1] at hoff⊢
   refine Rel.lst .nil .any 1 xs b off k cap vs hk (by omega) h5 h4 h6 hlc (by rw [h3,h2]) (fun i q1 q2=> ?_) trivial
   have:(flat xs)[i]=xs[i]'(by rw [h3] at q1;exact q1):=by simp only [h3]
   rw [this]
   exact h8 i _ q2
 ·simp at hn
theorem ok_sh {N : Nat} (hl : laidOutB P = true) : ∀ (d : Nat) (t : TypeId), t < P.types.size → okTy P d t = true → ∀ (fuel : Nat) (cs : List Value) (x : DataW H × List MemPlace), DataW.trod enc P w base spare held fuel t cs = some x → Sound N w cs →
    ∃ as, Sh P d t as ∧ RelCells N w as cs
  | 0, t, _, h => by simp [okTy] at h
  | d + 1, t, htl, h => by
    intro fuel cs x hx hsound
    simp only [okTy, Bool.or_eq_true] at h
    rcases h with h | h
    · obtain ⟨h1, h2, _⟩ := zeb hl (d + 1) t htl h fuel cs x hx
      exact ⟨_, h1, h2.rel N⟩
    · split at h
      · next e hu =>
        simp only [Bool.or_eq_true, Bool.and_eq_true, decide_eq_true_eq] at h
        rcases h with h | h
        · exact zgn hl htl hu h.1 h.2 hx hsound
        · exact zoh hl htl hu h hx hsound
      · next fs hu =>
        simp only [Bool.and_eq_true, decide_eq_true_eq, List.all_eq_true] at h
        obtain ⟨xs, n, rfl, _, hcl, hxl, hf⟩ := DataW.trod_struct hu hx
        obtain ⟨k1, k2, k3⟩ := kid_struct hl htl hu
        have each : ∀ f, f ∈ fs.toList → ∃ as, Sh P d f.type as ∧ RelCells N w as ((cs.drop f.offset).take (P.cellsOf f.type)) := by
          intro f hm
          obtain ⟨i, hi, rfl⟩ := List.getElem_of_mem hm
          have hfi : fs[i]? = some fs.toList[i] := by simp at hi; simp [hi]
          have h1 := hf i _ hfi
          rw [List.getElem?_eq_getElem (by rw [hxl]; simpa using hi)] at h1
          exact ok_sh hl d _ (k1 _ hm) (h.1 _ hm) n _ _ h1 (fun y hy => hsound y (List.mem_of_mem_drop (List.mem_of_mem_take hy)))
        have hch : ∃ A : Field → List AV, ∀ f, f ∈ fs.toList → Sh P d f.type (A f) ∧ RelCells N w (A f) ((cs.drop f.offset).take (P.cellsOf f.type)) := by
          classical
          refine ⟨fun f => if hm : f ∈ fs.toList then (each f hm).choose else [], fun f hm => ?_⟩
          simp only [dif_pos hm]
          exact (each f hm).choose_spec
        obtain ⟨A, hA⟩ := hch
        have hbound : ∀ (j : Nat) (f : Field), fs.toList[j]? = some f → f.offset + P.cellsOf f.type ≤ cs.length := by
          intro j f hj
          rw [hcl, k2, k3 j f hj]
          have hjl := (List.getElem?_eq_some_iff.1 hj).1
          have : fs.toList = fs.toList.take j ++ f :: fs.toList.drop (j + 1) := by
            rw [← (List.getElem?_eq_some_iff.1 hj).2, ← List.drop_eq_getElem_cons hjl, List.take_append_drop]
          calc ((fs.toList.take j).map fun f => P.cellsOf f.type).sum + P.cellsOf f.type ≤ ((fs.toList.take j ++ f :: fs.toList.drop (j + 1)).map fun f => P.cellsOf f.type).sum := by
                simp only [List.map_append, List.sum_append, List.map_cons, List.sum_cons]; omega
            _ = _ := by rw [← this]
        have hAl : ∀ (j : Nat) (f : Field), fs.toList[j]? = some f → (A f).length = P.cellsOf f.type := by
          intro j f hj
          have := (hA f (List.mem_of_getElem? hj)).2.1
          rw [this]
          have := hbound j f hj
          simp; omega
        have hlens : (fs.toList.map A).map List.length = fs.toList.map fun f => P.cellsOf f.type := by
          rw [List.map_map]
          apply List.map_congr_left
          intro f hf
          obtain ⟨j, hj, rfl⟩ := List.getElem_of_mem hf
          exact hAl j _ (List.getElem?_eq_getElem hj)
        have hpart : ∀ (j : Nat) (f : Field), fs.toList[j]? = some f → (((fs.toList.map A).flatten).drop f.offset).take (P.cellsOf f.type) = A f := by
          intro j f hj
          have := zat (fs.toList.map A) j (A f) (by simp [hj])
          rw [← List.map_take, List.map_map] at this
          rw [hAl j f hj] at this
          rw [k3 j f hj]
          have e : (fs.toList.take j).map (fun f => P.cellsOf f.type) = (fs.toList.take j).map (List.length ∘ A) := by
            apply List.map_congr_left
            intro g hg
            obtain ⟨i, hi, rfl⟩ := List.getElem_of_mem (List.mem_of_mem_take hg)
            exact (hAl i _ (List.getElem?_eq_getElem hi)).symm
          rw [e]
          exact this
        have htot : ((fs.toList.map A).flatten).length = cs.length := by rw [List.length_flatten, hlens, hcl, k2]
        refine ⟨(fs.toList.map A).flatten, ?_, htot, fun i h1 h2 => ?_⟩
        · simp only [Sh, hu]
          refine ⟨by rw [htot, hcl], fun i f hfi => ?_⟩
          have hj : fs.toList[i]? = some f := by simpa using hfi
          rw [hpart i f hj]
          exact (hA f (List.mem_of_getElem? hj)).1
        · obtain ⟨j, o, m, g1, g2, g3⟩ := zf3 (cs := List.range cs.length) (ns := fs.toList.map fun f => P.cellsOf f.type) (os := fs.toList.map (·.offset)) (c := i) (by rw [List.length_range, hcl, k2]) (fun j o hj => by
            simp only [List.getElem?_map, Option.map_eq_some_iff] at hj
            obtain ⟨f, hj, rfl⟩ := hj
            rw [k3 j f hj, List.map_take]) (by simp) (by simpa using h2)
          simp only [List.getElem?_map, Option.map_eq_some_iff] at g1 g2
          obtain ⟨f, g1, rfl⟩ := g1
          obtain ⟨f', g2, rfl⟩ := g2
          rw [g1] at g2
          simp only [sI_] at g2
          subst g2
          obtain ⟨q, hq, hqe⟩ := List.getElem_of_mem g3
          simp only [List.length_take, List.length_drop, List.length_range, List.getElem_take, List.getElem_drop, List.getElem_range] at hq hqe
          have hR := (hA f (List.mem_of_getElem? g1)).2
          have hp := hpart j f g1
          have hal := hAl j f g1
          have := hR.2 q (by omega) (by simp; omega)
          have e1 : (fs.toList.map A).flatten[i] = (A f)[q]'(by omega) := by
            have : (A f)[q]? = some ((fs.toList.map A).flatten[i]) := by
              rw [← hp, List.getElem?_take, if_pos (by omega), List.getElem?_drop, hqe, List.getElem?_eq_getElem h1]
            rw [List.getElem?_eq_getElem (by omega)] at this
            simpa using this.symm
          rw [e1]
          simp only [List.getElem_take, List.getElem_drop, hqe] at this
          exact this
      · simp at h
def ShV (P:Program) (d:Nat) (t:TypeId) (a:AV):Prop:=if aggB P t=true then ∃cs,a=.agg cs∧Sh P d t cs else Sh P d t [a]
theorem z9w {r : Reach} {b : Nat} {u : TypeId} {a : Addr} {l k : Nat} (h : Cell.okWide P w r b u (.slice (some a) l k)) : a.spot = none ∧ ∃ e n, w.shape? a.block = some (e, n) := by
  unfold Cell.okWide at h
  split at h
  all_goals first
    | (unfold Cell.ok at h
       split at h
       all_goals first
         | (rename_i heq; simp at heq; done)
         | (rename_i _ _ heq
            simp only [Value.slice.injEq, sI_] at heq
            obtain ⟨rfl, rfl, rfl⟩ := heq
            obtain ⟨_, _, _, h1, row, cells, h2, _⟩ := h
            exact ⟨h1, row, cells, h2⟩)
         | exact h.elim)
    | (simp_all; done)
theorem zlb {N:Nat} {cs:List Value} (h: ∀x∈cs,∀a l k,x=.slice (some a) l k→a.spot=none∧(∃e n,w.shape? a.block=some (e,n))∧a.off≤N):Sound N w cs:=by
 intro x hx a k he
 obtain ⟨h1,⟨e,n,h2⟩,h3⟩:=h x hx a 0 k he
 refine ⟨h1,?_⟩
 unfold World.shape? at h2
 unfold usOf
 split at h2
 ·next c _ _ hc=>rw [hc];exact ⟨_,rfl,by omega⟩
 ·simp at h2
def offOf:Value→Nat
 | .slice (some a) _ _=>a.off
 |_=>0
theorem zpj (hl:laidOutB P=true) {N:Nat} {r:Reach} {b:Nat} {t:TypeId} {v:Value} {d:DataW H} {ps:List MemPlace} (ht:t<P.types.size) {k:Nat} (hok:okTy P k t=true)(hval:Value.okWide P w r b t v)
  (h:DataW.Trod enc P w base spare held t v d ps) (hN: ∀x∈v.cells.toList,offOf x≤N): ∃a,Rel (usOf N w) w .nil a v∧ShV P k t a:=by
 obtain ⟨fuel,h⟩:=h
 have key: ∀cs:List Value,cs=v.cells.toList→(∀x∈cs,∀a l k,x=.slice (some a) l k→a.spot=none∧∃e n,w.shape? a.block=some (e,n))→∃as,Sh P k t as∧RelCells N w as cs:=by
  intro cs hcs hs
  subst hcs
  exact ok_sh hl k t ht hok fuel _ _ h (zlb fun x hx a l k he=>⟨(hs x hx a l k he).1,(hs x hx a l k he).2,by have:=hN x hx;subst he;exact this⟩)
 unfold Value.okWide at hval
 by_cases hag:aggB P t=true
 ·have: ∃cs,v=.agg cs∧cs.size=P.cellsOf t∧Row.okWide P w r b t cs:=by
   unfold aggB at hag
   split at hag<;>simp_all
  obtain ⟨cs,rfl,_,ts,_,_,hrow⟩:=this
  obtain ⟨as,h1,h2,h3⟩:=key cs.toList rfl (fun x hx a l k he=>by
   subst he
   obtain ⟨i,hi⟩:=List.getElem?_of_mem hx
   obtain ⟨u,_,hu⟩:=hrow i _ (by simpa using hi)
   exact z9w hu)
  refine ⟨.agg as,?_,by unfold ShV;rw [if_pos hag];exact ⟨as,rfl,h1⟩⟩
  have:=Rel.agg (us:=usOf N w) (w:=w) .nil as cs.toList h2 h3
  simpa using this
 ·have hcell:Cell.okWide P w r b t v:=by
   unfold aggB at hag
   split at hval
   ·next hu=>simp [hu] at hag
   ·next hu=>simp [hu] at hag
   ·exact hval
  have hv1:v.cells.toList=[v]:=by
   unfold Cell.okWide at hcell
   cases v with
   |agg cs=>split at hcell<;>simp_all [Cell.ok]
   |_=>rfl
  obtain ⟨as,h1,h2,h3⟩:=key [v] hv1.symm (fun x hx a l k he=>by
   simp at hx;subst hx;subst he
   exact z9w hcell)
  match as,h2 with
  | [a],_=>exact ⟨a,h3 0 (by simp) (by simp),by unfold ShV;rw [if_neg hag];exact h1⟩
theorem zhm (hl:laidOutB P=true) {N:Nat} {r:Reach} {b k:Nat}: ∀{ts:List TypeId} {vs:List Value} {ds:List (DataW H)} {ps:List MemPlace},DataW.TrodAll enc P w base spare held ts vs ds ps→
  (∀t∈ts,t<P.types.size∧okTy P k t=true)→(∀(j:Nat) t v,ts[j]? =some t→vs[j]? =some v→Value.okWide P w r b t v)→(∀v∈vs,∀x∈v.cells.toList,offOf x≤N)→
  ∃as,Rels (usOf N w) w .nil as vs∧as.length=ts.length∧∀(j:Nat) t a,ts[j]? =some t→as[j]? =some a→ShV P k t a
 | [],[],[],_,_,_,_,_=>⟨[],.nil,rfl,fun j t a h=>by simp at h⟩
 |t::ts,v::vs,d::ds,_,⟨p,q,h1,h2,_⟩,hty,hval,hN=>by
  obtain ⟨a,r1,r2⟩:=zpj hl (hty t (by simp)).1 (hty t (by simp)).2 (hval 0 t v rfl rfl) h1 (hN v (by simp))
  obtain ⟨as,r3,r4,r5⟩:=zhm hl h2 (fun t ht=>hty t (by simp [ht])) (fun j t v ht hv=>hval (j+1) t v (by simpa using ht) (by simpa using hv)) (fun v hv=>hN v (by simp [hv]))
  refine ⟨a::as,r3.cons r1 |>fun h=> ?_,by simp [r4],fun j t' a' ht ha=> ?_⟩
  ·exact Rels.cons r1 r3
  ·cases j with
   |zero=>simp at ht ha;subst ht;subst ha;exact r2
   |succ j=>exact r5 j t' a' (by simpa using ht) (by simpa using ha)
theorem zi1 (vs:List Value): ∃N,∀v∈vs,∀x∈v.cells.toList,offOf x≤N:=by
 have h1: ∀cs:List Value,∃N,∀x∈cs,offOf x≤N:=by
  intro cs
  induction cs with
  |nil=>exact ⟨0,by simp⟩
  |cons c r ih=>
   obtain ⟨N,hN⟩:=ih
   refine ⟨max N (offOf c),fun x hx=> ?_⟩
   rcases List.mem_cons.1 hx with rfl|hx
   ·exact Nat.le_max_right _ _
   ·exact Nat.le_trans (hN x hx) (Nat.le_max_left _ _)
 induction vs with
 |nil=>exact ⟨0,by simp⟩
 |cons v r ih=>
  obtain ⟨N,hN⟩:=ih
  obtain ⟨M,hM⟩:=h1 v.cells.toList
  refine ⟨max N M,fun u hu x hx=> ?_⟩
  rcases List.mem_cons.1 hu with rfl|hu
  ·exact Nat.le_trans (hM x hx) (Nat.le_max_right _ _)
  ·exact Nat.le_trans (hN u hu x hx) (Nat.le_max_left _ _)
end
theorem zki {G:Nat→List Nat} {W:World} (h: ∀g,G g≠[]→∃cur ty fz,W.heap[g]? =some (.cells cur ty fz)∧cur.toList=(G g).map fun (b:Nat)=>Value.int .u8 (b:Int))(N:Nat):GlobOk G (usOf N W) W:=by
 intro g hg
 obtain ⟨cur,ty,fz,h1,h2⟩:=h g hg
 have hr:Rels (usOf N W) W .nil (bytesAV (G g)).cells cur.toList:=by
  have:=zjf (us:=usOf N W) (w:=W) (K:=.nil) cur.toList (by rw [h2];simp [plainV])
  have e:(bytesAV (G g)).cells=cur.toList.map AV.v:=by rw [h2,List.map_map];rfl
  rw [e];exact this
 have key:EptrAt (usOf N W) W (bytesAV (G g)) g 0 cur.toList:=by
  refine ⟨⟨max N cur.size,by simp [usOf,h1],by simp;omega⟩,zcd h1,fun x hx=> ?_,hr⟩
  rw [h2] at hx
  obtain ⟨b,_,rfl⟩:=List.mem_map.1 hx
  rfl
 have:=key.rel (K:=.nil) 0
 simpa using this
theorem zk3 {H:Type} {enc:TypeId×Value→H} {P:Program} {G:Nat→List Nat} {L:Lib} (hmix:P.follows .mixedOrders=true)(hL:LibOk P G L)(hl:laidOutB P=true) {f:FuncId} {ts:List TypeId} {k:Nat} (hty: ∀t∈ts,t<P.types.size∧okTy P k t=true)
  (hrun: ∀as:List AV,as.length=ts.length→(∀(j:Nat) t a,ts[j]? =some t→as[j]? =some a→ShV P k t a)→∃st,run L f as ⟨[],[]⟩=some (.v (.bool true),st))
  {W:World} (hgl: ∀N,GlobOk G (usOf N W) W) {r:Reach} {b:Nat} {args:Array Value} {ds:List (DataW H)} {ps:List MemPlace} {spare:Nat→Bool} {held:Bool}
  (hval: ∀(j:Nat) t v,ts[j]? =some t→args.toList[j]? =some v→Value.okWide P W r b t v)
  (hA:DataW.TrodAll enc P W 0 spare held ts args.toList ds ps):Calls P f args W fun e W'=>e=.returned (.bool true)∧Below W.heap.size W W':=by
 obtain ⟨N,hN⟩:=zi1 args.toList
 obtain ⟨as,h1,h2,h3⟩:=zhm hl hA hty hval hN
 obtain ⟨st,hr⟩:=hrun as h2 h3
 exact znq hmix hL hr (us:=usOf N W) (fun c n h=>znp h) (hgl N) h1
theorem zdq {H:Type} {enc:TypeId×Value→H} {P:Program} (hl:laidOutB P=true) {W W':World} (hb:Below W.heap.size W W'): ∀{ts:List TypeId} {vs:List Value} {ds:List (DataW H)} {ps:List MemPlace},
  (∀t∈ts,P.readableRec t=true∧t<P.types.size)→DataW.TrodAll enc P W 0 (fun _=>true) true ts vs ds ps→DataW.TrodAll enc P W' 0 (fun b=>decide (b<W.heap.size)) true ts vs ds ps
 | [],[],[],_,_,h=>h
 |t::ts,v::vs,d::ds,_,hty,⟨p,q,h1,h2,e⟩=>by
  refine ⟨p,q,Below.trod hl (hty t (by simp)).1 (hty t (by simp)).2 h1 hb ?_,zdq hl hb (fun t ht=>hty t (by simp [ht])) h2,e⟩
  obtain ⟨n,hn⟩:=h1
  exact DataW.trod_lt n _ _ _ hn
end Go.Ev
namespace Go.Ev
open Go Go.RowKit
structure OneRow (w:World) (base:Nat) (e:TypeId) (v:Value) (n:Nat) (xs:List Value):Prop where
 row:w.ownsRow base e 1 v n xs
 one: ∀g k cap cur,v=.slice (some ⟨g,0,none⟩) k cap→w.heap[g]? =some (.cells cur e (0,0))→∀x∈cur.toList,x.oneCell'=true
section
variable {P:Program} {w w':World} {base:Nat} {e:TypeId} {v:Value} {n:Nat} {xs:List Value}
theorem OneRow.kept {row:Option Nat} (h:OneRow w base e v n xs)(hg:w.grownBy w' row)(hne:v.ownBlock=none∨v.ownBlock≠row):OneRow w' base e v n xs:=by
 refine ⟨h.row.kept hg hne,fun g k cap cur hv hb=> ?_⟩
 subst hv
 have hlt:=(h.row.lt g (by simp [Value.ownBlock])).2
 have:w'.heap[g]? =w.heap[g]? :=hg.block g hlt (by
  rcases hne with e'|e'
  ·simp [Value.ownBlock] at e'
  ·simpa [Value.ownBlock] using e')
 rw [this] at hb
 exact h.one g k cap cur rfl hb
theorem OneRow.alloc (h:OneRow w base e v n xs)(o:Obj):OneRow (w.alloc o) base e v n xs:=
 h.kept (World.grownBy_alloc w o none) (by cases hv:v.ownBlock<;>simp)
theorem OneRow.nil (w:World)(base:Nat)(e:TypeId):OneRow w base e (.slice none 0 0) 0 []:=
 ⟨World.ownsRow_nil w base e 1,fun g k cap cur hv=>by simp at hv⟩
theorem zcn (w:World)(base:Nat)(t ty e:TypeId)(i:TypeInfo)(z:Value)(bytes:Nat)(ht:P.underlying t=some (.slice e))(hi:P.info? e=some i)(hz:i.zero=some z)
  (hsize:i.size=1) (hby:i.bytes=bytes) (hzs:z.cells.size=1) (hzone: ∀x∈z.cells.toList,x.oneCell'=true)
  (v:Value) (n:Nat) (xs:List Value) (hrow:OneRow w base e v n xs)
  (a:Addr) (m c:Nat) (news:List Value) (hl:news.length=m) (hnews: ∀j u,news[j]? =some u→w.cell? (a.add j)=some u) (h1: ∀u∈news,u.oneCell'=true)
  (h63:n+m≤maxLen) (hbytes:(n+m)*bytes≤140737488355328) (hbase:base≤w.heap.size):
  ∃v' w',(Builtin.append_ #[t,t] ty #[v,.slice (some a) m c]).run P w=.ok v' w'∧OneRow w' base e v' (n+m) (xs++news)∧w.grownBy w' v.ownBlock∧
   (v'=.slice none 0 0↔v=.slice none 0 0∧m=0):=by
 have hown:=hrow.row
 obtain ⟨v',w',hr,h2,h3,h4⟩:=run_append_own (P:=P) w base t ty e i z 1 bytes ht hi hz hsize hby hzs (by omega) v n xs hown a m c news (by simpa using hl) hnews h1 h63 hbytes hbase
 refine ⟨v',w',hr,⟨h2,?_⟩,h3,h4⟩
 intro g k cap cur hv' hb' x hx
 have hzc: ∀q,∀y∈(Builtin.zeroCells z.cells q).toList,y.oneCell'=true:=z5o _ (by omega) hzone
 have hxs: ∀y∈xs,y.oneCell'=true:=by
  rcases hown.2 with ⟨rfl,rfl⟩ | ⟨g,cap,cur,rfl,_,hg,_,_,_,htake⟩
  ·have:xs=[]:=List.eq_nil_of_length_eq_zero (by simpa using hown.1)
   subst this;simp
  ·intro y hy
   rw [←htake] at hy
   exact hrow.one g n cap cur rfl hg y (List.mem_of_mem_take hy)
 have done: ∀(cells:List Value) (g':Nat),w'.heap[g']? =some (.cells cells.toArray e (0,0))→g=g'→(∀y∈cells,y.oneCell'=true)→x.oneCell'=true:=by
  intro cells g' h5 h6 h7
  subst h6
  rw [h5] at hb'
  simp only [sI_,Obj.cells.injEq] at hb'
  obtain ⟨rfl,_⟩:=hb'
  exact h7 x (by simpa using hx)
 rcases hown.2 with ⟨rfl,rfl⟩ | ⟨g0,cap0,cur0,rfl,hbg,hg,hnc,hcm,hcs,htake⟩
 ·have hx0:xs=[]:=List.eq_nil_of_length_eq_zero (by simpa using hown.1)
  subst hx0
  by_cases hm:m=0
  ·have:=(h4.2 ⟨rfl,hm⟩)
   rw [this] at hv';simp at hv'
  ·have hr2:=run_append_nil (P:=P) w t ty e i z ht hi hz a m c news (by rw [hl,hsize,Nat.mul_one]) hnews (by omega) (by simp only [maxLen] at h63;omega) (by have hb:=hbytes;rw [Nat.zero_add,←hby] at hb;omega)
   rw [hr2] at hr
   simp only [Result.ok.injEq] at hr
   obtain ⟨rfl,rfl⟩:=hr
   simp only [Value.slice.injEq,sI_,Addr.mk.injEq] at hv'
   refine done (news++(Builtin.zeroCells z.cells (grownCap w m 0 e-m)).toList) w.heap.size ?_ (by omega) ?_
   ·refine (heap_alloc_new w.drew _).trans ?_
    congr 2
    apply Array.ext';simp
   ·intro y hy
    rcases List.mem_append.1 hy with hy|hy
    ·exact h1 y hy
    ·exact hzc _ y hy
 ·by_cases hroom:n+m≤cap0
  ·have hfit:n*i.size+news.length≤cur0.size:=by rw [hl,hcs,hsize];omega
   have hr2:=run_append_room (P:=P) w t ty e i ht hi g0 n cap0 cur0 hg a m c news (by rw [hl,hsize,Nat.mul_one]) hnews h1 hroom hfit
   rw [hr2] at hr
   simp only [Result.ok.injEq] at hr
   obtain ⟨rfl,rfl⟩:=hr
   simp only [Value.slice.injEq,sI_,Addr.mk.injEq] at hv'
   refine done _ g0 (setRow_heap w g0 cur0 _ e _ hg) (by omega) ?_
   intro y hy
   have hc0:=hrow.one g0 n cap0 cur0 rfl hg
   simp only [List.mem_append] at hy
   rcases hy with (hy|hy)|hy
   ·exact hc0 y (List.mem_of_mem_take hy)
   ·exact h1 y hy
   ·exact hc0 y (List.mem_of_mem_drop hy)
  ·have holds: ∀j u,xs[j]? =some u→w.cell? ((⟨g0,0,none⟩:Addr).add j)=some u:=hown.cells (g:=g0) rfl
   have hr2:=run_append_grow (P:=P) w t ty e i z ht hi hz ⟨g0,0,none⟩ n cap0 xs (by rw [hown.1,hsize]) holds a m c news (by rw [hl,hsize,Nat.mul_one]) hnews (by omega) (by simp only [maxLen] at h63;omega) (growslice_fits (by omega) (by rw [hby];exact hbytes))
   rw [hr2] at hr
   simp only [Result.ok.injEq] at hr
   obtain ⟨rfl,rfl⟩:=hr
   simp only [Value.slice.injEq,sI_,Addr.mk.injEq] at hv'
   refine done (xs++news++(Builtin.zeroCells z.cells (grownCap w (n+m) cap0 e-(n+m))).toList) w.heap.size ?_ (by omega) ?_
   ·refine (heap_alloc_new w.drew _).trans ?_
    congr 2
    apply Array.ext';simp
   ·intro y hy
    simp only [List.mem_append] at hy
    rcases hy with (hy|hy)|hy
    ·exact hxs y hy
    ·exact h1 y hy
    ·exact hzc _ y hy
theorem z8z {F:Fence} {n:Nat} {P:Program} (w:World) {ops:Array Oper} {rest:List Oper} {o:Oper} {a:Act} {Q:Exit→Act→World→Prop}
  (hg:o.guard=none) (s x:Operand) (t:TypeId) (hop:o.op=Op.call {callee:=Callee.builtin Builtin.append,args:= #[s,x],argTypes:= #[t,t]})
  (base:Nat) (e:TypeId) (i:TypeInfo) (z:Value) (bytes:Nat) (h1:P.underlying t=some (.slice e)) (h2:P.info? e=some i) (h3:i.zero=some z) (h4:i.size=1) (h5:i.bytes=bytes) (h6:z.cells.size=1) (h7: ∀x∈z.cells.toList,x.oneCell'=true)
  (v:Value) (k:Nat) (xs:List Value) (hs:a.eval s=v) (hown:OneRow w base e v k xs) (ad:Addr) (m c:Nat) (news:List Value) (hx:a.eval x=.slice (some ad) m c) (hn:news.length=m)
  (hc: ∀j u,news[j]? =some u→w.cell? (ad.add j)=some u) (h1c: ∀u∈news,u.oneCell'=true) (b1:k+m≤maxLen) (b2:(k+m)*bytes≤140737488355328) (b3:base≤w.heap.size)
  (hK: ∀v' w',OneRow w' base e v' (k+m) (xs++news)→w.grownBy w' v.ownBlock→(v'=.slice none 0 0↔v=.slice none 0 0∧m=0)→wpListIn F n P ops Q rest (a.put o.dst v') w'):
  wpListIn F n P ops Q (o::rest) a w:=by
 refine wpListIn_plain hg fun K hK'=> ?_
 obtain ⟨v',w',hrun,r1,r2,r3⟩:=zcn (P:=P) w base t o.type e i z bytes h1 h2 h3 h4 h5 h6 h7 v k xs hown ad m c news hn hc h1c b1 b2 b3
 unfold Oper.wpIn
 refine ⟨?_,?_⟩
 ·simp [Oper.about,hop,resolve,Target.leads,Sem.run_pure]
 ·rw [Oper.semAt_plain F _ _ (by rw [hop];intro c hc';cases hc')]
  simp [execOp,hop,resolve,invoke,builtin,hs,hx,hrun,Result.andThen]
  exact hK' _ _ (hK v' w' r1 r2 r3)
end
end Go.Ev
namespace Go.Ev
open Go Go.RowKit
section
variable {P:Program} {us:Us} {w w':World} {K:Kx} {st:St}
theorem zcq (hG:Good us w K st)(hb:Below w.heap.size w w') {b:Nat} {cur:Array Value} {ty:TypeId} {cs:List AV} (hge:w.heap.size≤b)(hblk:w'.heap[b]? =some (.cells cur ty (0,0)))(hr:Rels us w' .nil cs (cur.toList.take cs.length))(h0:cs.length≤cur.size)(h1: ∀x∈cur.toList,x.oneCell'=true):
  Good us w' (K.newL st.store.length b) ⟨st.store++ [cs],st.tips⟩∧Ext us w K us w' (K.newL st.store.length b):=by
 have hfree:K.lm st.store.length=none:=by
  cases h:K.lm st.store.length with
  |none=>rfl
  |some c=>have:=hG.lmlt _ c h;omega
 have hlm: ∀l' c,K.lm l'=some c→(K.newL st.store.length b).lm l'=some c:=by
  intro l' c h
  simp only [Kx.newL]
  split
  ·next e=>subst e;rw [hfree] at h;exact absurd h (by simp)
  ·exact h
 have inv: ∀l' c,(K.newL st.store.length b).lm l'=some c→(l'=st.store.length∧c=b)∨(l'≠st.store.length∧K.lm l'=some c):=by
  intro l' c h
  simp only [Kx.newL] at h
  split at h
  ·next e=>exact .inl ⟨e,by simpa using h.symm⟩
  ·next e=>exact .inr ⟨e,h⟩
 have hul:=z9z hG hb
 have hkl:=zbz hG hb (K.newL st.store.length b) rfl rfl hlm
 have hold: ∀l' c,K.lm l'=some c→(st.store++ [cs])[l']? =st.store[l']? :=fun l' c h=>List.getElem?_append_left (hG.lmlt l' c h)
 refine ⟨⟨hG.T,fun l' c h=> ?_,fun l' c cs' h hs=> ?_,fun l1 l2 c h1 h2=> ?_,hG.tkinj,hG.tklt,hG.tkus,fun c n h=>Nat.lt_of_lt_of_le (hG.uslt c n h) hb.size,fun l' c h=> ?_,fun l' t c h ht=> ?_⟩,
  zc8 hG hb _ rfl rfl hlm (fun l c h=> ?_)⟩
 ·rcases inv l' c h with ⟨rfl,_⟩ | ⟨_,h⟩
  ·simp
  ·have:=hG.lmlt l' c h;simp;omega
 ·rcases inv l' c h with ⟨rfl,rfl⟩ | ⟨_,h⟩
  ·simp at hs
   subst hs
   exact ⟨cur,ty,hblk,h0,⟨hr.len,fun i h1 h2=>(hr.rel i h1 h2).ofNil⟩,h1⟩
  ·simp only [hold l' c h] at hs
   exact (hG.blk l' c cs' h hs).mono hul hkl (hb.block c (hG.lmltH h))
 ·rcases inv l1 c h1 with ⟨a1,b1⟩ | ⟨_,g1⟩ <;>rcases inv l2 c h2 with ⟨a2,b2⟩ | ⟨_,g2⟩
  ·exact .inl (a1.trans a2.symm)
  ·have:=hG.lmltH g2;omega
  ·have:=hG.lmltH g1;omega
  ·simp only [hold l1 c g1,hold l2 c g2]
   exact hG.inj l1 l2 c g1 g2
 ·rcases inv l' c h with ⟨rfl,rfl⟩ | ⟨_,h⟩
  ·refine .inr ?_
   cases hu:us c with
   |none=>rfl
   |some n=>have:=hG.uslt c n hu;omega
  ·simp only [hold l' c h]
   exact hG.disj l' c h
 ·rcases inv l' c h with ⟨_,e⟩ | ⟨_,h⟩
  ·have ht':K.tk t=some b:=by rw [←e];exact ht
   have:=hG.tkltH ht';omega
  ·exact hG.lmtk l' t c h ht
 ·rcases inv l c h with ⟨rfl,rfl⟩ | ⟨_,h⟩
  ·exact .inr hge
  ·exact .inl ⟨l,h⟩
def u8s:List AV→Option (List Int)
 | []=>some []
 | .agg [.v (.int .u8 z)]::r=>(u8s r).map (z:: ·)
 |_=>none
theorem zgk: ∀(ys:List AV) (zs:List Int),u8s ys=some zs→ys=zs.map fun z=>AV.agg [.v (.int .u8 z)]
 | [],zs,h=>by simp [u8s] at h;subst h;rfl
 |y::r,zs,h=>by
  unfold u8s at h
  split at h
  ·simp at*
  ·rename_i z r' e
   simp only [List.cons.injEq] at e
   obtain ⟨rfl,rfl⟩:=e
   obtain ⟨zs',h1,rfl⟩:=Option.map_eq_some_iff.1 h
   rw [zgk r zs' h1];rfl
  ·simp at h
def bytesOf (st:St) (x:AV):Option (List Int):=(elemsOf 1 st x).bind fun ys=>(u8s ys).bind fun zs=>if zs.length≤1000 then some zs else none
theorem zkr (zs:List Int):flat (zs.map fun z=>AV.agg [.v (.int .u8 z)])=zs.map fun z=>AV.v (.int .u8 z):=by
 unfold flat
 induction zs with
 |nil=>rfl
 |cons z r ih=>rw [List.map_cons,List.flatMap_cons,ih];rfl
theorem zim {K:Kx} {zs:List Int} {vs:List Value} (h:Rels us w K (zs.map fun z=>AV.v (.int .u8 z)) vs):vs=zs.map fun z=>Value.int .u8 z:=by
 refine List.ext_getElem (by rw [←h.len];simp) fun i h1 h2=> ?_
 have:=(h.rel i (by simpa using h2) h1)
 simp only [List.getElem_map] at this⊢
 exact this.v_inv
theorem zft (hG:Good us w K st) {x:AV} {xv:Value} {zs:List Int} (h:bytesOf st x=some zs)(hr:Rel us w K x xv):
  zs.length≤1000∧((xv=.slice none 0 0∧zs=[])∨∃b off cap,xv=.slice (some ⟨b,off,none⟩) zs.length cap∧b<w.heap.size∧∀j,j<zs.length→w.cell? ⟨b,off+j,none⟩=some (.int .u8 (zs[j]?.getD 0))):=by
 unfold bytesOf at h
 obtain ⟨ys,h1,h⟩:=Option.bind_eq_some_iff.1 h
 obtain ⟨zs',h2,h3⟩:=Option.bind_eq_some_iff.1 h
 split at h3
 ·next hlen=>
  simp only [sI_] at h3
  subst h3
  refine ⟨hlen,?_⟩
  have hy:=zgk ys zs' h2
  unfold elemsOf at h1
  split at h1
  ·simp only [sI_] at h1
   subst h1
   refine .inl ⟨hr.v_inv,?_⟩
   cases zs' with
   |nil=>rfl
   |cons z r=>simp at hy
  ·rename_i g z' xs
   split at h1
   ·next hz=>
    simp only [sI_] at h1
    subst h1
    obtain ⟨c,p,cap,vs,rfl,h4⟩:=hr.lst_inv
    have hv:=h4.rels
    rw [hy,zkr] at hv
    have hvs:=zim hv
    obtain ⟨n,hn,_⟩:=h4.lies
    refine .inr ⟨c,p,cap,by rw [hy,List.length_map],hG.uslt c n hn,fun j hj=> ?_⟩
    have hj':j<vs.length:=by rw [hvs];simpa using hj
    rw [h4.cells j hj']
    simp [hvs,hj]
   ·simp at h1
  ·rename_i l q n cp z' b
   split at h1
   ·next hz=>
    obtain ⟨rfl,hb⟩:=hz
    obtain ⟨c,cap,hc,rfl,_⟩:=hr.rsl_inv
    cases hl:st.store[l]? with
    |none=>simp [hl] at h1
    |some cs=>
     simp only [hl,Option.bind_some] at h1
     split at h1
     ·next hbd=>
      simp only [sI_] at h1
      obtain ⟨cur,ty,g1,g0,g2,g3⟩:=hG.blk l c cs hc hl
      have g4:=z74 (us:=us) (w:=w) b 1 n (pubs (cs.drop q)) ((cur.toList.take cs.length).drop q) hb (by rw [z2a];simp;omega) (g2.drop q).pubs
      rw [h1] at g4
      have hv:=g4.1
      rw [hy,zkr] at hv
      have hvs:=zim hv
      have hgl:n=zs'.length:=by
       have:=z53 b 1 n (pubs (cs.drop q))
       rw [h1,hy] at this
       simpa using this.symm
      subst hgl
      refine .inr ⟨c,q,cap,rfl,(Array.getElem?_eq_some_iff.1 g1).1,fun j hj=> ?_⟩
      rw [cell_of_row w c (q+j) cur ty _ g1]
      have hlj:j<((cur.toList.take cs.length).drop q).length:=by simp;omega
      have e:=congrArg (fun l=>l[j]?) hvs
      simp only [List.getElem?_map,List.getElem?_take,List.getElem?_drop] at e
      rw [if_pos (by omega),if_pos (by omega)] at e
      rw [Array.getElem?_toList] at e
      rw [e,List.getElem?_eq_getElem hj];rfl
     ·simp at h1
   ·simp at h1
  ·simp at h1
 ·simp at h3
def primSeq (fa ga:FuncId) (f:FuncId) (args:List AV) (st:St):Option (AV×St):=
 if f=fa then
  match args with
  | [.v (.slice none 0 0),.fn (.func g) [] [.ptr l 0]]=>
   if g=ga then
    match st.store[l]? with
    |some [x]=>
     match bytesOf st x with
     |some []=>some (.v (.slice none 0 0),st)
     |some (z::zs)=>some (.rsl st.store.length 0 (z::zs).length (z::zs).length 1 true,⟨st.store++ [(z::zs).map fun z=> .v (.int .u8 z)],st.tips⟩)
     |none=>none
    |_=>none
   else none
  |_=>none
 else none
theorem zhx {L : Lib} {fa ga : FuncId} {te : TypeId} (hL : L.prim = primSeq fa ga) (hfn : ∃ fn, P.funcs[fa]? = some fn ∧ fn.body.isSome = true ∧ fn.name ≠ "runtime.NumGoroutine")
  (hcall: ∀(w:World) (Bs:Nat) (sv:Value) (zs:List Int),zs.length≤1000→w.cell? ⟨Bs,0,none⟩=some sv→
   ((sv=.slice none 0 0∧zs=[])∨∃b off cap,sv=.slice (some ⟨b,off,none⟩) zs.length cap∧b<w.heap.size∧∀j,j<zs.length→w.cell? ⟨b,off+j,none⟩=some (.int .u8 (zs[j]?.getD 0)))→
   Calls P fa #[.slice none 0 0,.func (.func ga) #[] #[.pointer (some ⟨Bs,0,none⟩)]] w fun e w'=> ∃v,e=.returned v∧OneRow w' w.heap.size te v zs.length (zs.map fun z=>Value.int .u8 z)∧(v=.slice none 0 0↔zs=[])∧Below w.heap.size w w'):PrimOk P L:=by
 intro f args st r st' h us w K vs hG hr
 rw [hL] at h
 unfold primSeq at h
 split at h
 ·next hf=>
  subst hf
  split at h
  ·rename_i g l
   split at h
   ·next hg=>
    subst hg
    refine ⟨hfn,?_⟩
    obtain ⟨v1,r1,e1,h1,hr⟩:=hr.cons_inv
    obtain ⟨v2,r2,e2,h2,hr⟩:=hr.cons_inv
    have e3:=hr.nil_inv
    subst e3 e2
    obtain ⟨va,vb,rfl,ha,hb⟩:=h2.fn_inv
    have ea:=ha.nil_inv
    obtain ⟨v3,r3,eb,h3,hb⟩:=hb.cons_inv
    have eb2:=hb.nil_inv
    subst eb2
    obtain ⟨Bs,hBs,rfl⟩:=h3.ptr_inv
    have hvs:vs= #[.slice none 0 0,.func (.func g) #[] #[.pointer (some ⟨Bs,0,none⟩)]]:=by
     have ev:=h1.v_inv
     subst ev
     apply Array.ext'
     rw [e1]
     have:va= #[]:=by apply Array.ext';simpa using ea
     have h5:vb= #[.pointer (some ⟨Bs,0,none⟩)]:=by apply Array.ext';simpa using eb
     subst this h5
     rfl
    subst hvs
    cases hs:st.store[l]? with
    |none=>simp [hs] at h
    |some cs=>
     rw [hs] at h
     split at h
     ·rename_i x hx
      simp only [sI_] at hx
      subst hx
      obtain ⟨cur,ty,g1,g0,g2,g3⟩:=hG.blk l Bs [x] hBs hs
      simp only [List.length_singleton] at g0 g2
      have hlen:0<cur.size:=g0
      have hcur:cur.toList.take 1=[cur[0]]:=by
       have:cur.toList=cur[0]::cur.toList.drop 1:=by
        have:=List.drop_eq_getElem_cons (l:=cur.toList) (i:=0) (by simpa using hlen)
        simpa using this
       rw [this];rfl
      rw [hcur] at g2
      have hxr:Rel us w K x cur[0]:=g2.rel 0 (by simp) (by simp)
      have hcell:w.cell? ⟨Bs,0,none⟩=some cur[0]:=by
       rw [cell_of_row w Bs 0 cur ty _ g1,Array.getElem?_eq_getElem hlen]
      split at h
      ·rename_i hb0
       simp only [sI_,Prod.mk.injEq] at h
       obtain ⟨rfl,rfl⟩:=h
       obtain ⟨q1,q2⟩:=zft hG hb0 hxr
       refine (hcall w Bs cur[0] [] q1 hcell q2).mono fun e w' he=> ?_
       obtain ⟨v,rfl,k1,k2,k3⟩:=he
       have:=k2.2 rfl
       subst this
       exact ⟨_,us,K,rfl,.v _ _ rfl,zc8 hG k3 K rfl rfl (fun _ _ h=>h) (fun l c h=> .inl ⟨l,h⟩),zda hG k3,⟨fun _ _ h=> .inl h,fun _ h=> .inl h⟩⟩
      ·rename_i z zs hb0
       simp only [sI_,Prod.mk.injEq] at h
       obtain ⟨rfl,rfl⟩:=h
       obtain ⟨q1,q2⟩:=zft hG hb0 hxr
       refine (hcall w Bs cur[0] (z::zs) q1 hcell q2).mono fun e w' he=> ?_
       obtain ⟨v,rfl,k1,k2,k3⟩:=he
       rcases k1.row.2 with ⟨rfl,h0⟩ | ⟨b,cap,cur',rfl,hge,hblk,hcap,_,hsz,htake⟩
       ·simp at h0
       ·have hrs:Rels us w' .nil ((z::zs).map fun z=>AV.v (.int .u8 z)) (cur'.toList.take ((z::zs).map fun z=>AV.v (.int .u8 z)).length):=by
         rw [List.length_map,←Nat.mul_one (z::zs).length,htake]
         exact ⟨by simp,fun i h1 h2=>by simp only [List.getElem_map];exact .v _ _ rfl⟩
        obtain ⟨j1,j2⟩:=zcq hG k3 (cs:=(z::zs).map fun z=>AV.v (.int .u8 z)) hge hblk hrs (by rw [List.length_map,hsz];omega) (k1.one b _ cap cur' rfl hblk)
        refine ⟨_,us,_,rfl,.rsl _ st.store.length 0 _ _ 1 true b cap (by simp [Kx.newL]) (.inr ⟨hcap,cur'.size,⟨cur',te,hblk,rfl⟩,by rw [hsz];omega⟩),j2,j1,⟨fun l c h=> ?_,fun _ h=> .inl h⟩⟩
        simp only [Kx.newL] at h
        split at h
        ·next e=>subst e;exact .inr ⟨Nat.le_refl _,by simp⟩
        ·exact .inl h
      ·simp at h
     ·simp at h
   ·simp at h
  ·simp at h
 ·simp at h
end
end Go.Ev
