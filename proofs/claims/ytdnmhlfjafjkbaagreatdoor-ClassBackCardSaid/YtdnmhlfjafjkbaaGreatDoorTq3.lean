/- What is proved: what functions of this program answer, by the evaluator. No condition. -/
import Derived.Test.YtdnmhlfjafjkbaaGreatDoorTq2
import Derived.KernelRfl
set_option linter.all false
set_option linter.all false
namespace Go.Proofs.YtdnmhlfjafjkbaaGreatDoor.Sq
open Go Go.RowKit Go.Shelf Go.Ev Go.Proofs
attribute [local go_sem] Oper.semAt_some
set_option maxRecDepth 100000 in
set_option maxHeartbeats 2000000 in
theorem zg1 (F:Fence)(n:Nat)(h7:F.fn 170)(hro:F.round=none)(l Bs:Nat)(J:List Int→World→Prop)(W:World)(hBs:W.cell? ⟨Bs,0,none⟩=some (.slice none 0 0))(h0:J [] W):
  CallsIn F n Tryz.prog 170 #[.func (.yield l) #[] #[],.pointer (some ⟨Bs,0,none⟩)] W fun e W'=>(∃v,e=.returned v)∧J [] W':=by
 refine callsIn_of_wp Tryz.func170 rfl h7 ?_ hro
 simp only [Tryz.ntmps170,List.size_toArray,List.length_cons,List.length_nil,Nat.reduceAdd,Nat.reduceSub,Array.replicate_succ,Array.replicate_zero,List.push_toArray,List.append_toArray,List.nil_append,List.cons_append]
 gi_wp2
 gi_loopw [7] (fun i wr=>i=.int .i64 0∧J [] wr) (fun _ _=>0)
 case atStart=>exact ⟨rfl,h0⟩
 case round=>
  obtain ⟨rfl,hJs⟩:=hrel
  gi_wp2
  go_end0
  exact ⟨⟨_,rfl⟩,hJs⟩
def apAssign : Code := (Code.region 2 #[{ dst := some 5, op := Op.alloc 107, type := 0, pos := "iter.go:51", after := #[], guard := none }, { dst := none, op := Op.store 107 (Operand.tmp 5) (Operand.tmp 7), type := 0, pos := "iter.go:51", after := #[{ on := 0, ground := Ground.data }, { on := 0, ground := Ground.phase }], guard := none }] false)
def apBody : Code := (Code.block 1 (Code.region 3 #[{ dst := some 8, op := Op.load 100 (Operand.tmp 2), type := 100, pos := "iter.go:52", after := #[], guard := none }, { dst := some 9, op := Op.load 107 (Operand.tmp 5), type := 107, pos := "iter.go:52", after := #[], guard := none }, { dst := some 10, op := Op.buildSlice 100 1 #[(0, Operand.tmp 9)], type := 100, pos := "iter.go:52", after := #[{ on := 1, ground := Ground.data }], guard := none }, { dst := some 11, op := Op.call { callee := Callee.builtin Builtin.append, args := #[Operand.tmp 8, Operand.tmp 10], argTypes := #[100, 100] }, type := 100, pos := "iter.go:52", after := #[{ on := 0, ground := Ground.data }, { on := 2, ground := Ground.data }], guard := none }, { dst := none, op := Op.store 100 (Operand.tmp 2) (Operand.tmp 11), type := 0, pos := "iter.go:52", after := #[{ on := 3, ground := Ground.data }, { on := 3, ground := Ground.chain }, { on := 0, ground := Ground.phase }, { on := 1, ground := Ground.phase }, { on := 2, ground := Ground.phase }, { on := 3, ground := Ground.phase }], guard := none }] false))
def apRec (fn:FuncId) (sv:Value) (Bs D:Nat) (st:LoopState) (pend:Option Code):Loop:=
 {state:=st,pending:=pend,fn,tmps:= #[.slice none 0 0,sv,.pointer (some ⟨Bs,0,none⟩),undef,.slice none 0 0,undef,sv,undef,undef,undef,undef,undef,undef],params:= #[7],assign:=apAssign,body:=apBody,defers:=D}
structure ApAt (w0:World) (fn:FuncId) (sv:Value) (Bs l D:Nat) (ss:List Int) (W:World):Prop where
 box: ∃v,W.heap[Bs]? =some (.cells #[v] 100 (0,0))∧OneRow W w0.heap.size 107 v ss.length (ss.map cel)∧(v=.slice none 0 0↔ss=[])
 L:W.heap[l]? =some (.loop (apRec fn sv Bs D .ready none))
 K:W.heap[D]? =some (.deferred (some []))
 below:Below w0.heap.size w0 W
theorem z8m {W W':World} (hg:W.grownBy W' none) {k:Nat} {o:Obj} (h:W.heap[k]? =some o):W'.heap[k]? =some o:=
 (hg.block k (Array.getElem?_eq_some_iff.1 h).1 (by simp)).trans h
theorem zfz (w0:World)(fn:FuncId)(sv:Value)(Bs l D:Nat)(ss:List Int)(W W':World)(h:ApAt w0 fn sv Bs l D ss W)(hg:W.grownBy W' none):ApAt w0 fn sv Bs l D ss W':=by
 obtain ⟨v,hv,hr,hn⟩:=h.box
 exact ⟨⟨v,z8m hg hv,hr.kept hg (by cases v.ownBlock<;>simp),hn⟩,z8m hg h.L,z8m hg h.K,h.below.grown hg h.below.size (fun k e=>by simp at e)⟩
theorem z16 (W:World)(l:Nat)(o:Obj):W.grownBy (W.putObj l o) (some l):=
 ⟨rfl,rfl,rfl,by simp,fun k _ hk=>World.putObj_heap_other (fun e=>hk (by rw [e]))⟩
theorem zaw (W:World)(b:Nat)(v:Value):W.grownBy (W.setCell ⟨b,0,none⟩ v) (some b):=
 ⟨rfl,rfl,rfl,(KeepsWalks.setCell W _ v).size,fun k _ hk=>Below.heap_setCell _ _ _ k (fun e=>hk (by rw [e]))⟩
theorem zd1 {W:World} {base:Nat} {e:TypeId} {v:Value} {k:Nat} {xs:List Value} (h:OneRow W base e v k xs) {j:Nat} {o:Obj} (hj:W.heap[j]? =some o)(hno: ∀cur,o≠.cells cur e (0,0)):
  v.ownBlock=none∨v.ownBlock≠some j:=by
 rcases h.row.2 with ⟨rfl,_⟩ | ⟨g,cap,cur,rfl,_,hgb,_⟩
 ·exact .inl rfl
 ·refine .inr fun e'=> ?_
  have:g=j:=by simpa [Value.ownBlock] using e'
  subst this;rw [hgb] at hj;cases hj;exact hno cur rfl
theorem z7j {W:World} {B:Nat} {v:Value} {t:TypeId} (h:W.heap[B]? =some (.cells #[v] t (0,0))):W.cell? ⟨B,0,none⟩=some v∧W.frozen? ⟨B,0,none⟩=false:=by
 constructor<;>simp [World.cell?,World.frozen?,h]
theorem zav {W:World} {B:Nat} {v:Value} {t:TypeId} (v':Value)(h:W.heap[B]? =some (.cells #[v] t (0,0))):(W.setCell ⟨B,0,none⟩ v').heap[B]? =some (.cells #[v'] t (0,0)):=by
 obtain ⟨hlt,hk⟩:=Array.getElem?_eq_some_iff.1 h
 show (W.heap.modify B _)[B]? =_
 rw [Array.getElem?_eq_getElem (by rw [Array.size_modify];exact hlt),Array.getElem_modify_self,hk]
 rfl
theorem zfs (w:World)(x:Value)(t:TypeId): ∀j u,[x][j]? =some u→(w.alloc (.cells #[x] t)).cell? ((⟨w.heap.size,0,none⟩:Addr).add j)=some u:=by
 intro j u hj
 match j,hj with
 |0,hj=>
  simp at hj
  subst hj
  simp [Addr.add]
theorem zp2:(Tryz.prog.info? 107).map (fun i=>(i.zero,i.size,i.bytes))=some (some (.agg #[.int .u8 0]),1,1):=by kernel_rfl
set_option maxRecDepth 100000 in
set_option maxHeartbeats 4000000 in
theorem zpk (F : Fence) (m : Nat) (w0 : World) (fn : FuncId) (hfn : F.fn fn) (sv : Value) (Bs l D : Nat) (hBl : Bs ≠ l) (hDl : D ≠ l) (hDB : D ≠ Bs) (h0B : w0.heap.size ≤ Bs) (h0l : w0.heap.size ≤ l)
    (N : Nat) (hN : N ≤ 1000000) (ss : List Int) (x : Int) (W : World) (h : ApAt w0 fn sv Bs l D ss W) (hlen : ss.length < N) :
    YieldAt F m Tryz.prog l #[val x] W fun e W' => e = .returned (.bool true) ∧ ApAt w0 fn sv Bs l D (ss ++ [x]) W' ∧ Below w0.heap.size W W' := by
  obtain ⟨i0, hi, hz0, hz1, hz2⟩ := info_parts zp2
  obtain ⟨v, hv, hrow, _⟩ := h.box
  refine ⟨fn, #[.slice none 0 0, sv, .pointer (some ⟨Bs, 0, none⟩), undef, .slice none 0 0, undef, sv, val x, undef, undef, undef, undef, undef], apAssign, apBody, by simpa [apRec] using run_yield (P := Tryz.prog) (args := #[val x]) h.L rfl, roundIn_of_wpIn hfn ?_⟩
  have hl : l < W.heap.size := (Array.getElem?_eq_some_iff.1 h.L).1
  have hBlt0 : Bs < W.heap.size := (Array.getElem?_eq_some_iff.1 hv).1
  have hg1 : W.grownBy (W.alloc (.cells #[.int .u8 x] 107)) none := World.grownBy_alloc W _ none
  have h1 := zfz w0 fn sv Bs l D ss _ _ h hg1
  have hv1 := z8m hg1 hv
  have hrow1 : OneRow (W.alloc (.cells #[.int .u8 x] 107)) w0.heap.size 107 v ss.length (ss.map cel) := hrow.alloc _
  have hx1 : (W.alloc (.cells #[.int .u8 x] 107)).heap[W.heap.size]? = some (.cells #[.int .u8 x] 107 (0, 0)) := World.alloc_heap_new W _
  have hbr := run_beginRound (P := Tryz.prog) h1.L rfl
  have hbl1 : Below w0.heap.size W (W.alloc (.cells #[.int .u8 x] 107)) := (Below.refl _ W).alloc h.below.size _
  have hxl : W.heap.size ≠ l := by omega
  have hxB : W.heap.size ≠ Bs := by omega
  obtain ⟨W2, hW2⟩ : ∃ W2, (W.alloc (.cells #[.int .u8 x] 107)).putObj l (.loop { apRec fn sv Bs D .ready none with state := .busy }) = W2 := ⟨_, rfl⟩
  rw [hW2] at hbr
  have hg2 : (W.alloc (.cells #[.int .u8 x] 107)).grownBy W2 (some l) := by rw [← hW2]; exact z16 _ _ _
  have hv2 : W2.heap[Bs]? = some (.cells #[v] 100 (0, 0)) := by rw [← hW2]; exact (World.putObj_heap_other hBl).trans hv1
  have hx2 : W2.heap[W.heap.size]? = some (.cells #[.int .u8 x] 107 (0, 0)) := by rw [← hW2]; exact (World.putObj_heap_other hxl).trans hx1
  have hK2 : W2.heap[D]? = some (.deferred (some [])) := by rw [← hW2]; exact (World.putObj_heap_other hDl).trans h1.K
  have hL2 : W2.heap[l]? = some (.loop { apRec fn sv Bs D .ready none with state := .busy }) := by rw [← hW2]; exact World.putObj_heap_same (by simp; omega)
  have hrow2 : OneRow W2 w0.heap.size 107 v ss.length (ss.map cel) := hrow1.kept hg2 (zd1 hrow1 h1.L (fun cur e => by cases e))
  have hb2 : Below w0.heap.size w0 W2 := h1.below.grown hg2 h1.below.size (fun k e => by cases e; exact h0l)
  have hbl2 : Below w0.heap.size W W2 := hbl1.grown hg2 (by have := h.below.size; simp; omega) (fun k e => by cases e; exact h0l)
  obtain ⟨hc2, hf2⟩ := z7j hv2
  obtain ⟨hcx2, hfx2⟩ := z7j hx2
  have hBlt : Bs < W2.heap.size := (Array.getElem?_eq_some_iff.1 hv2).1
  have hl2 : l < W2.heap.size := (Array.getElem?_eq_some_iff.1 hL2).1
  have hDlt : D < W2.heap.size := (Array.getElem?_eq_some_iff.1 hK2).1
  have ne_of : ∀ {j : Nat} {o : Obj}, W2.heap[j]? = some o → (∀ cur, o ≠ .cells cur 107 (0, 0)) → some j ≠ v.ownBlock := fun hj hno => by
    rcases zd1 hrow2 hj hno with e | e
    · rw [e]; simp
    · exact fun e' => e e'.symm
  clear hW2
  unfold apAssign
  gi_wp2
  unfold apBody
  gi_wp2_with (first
    | (gi_at_builtin; refine z8z _ rfl _ _ 100 rfl w0.heap.size 107 i0 (.agg #[.int .u8 0]) 1 Tryz.underlying100 hi hz0 hz1 hz2 rfl (by simp [Value.oneCell', Value.cells]) _ _ _ rfl (hrow2.alloc _) ⟨W2.heap.size, 0, none⟩ 1 1 [.int .u8 x] rfl rfl (zfs _ _ _) (by simp [Value.oneCell']) (by simp only [maxLen]; omega) (by omega) (by have := hb2.size; simp; omega) ?_; intro v' w3 hown' hg3 hnil3
       have hv3 : w3.heap[Bs]? = some (.cells #[v] 100 (0, 0)) := (hg3.block Bs (by simp; omega) (ne_of hv2 (fun cur e => by cases e))).trans ((Below.heap_alloc _ _ Bs hBlt).trans hv2)
       obtain ⟨hc3, hf3⟩ := z7j hv3
       obtain ⟨g', cap', cur', rfl, hbase', hgb', hr1⟩ : ∃ g' cap' cur', v' = .slice (some ⟨g', 0, none⟩) (ss.length + 1) cap' ∧ w0.heap.size ≤ g' ∧ w3.heap[g']? = some (.cells cur' 107 (0, 0)) ∧ ss.length + 1 ≤ cap' := by
         rcases hown'.row.2 with ⟨_, h0⟩ | ⟨g', cap', cur', e1, e2, e3, e4, _⟩
         · exact absurd h0 (by omega)
         · exact ⟨g', cap', cur', e1, e2, e3, e4⟩
       simp only [Act.put, List.setIfInBounds_toArray, List.set_cons_succ, List.set_cons_zero])
    | fail)
  have hg3' : (W2.alloc (.cells #[.int .u8 x] 107)).grownBy w3 v.ownBlock := hg3
  have hL3 : w3.heap[l]? = some (.loop { apRec fn sv Bs D .ready none with state := .busy }) := (hg3'.block l (by simp; omega) (ne_of hL2 (fun cur e => by cases e))).trans ((Below.heap_alloc _ _ l hl2).trans hL2)
  have hK3 : w3.heap[D]? = some (.deferred (some [])) := (hg3'.block D (by simp; omega) (ne_of hK2 (fun cur e => by cases e))).trans ((Below.heap_alloc _ _ D hDlt).trans hK2)
  obtain ⟨w4, hw4⟩ : ∃ w4, w3.setCell ⟨Bs, 0, none⟩ (.slice (some ⟨g', 0, none⟩) (ss.length + 1) cap') = w4 := ⟨_, rfl⟩
  rw [hw4]
  have hg4 : w3.grownBy w4 (some Bs) := by rw [← hw4]; exact zaw _ _ _
  have hv4 : w4.heap[Bs]? = some (.cells #[.slice (some ⟨g', 0, none⟩) (ss.length + 1) cap'] 100 (0, 0)) := by rw [← hw4]; exact zav _ hv3
  have hL4 : w4.heap[l]? = some (.loop { apRec fn sv Bs D .ready none with state := .busy }) := (hg4.block l (Array.getElem?_eq_some_iff.1 hL3).1 (fun e => hBl (by cases e; rfl))).trans hL3
  have hK4 : w4.heap[D]? = some (.deferred (some [])) := (hg4.block D (Array.getElem?_eq_some_iff.1 hK3).1 (fun e => hDB (by cases e; rfl))).trans hK3
  have hrow4 := hown'.kept hg4 (zd1 hown' hv3 (fun cur e => by cases e))
  have hl4 : l < w4.heap.size := (Array.getElem?_eq_some_iff.1 hL4).1
  have hb3 : Below w0.heap.size w0 w3 := (hb2.alloc hb2.size _).grown hg3' (by have := hb2.size; simp; omega) (fun k e => (hrow2.row.lt k e).1)
  have hbl3 : Below w0.heap.size W w3 := (hbl2.alloc hb2.size _).grown hg3' (by have := hb2.size; simp; omega) (fun k e => (hrow2.row.lt k e).1)
  have hb4 : Below w0.heap.size w0 w4 := hb3.grown hg4 hb3.size (fun k e => by cases e; exact h0B)
  have hbl4 : Below w0.heap.size W w4 := hbl3.grown hg4 hb3.size (fun k e => by cases e; exact h0B)
  clear hw4
  refine ⟨_, _, run_endRound none hL4, rfl, ⟨⟨_, (World.putObj_heap_other hBl).trans hv4, ?_, by simp⟩, World.putObj_heap_same hl4, (World.putObj_heap_other hDl).trans hK4, hb4.grown (z16 _ _ _) hb4.size (fun k e => by cases e; exact h0l)⟩, hbl4.grown (z16 _ _ _) hb4.size (fun k e => by cases e; exact h0l)⟩
  have := hrow4.kept (z16 w4 l (.loop { { apRec fn sv Bs D .ready none with state := .busy } with state := if (none : Option Code).isNone then .ready else .done, pending := none })) (zd1 hrow4 hL4 (fun cur e => by cases e))
  simpa using this
set_option maxRecDepth 100000 in
set_option maxHeartbeats 4000000 in
theorem zfw (F : Fence) (n : Nat) (h11 : F.fn 192) (hro : F.round = none) (hn : 1 ≤ n) (g : Nat) (lb : Array Value) (hFg : F.fn g) (eg : ∀ args w, (callFunc g args).run Tryz.prog w = .ok (.enter g args) w)
    (zs : List Int) (N : Nat) (hN : N ≤ 1000000) (w : World)
    (hseq : ∀ (l Bs D : Nat) (fn : FuncId) (sv : Value) (W : World), ApAt w fn sv Bs l D [] W →
      (∀ pre x W1, ApAt w fn sv Bs l D pre W1 → pre.length < N → YieldAt F (n - 1 - 1) Tryz.prog l #[val x] W1 fun e W' => e = .returned (.bool true) ∧ ApAt w fn sv Bs l D (pre ++ [x]) W' ∧ Below w.heap.size W1 W') →
      CallsIn F (n - 1) Tryz.prog g (#[.func (.yield l) #[] #[]] ++ lb) W fun e W' => (∃ v, e = .returned v) ∧ ApAt w fn sv Bs l D zs W') :
    CallsIn F n Tryz.prog 192 #[.slice none 0 0, .func (.func g) #[] lb] w fun e w' => ∃ v, e = .returned v ∧ OneRow w' w.heap.size 107 v zs.length (zs.map cel) ∧ (v = .slice none 0 0 ↔ zs = []) ∧ Below w.heap.size w w' := by
  refine callsIn_of_wp_marks Tryz.func192 rfl h11 ?_ hro
  simp only [Tryz.ntmps192, List.size_toArray, List.length_cons, List.length_nil, Nat.reduceAdd, Nat.reduceSub, Array.replicate_succ, Array.replicate_zero, List.push_toArray, List.append_toArray, List.nil_append, List.cons_append]
  gi_wp2
  refine wpIn_rangeFunc ?_
  intro fn hfn
  rw [hro]
  obtain ⟨W0, hW0⟩ : ∃ W0, w.alloc (.cells #[.slice none 0 0] 100) = W0 := ⟨_, rfl⟩
  have hs0 : W0.heap.size = w.heap.size + 1 := by rw [← hW0]; simp
  have hv0 : W0.heap[w.heap.size]? = some (.cells #[.slice none 0 0] 100 (0, 0)) := by rw [← hW0]; exact World.alloc_heap_new w _
  have hb0 : Below w.heap.size w W0 := by rw [← hW0]; exact (Below.refl _ w).alloc (Nat.le_refl _) _
  rw [hW0]
  obtain ⟨W1, hW1⟩ : ∃ W1, (W0.alloc (.deferred (some []))).alloc (.loop (apRec fn (.func (.func g) #[] lb) w.heap.size W0.heap.size .ready none)) = W1 := ⟨_, rfl⟩
  have hold : ∀ k, k < W0.heap.size → W1.heap[k]? = W0.heap[k]? := fun k hk => by
    rw [← hW1]; exact (Below.heap_alloc _ _ k (by simp; omega)).trans (Below.heap_alloc _ _ k hk)
  have hb1 : Below w.heap.size w W1 := by rw [← hW1]; exact (hb0.alloc hb0.size _).alloc (by have := hb0.size; simp; omega) _
  have hs1 : W1.heap.size = W0.heap.size + 2 := by rw [← hW1]; simp
  have hM : ApAt w fn (.func (.func g) #[] lb) w.heap.size (W0.heap.size + 1) W0.heap.size [] W1 :=
    ⟨⟨_, (hold w.heap.size (by omega)).trans hv0, OneRow.nil _ _ _, by simp⟩,
     by rw [← hW1]; have := World.alloc_heap_new (W0.alloc (.deferred (some []))) (.loop (apRec fn (.func (.func g) #[] lb) w.heap.size W0.heap.size .ready none)); rwa [World.size_alloc] at this,
     by rw [← hW1]; exact (Below.heap_alloc _ _ _ (by simp)).trans (World.alloc_heap_new W0 _), hb1⟩
  refine ⟨W0.heap.size + 1, [{ target := .collected W0.heap.size, args := #[] }], W1, { target := .fn (.func g) lb, args := #[.func (.yield (W0.heap.size + 1)) #[] #[]] }, W1, g,
    #[.func (.yield (W0.heap.size + 1)) #[] #[]] ++ lb, W1, ?_, ?_, ?_, ?_, fun _ => hn, ?_⟩
  · rw [← hW1]; exact run_enterLoop_outer _ _ _ _ _
  · simp [resolve, go_sem]
  · intro f' hf'; simp [Target.leads] at hf'; subst hf'; exact hFg
  · simp [invoke, go_sem, eg]
  · refine (hseq (W0.heap.size + 1) w.heap.size W0.heap.size fn (.func (.func g) #[] lb) W1 hM
      (fun pre x W hJ hl => zpk F (n - 1 - 1) w fn hfn _ w.heap.size (W0.heap.size + 1) W0.heap.size (by omega) (by omega) (by omega) (Nat.le_refl _) (by omega) N hN pre x W hJ hl)).mono ?_
    rintro e W2 ⟨⟨v0, rfl⟩, h2⟩
    obtain ⟨v, hv, hrow, hnil⟩ := h2.box
    have hend := run_endLoop (P := Tryz.prog) h2.L (by simp [apRec])
    obtain ⟨W3, hW3⟩ : ∃ W3, W2.putObj (W0.heap.size + 1) (.loop { apRec fn (.func (.func g) #[] lb) w.heap.size W0.heap.size .ready none with state := .exhausted }) = W3 := ⟨_, rfl⟩
    rw [hW3] at hend
    have hg3 : W2.grownBy W3 (some (W0.heap.size + 1)) := by rw [← hW3]; exact z16 _ _ _
    have hv3 : W3.heap[w.heap.size]? = some (.cells #[v] 100 (0, 0)) := by rw [← hW3]; exact (World.putObj_heap_other (by omega)).trans hv
    have hK3 : W3.heap[W0.heap.size]? = some (.deferred (some [])) := by rw [← hW3]; exact (World.putObj_heap_other (by omega)).trans h2.K
    have hrow3 := hrow.kept hg3 (zd1 hrow h2.L (fun cur e => by cases e))
    have hb3 : Below w.heap.size w W3 := h2.below.grown hg3 h2.below.size (fun k e => by cases e; omega)
    obtain ⟨hc3, hf3⟩ := z7j hv3
    clear hW3
    refine ⟨none, W3, hend, ?_⟩
    gi_wp2
    rw [← hs0]
    refine ⟨by simp, .inl ⟨_, _, rfl, run_takeDeferred hK3, ?_⟩⟩
    exact ⟨_, results_tmp rfl _ _ _, v, rfl, hrow3.kept (z16 _ _ _) (zd1 hrow3 hK3 (fun cur e => by cases e)), hnil, hb3.grown (z16 _ _ _) hb3.size (fun k e => by cases e; omega)⟩
theorem appendSeq_values (w:World)(Bs:Nat)(sv:Value)(zs:List Int)(hz:zs.length≤1000)(hBs:w.cell? ⟨Bs,0,none⟩=some sv)
  (hsv:(sv=.slice none 0 0∧zs=[])∨∃b off cap,sv=.slice (some ⟨b,off,none⟩) zs.length cap∧b<w.heap.size∧∀j,j<zs.length→w.cell? ⟨b,off+j,none⟩=some (cel (zs[j]?.getD 0))):
  Calls Tryz.prog 192 #[.slice none 0 0,.func (.func 170) #[] #[.pointer (some ⟨Bs,0,none⟩)]] w fun e w'=> ∃v,e=.returned v∧OneRow w' w.heap.size 107 v zs.length (zs.map cel)∧(v=.slice none 0 0↔zs=[])∧Below w.heap.size w w':=by
 have cell_lt: ∀{a:Addr} {v:Value},w.cell? a=some v→a.block<w.heap.size:=fun {a v} h=>by
  unfold World.cell? at h
  split at h
  ·next h1=>exact (Array.getElem?_eq_some_iff.1 h1).1
  ·simp at h
 have hBlt:=cell_lt hBs
 rw [←callsIn_wide (n:=3)]
 refine zfw Fence.wide 3 trivial rfl (by omega) 170 _ trivial (fun args w=>by simp [callFunc,Tryz.func170,Tryz.f170]) zs (zs.length+1) (by omega) w (fun l Bs' D fn sv' W hM hY=> ?_)
 have hBW:W.cell? ⟨Bs,0,none⟩=some sv:=(hM.below.cell (p:=⟨Bs,0,none⟩) hBlt).trans hBs
 rcases hsv with ⟨rfl,rfl⟩ | ⟨b,off,cap,rfl,hb,hc⟩
 ·exact (zg1 Fence.wide 2 trivial rfl l Bs _ W hBW hM)
 ·have hu:upto (fun j=>zs[j]?.getD 0) zs.length=zs:=by
   apply List.ext_getElem
   ·simp [upto]
   ·intro i h1 h2
    simp [upto,h2]
  have:=zno Fence.wide 2 trivial rfl (by omega) l Bs w.heap.size b off zs.length cap (fun j=>zs[j]?.getD 0) (by omega) hb (fun s W=>ApAt w fn sv' Bs' l D s W) (fun s W W' h hg=>zfz w fn sv' Bs' l D s W W' h hg) (fun s W h=>h.below.size)
   (fun pre x W h hl=>hY pre x W h (by omega)) W hBW (fun j hj=>(hM.below.cell (p:=⟨b,off+j,none⟩) hb).trans (hc j hj)) hM
  rw [hu] at this
  exact this
end Go.Proofs.YtdnmhlfjafjkbaaGreatDoor.Sq
