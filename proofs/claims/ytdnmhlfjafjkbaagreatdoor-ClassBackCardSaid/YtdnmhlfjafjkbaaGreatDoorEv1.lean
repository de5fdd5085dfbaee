/- What is proved: a checked way to run the functions of this program on values (the evaluator), and that each of its operations does what the model says. It holds for every program of the model. -/
import GoSem.Dispatch
import Derived.Laws.AppendOwn
import Derived.Laws.Entries
import Derived.Laws.IdiomCopy
import Derived.Below
import Derived.Orders
import Derived.Laws.StructEq
import Derived.Laws.NewBlocks
set_option linter.all false
namespace Go.Ev
theorem sI_.{u} {α:Type u} (a b:α):(some a=some b)=(a=b):=Option.some.injEq a b
inductive Tag where
 |any
 |full
 |own (t e:Nat)
 deriving DecidableEq,Inhabited
inductive AV where
 |any
 |v (x:Value)
 |ptr (l o:Nat)
 |eptr (e:AV) (o:Nat)
 |lst (g:Tag) (z:Nat) (xs:List AV)
 |rsl (l o n c z:Nat) (a:Bool)
 |fn (f:Fn) (first caps:List AV)
 |ifc (t:TypeId) (x:AV)
 |agg (cs:List AV)
 |tup (cs:List AV)
 deriving Inhabited
structure St where
 store:List (List AV)
 tips:List Nat
 deriving Inhabited
abbrev Env:=List (Nat×AV)
def Env.get:Env→Nat→AV
 | [],_=> .any
 |(i,a)::r,t=>if i=t then a else Env.get r t
def plainV:Value→Bool
 | .agg _=>false
 |_=>true
def ofVal:Value→AV
 | .agg cs=>if cs.toList.all plainV=true then .agg (cs.toList.map .v) else .any
 |x=> .v x
def aval (env:Env):Operand→AV
 | .tmp t=>env.get t
 | .const x=>ofVal x
 | .global _=> .any
 | .func f=> .fn (.func f) [] []
def avals (env:Env):List Operand→List AV
 | []=> []
 |x::r=>aval env x::avals env r
def AV.cells:AV→List AV
 | .agg cs=>cs
 |a=> [a]
def AV.shaped:AV→Bool
 | .any=>false
 |_=>true
def storable:AV→Bool
 | .any=>false
 | .tup _=>false
 | .agg _=>false
 | .v (.tuple _)=>false
 | .v (.agg _)=>false
 |_=>true
mutual
def untip:AV→AV
 | .any=> .any
 | .v x=> .v x
 | .ptr l o=> .ptr l o
 | .eptr e o=> .eptr e o
 | .lst _ z xs=> .lst .any z xs
 | .rsl l o n c z a=> .rsl l o n c z a
 | .fn f a b=> .fn f (untips a) (untips b)
 | .ifc t x=> .ifc t (untip x)
 | .agg cs=> .agg (untips cs)
 | .tup cs=> .tup (untips cs)
def untips:List AV→List AV
 | []=> []
 |a::r=>untip a::untips r
end
mutual
def pub:AV→AV
 | .any=> .any
 | .v x=> .v x
 | .ptr _ _=> .any
 | .eptr e o=> .eptr e o
 | .lst _ z xs=> .lst .any z xs
 | .rsl _ _ _ _ _ _=> .any
 | .fn f a b=> .fn f (pubs a) (pubs b)
 | .ifc t x=> .ifc t (pub x)
 | .agg cs=> .agg (pubs cs)
 | .tup cs=> .tup (pubs cs)
def pubs:List AV→List AV
 | []=> []
 |a::r=>pub a::pubs r
end
inductive IK where
 |move (x:Operand)
 |pick (c a b:Operand)
 |alloc (zs:List AV)
 |box (x:Operand)
 |build (zs:List AV) (ps:List (Nat×Nat×Operand))
 |lit (z:Nat) (ag:Bool) (zero:AV) (n:Nat) (ps:List (Nat×Operand))
 |litm (z:Nat) (ag:Bool) (zero:AV) (n:Nat) (ps:List (Nat×Operand))
 |load (s:Nat) (ag:Bool) (a:Operand)
 |store (s:Nat) (a x:Operand)
 |bin (op:BinOp) (q:Option Nat) (x y:Operand)
 |not (x:Operand)
 |neg (x:Operand)
 |conv (k:IntKind) (x:Operand)
 |nil (x:Operand)
 |iface (t:TypeId) (x:Operand)
 |assert (t:TypeId) (zero:AV) (ok:Bool) (x:Operand)
 |func (f:Fn) (a b:List Operand)
 |make (z:Nat) (ag:Bool) (zs:List AV) (l c:Operand)
 |slice (z:Nat) (x:Operand) (lo hi mx:Option Operand)
 |slicea (n z:Nat) (ag:Bool) (x:Operand) (lo hi mx:Option Operand)
 |fieldAddr (o:Nat) (x:Operand)
 |indexS (z:Nat) (x i:Operand)
 |indexA (n z:Nat) (x i:Operand)
 |extract (i:Nat) (x:Operand)
 |len (x:Operand)
 |min (x y:Operand)
 |max (x y:Operand)
 |min3 (x y z:Operand)
 |append (z:Nat) (r:Bool) (s y:Operand)
 |appendm (z:Nat) (ag:Bool) (s y:Operand)
 |field (o s:Nat) (ag:Bool) (x:Operand)
 |indexV (n z:Nat) (ag:Bool) (x i:Operand)
 |indexStr (x i:Operand)
 |die
 |loadp (ts:List Tmp) (s:Nat) (ag:Bool) (a:Operand)
 |storeq (ts:List Tmp) (s:Nat) (a x:Operand)
 |indexG (g n z:Nat) (tab:List Nat) (i:Operand)
 |call (p:Bool) (f:FuncId) (args:List Operand)
 |callv (p:Bool) (f:Operand) (args:List Operand)
 |callk (f:FuncId) (args:List Operand)
 |calll (f:FuncId) (args:List Operand)
 |callz (f:FuncId) (args:List Operand)
 |callr (f:FuncId) (args:List Operand)
 |invoke (tab:List (TypeId×FuncId)) (x:Operand) (args:List Operand)
 |clear (z:Nat) (zs:List AV) (x:Operand)
 |copy (z:Nat) (x y:Operand)
 |cap (x:Operand)
 |compl (x:Operand)
 |grow (z:Nat) (ag:Bool) (zs:List AV) (s n:Operand)
 deriving Inhabited
structure IOp where
 d:Option Tmp
 g:Option (Tmp×Bool)
 k:IK
 deriving Inhabited
inductive IC where
 |skip
 |ops (l:List IOp)
 |frz (ts:List Tmp)
 |frzp (ts:List Tmp)
 |lost (l:List IOp)
 |seq (a b:IC)
 |cond (c:Operand) (a b:IC)
 |block (id:Nat) (a:IC)
 |loop (gc:Bool) (keep:List Tmp) (a:IC)
 |exit (id:Nat)
 |ret
 deriving Inhabited
def readCells (ag:Bool) (s o:Nat) (cs:List AV):Option AV:=
 if ag then (if o+s≤cs.length then some (.agg ((cs.drop o).take s)) else none) else cs[o]?
def putCells (cs:List AV) (o:Nat):List AV→List AV
 | []=>cs
 |x::r=>putCells (cs.set o x) (o+1) r
def loadAV (s:Nat) (ag:Bool) (st:St):AV→Option AV
 | .ptr l o=>(st.store[l]?).bind (readCells ag s o)
 | .eptr e o=>readCells ag s o e.cells
 |_=>none
def storeAV (s:Nat) (st:St):AV→AV→Option St
 | .ptr l o,x=>
  if x.shaped=true∧x.cells.length=s∧x.cells.all storable=true then
   match st.store[l]? with
   |some cs=>if o+s≤cs.length then some ⟨st.store.set l (putCells cs o x.cells),st.tips⟩ else none
   |none=>none
  else none
 |_,_=>none
def intOp (op:BinOp) (k:IntKind) (a b:Int):Option AV:=
 match op with
 | .add=>some (.v (.int k (k.wrap (a+b))))
 | .sub=>some (.v (.int k (k.wrap (a-b))))
 | .mul=>some (.v (.int k (k.wrap (a*b))))
 | .quo=>if b=0 then none else some (.v (.int k (k.wrap (a.tdiv b))))
 | .rem=>if b=0 then none else some (.v (.int k (a.tmod b)))
 | .and=>some (.v (.int k (k.wrap (BitVec.ofInt k.bits a&&&BitVec.ofInt k.bits b).toNat)))
 | .or=>some (.v (.int k (k.wrap (BitVec.ofInt k.bits a|||BitVec.ofInt k.bits b).toNat)))
 | .xor=>some (.v (.int k (k.wrap (BitVec.ofInt k.bits a^^^BitVec.ofInt k.bits b).toNat)))
 | .andNot=>some (.v (.int k (k.wrap (BitVec.ofInt k.bits a&&& ~~~BitVec.ofInt k.bits b).toNat)))
 | .eql=>some (.v (.bool (a==b)))
 | .neq=>some (.v (.bool (a !=b)))
 | .lss=>some (.v (.bool (decide (a<b))))
 | .leq=>some (.v (.bool (decide (a≤b))))
 | .gtr=>some (.v (.bool (decide (a>b))))
 | .geq=>some (.v (.bool (decide (a≥b))))
 | .shl=>if b<0 then none else some (.v (.int k (k.wrap (a*2^(min b.toNat k.bits)))))
 | .shr=>if b<0 then none else some (.v (.int k (a.fdiv (2^(min b.toNat k.bits)))))
def isShift:BinOp→Bool
 | .shl| .shr=>true
 |_=>false
def cellEq:AV→AV→Option Bool
 | .v (.int k a),.v (.int k' b)=>if k=k' then some (a==b) else none
 |_,_=>none
def cellsEq:List AV→List AV→Option Bool
 | [],[]=>some true
 |x::xs,y::ys=>
  match cellEq x y,cellsEq xs ys with
  |some a,some b=>some (a&&b)
  |_,_=>none
 |_,_=>none
def boolOp (op:BinOp) (b:Bool):Option AV:=
 match op with
 | .eql=>some (.v (.bool b))
 | .neq=>some (.v (.bool !b))
 |_=>none
def binAV (op:BinOp) (q:Option Nat):AV→AV→Option AV
 | .v (.int k a),.v (.int k' b)=>if isShift op=true∨k=k' then intOp op k a b else none
 | .v (.bool a),.v (.bool b)=>if q=some 1 then boolOp op (a==b) else none
 | .lst _ _ _,.v (.slice none _ _)=>if q=some 0 then boolOp op false else none
 | .rsl _ _ _ _ _ _,.v (.slice none _ _)=>if q=some 0 then boolOp op false else none
 | .v (.slice none _ _),.v (.slice none _ _)=>if q=some 0 then boolOp op true else none
 | .agg xs,.agg ys=>
  match q,cellsEq xs ys with
  |some (n+2),some b=>if xs.length=n then boolOp op b else none
  |_,_=>none
 |_,_=>none
def goI (n:Nat):AV:=.v (.int .i64 n)
def lenAV:AV→Option AV
 | .lst _ _ xs=>some (goI xs.length)
 | .rsl _ _ n _ _ _=>some (goI n)
 | .v (.slice _ n _)=>some (goI n)
 |_=>none
def indexSAV (z:Nat):AV→AV→Option AV
 | .lst _ z' xs,.v (.int _ i)=>if z=z'∧0≤i then (xs[i.toNat]?).map (.eptr · 0) else none
 | .rsl l o n _ z' _,.v (.int _ i)=>if z=z'∧0≤i∧i<n then some (.ptr l (o+i.toNat*z)) else none
 |_,_=>none
def indexAAV (n z:Nat):AV→AV→Option AV
 | .ptr l o,.v (.int _ i)=>if 0≤i∧i<n then some (.ptr l (o+i.toNat*z)) else none
 | .eptr a o,.v (.int _ i)=>if 0≤i∧i<n then some (.eptr a (o+i.toNat*z)) else none
 |_,_=>none
def fieldAddrAV (f:Nat):AV→Option AV
 | .ptr l o=>some (.ptr l (o+f))
 | .eptr e o=>some (.eptr e (o+f))
 |_=>none
def maxGrow:Nat:=2^32
def appendAV (z:Nat) (s:AV) (ys:List AV) (st:St):Option (AV×St):=
 match s with
 | .v (.slice none 0 0)=>
  match ys with
  | []=>some (.v (.slice none 0 0),st)
  |y::r=>if (y::r).length≤maxGrow then some (.lst (.own st.tips.length (y::r).length) z (y::r),⟨st.store,st.tips++ [(y::r).length]⟩) else none
 | .lst g z' xs=>
  if z'=z then
   match ys with
   | []=>some (.lst g z xs,st)
   |y::r=>
    if xs.length+(y::r).length≤maxGrow then
     match g with
     | .full=>some (.lst (.own st.tips.length (xs.length+(y::r).length)) z (xs++y::r),⟨st.store,st.tips++ [xs.length+(y::r).length]⟩)
     | .own t e=>if st.tips[t]? =some e then some (.lst (.own t (e+(y::r).length)) z (xs++y::r),⟨st.store,st.tips.set t (e+(y::r).length)⟩) else none
     | .any=>none
    else none
  else none
 |_=>none
def cell1:AV→AV
 | .agg _=> .any
 |x=>x
def group (a:Bool) (z:Nat):Nat→List AV→List AV
 |0,_=> []
 |n+1,cs=>(if a then .agg (cs.take z) else cell1 (cs.headD .any))::group a z n (cs.drop z)
def elemsOf (z:Nat) (st:St):AV→Option (List AV)
 | .v (.slice none 0 0)=>some []
 | .lst _ z' xs=>if z'=z then some xs else none
 | .rsl l o n _ z' a=>if z'=z∧(a=true∨z=1) then (st.store[l]?).bind fun cs=>if o+n*z≤cs.length then some (group a z n (pubs (cs.drop o))) else none else none
 |_=>none
def flatAV (xs:List AV):List AV:=xs.flatMap AV.cells
def newM (z:Nat) (ag:Bool) (xs:List AV) (st:St):Option (AV×St):=
 if xs.length≤maxGrow then some (.rsl st.store.length 0 xs.length xs.length z ag,⟨st.store++ [flatAV xs],st.tips⟩) else none
def appendmAV (z:Nat) (ag:Bool) (s:AV) (ys:List AV) (st:St):Option (AV×St):=
 match s with
 | .v (.slice none 0 0)=>
  match ys with
  | []=>some (.v (.slice none 0 0),st)
  |y::r=>newM z ag (y::r) st
 | .lst .full z' xs=>
  if z'=z then
   match ys with
   | []=>some (.lst .full z xs,st)
   |y::r=>newM z ag (xs++y::r) st
  else none
 | .rsl l o n c z' a=>
  match st.store[l]? with
  |some cs=>
   if z'=z∧a=ag∧n≤c∧o+n*z≤cs.length∧0<cs.length then
    if n+ys.length≤c then
     if o+(n+ys.length)*z≤cs.length then some (.rsl l o (n+ys.length) c z a,⟨st.store.set l (cs.take (o+n*z)++flatAV ys++cs.drop (o+n*z+(flatAV ys).length)),st.tips⟩) else none
    else if o=0∧n+ys.length≤maxGrow∧c<n+ys.length then
     some (.rsl st.store.length 0 (n+ys.length) (n+ys.length) z a,⟨st.store.set l []++ [cs.take (n*z)++flatAV ys],st.tips⟩)
    else none
   else none
  |none=>none
 |_=>none
def natOf:AV→Option Nat
 | .v (.int _ i)=>if 0≤i then some i.toNat else none
 |_=>none
def natOr (d:Nat):Option AV→Option Nat
 |none=>some d
 |some a=>natOf a
def tagSlice (g:Tag) (l h n:Nat):Tag:=
 match g with
 | .any=> .any
 | .full=>if h=n∧l<h then .full else .any
 | .own t e=>if h=n∧l=0∧0<h then .own t e else .any
def sliceAV (y:Nat) (s:AV) (lo hi mx:Option AV):Option AV:=
 match s with
 | .lst g z xs=>
  if y=z then
  match natOr 0 lo,natOr xs.length hi,mx with
  |some l,some h,none=>if l≤h∧h≤xs.length then some (.lst (tagSlice g l h xs.length) z ((xs.take h).drop l)) else none
  |some l,some h,some m=>
   match natOf m with
   |some m=>if l≤h∧h≤xs.length∧m=h∧hi.isSome=true then some (.lst .full z ((xs.take h).drop l)) else none
   |none=>none
  |_,_,_=>none
  else none
 | .rsl l o n c z a=>
  match natOr 0 lo,natOr n hi,natOr c mx with
  |some x,some h,some m=>if y=z∧x≤h∧h≤m∧m≤c∧(mx.isSome=true→hi.isSome=true)∧(mx.isSome=true∨x<m∨x=0) then some (.rsl l (if m=x then o else o+x*z) (h-x) (m-x) z a) else none
  |_,_,_=>none
 | .v (.slice none 0 0)=>
  match natOr 0 lo,natOr 0 hi,natOr 0 mx with
  |some 0,some 0,some 0=>if mx.isSome=true→hi.isSome=true then some (.v (.slice none 0 0)) else none
  |_,_,_=>none
 |_=>none
def sliceaAV (n z:Nat) (ag:Bool) (x:AV) (lo hi mx:Option AV):Option AV:=
 match x with
 | .ptr l o=>
  match natOr 0 lo,natOr n hi,natOr n mx with
  |some a,some h,some m=>if a≤h∧h≤m∧m≤n∧(mx.isSome=true→hi.isSome=true) then some (.rsl l (if m=a then o else o+a*z) (h-a) (m-a) z ag) else none
  |_,_,_=>none
 |_=>none
def minAV:AV→AV→Option AV
 | .v (.int k a),.v (.int _ b)=>some (.v (.int k (if b<a then b else a)))
 |_,_=>none
def maxAV:AV→AV→Option AV
 | .v (.int k a),.v (.int _ b)=>some (.v (.int k (if b>a then b else a)))
 |_,_=>none
def setParts:List AV→List (Nat×Nat×AV)→Option (List AV)
 |cs,[]=>some cs
 |cs,(o,s,x)::r=>if x.shaped=true∧x.cells.length=s∧o+s≤cs.length then setParts (putCells cs o x.cells) r else none
def isAgg:AV→Bool
 | .agg _=>true
 |_=>false
def setElems (z:Nat) (ag:Bool):List AV→List (Nat×AV)→Option (List AV)
 |xs,[]=>some xs
 |xs,(i,x)::r=>if x.shaped=true∧x.cells.length=z∧isAgg x=ag∧x.cells.all storable=true∧i<xs.length then setElems z ag (xs.set i (pub x)) r else none
def makeAV (z:Nat) (ag:Bool) (zs:List AV) (st:St) (l c:AV):Option (AV×St):=
 match natOf l,natOf c with
 |some l,some c=>if l≤c∧c≤maxGrow then some (.rsl st.store.length 0 l c z ag,⟨st.store++ [(List.replicate c zs).flatten],st.tips⟩) else none
 |_,_=>none
def growAV (z:Nat) (ag:Bool) (zs:List AV) (st:St) (s n:AV):Option (AV×St):=
 match s with
 | .v (.slice none 0 0)=>if natOf n=some 0 then none else makeAV z ag zs st n n
 |_=>none
def assertAV (t:TypeId) (zero:AV) (ok:Bool):AV→Option AV
 | .ifc u y=>if u=t then some (if ok then .tup [y,.v (.bool true)] else y) else if ok then some (.tup [zero,.v (.bool false)]) else none
 | .v .nilIface=>if ok then some (.tup [zero,.v (.bool false)]) else none
 |_=>none
def withO (env:Env) (ps:List (Nat×Operand)):List (Nat×AV):=ps.map fun (i,x)=>(i,aval env x)
def withO2 (env:Env) (ps:List (Nat×Nat×Operand)):List (Nat×Nat×AV):=ps.map fun (i,s,x)=>(i,s,aval env x)
abbrev CallF:=FuncId→List AV→St→Option (AV×St)
def fieldAV (o s:Nat) (ag:Bool):AV→Option AV
 | .agg cs=>readCells ag s o cs
 |_=>none
def indexVAV (n z:Nat) (ag:Bool):AV→AV→Option AV
 | .agg cs,.v (.int _ i)=>if 0≤i∧i<n then readCells ag z (i.toNat*z) cs else none
 |_,_=>none
def bytesAV (tab:List Nat):AV:=.agg (tab.map fun (b:Nat)=> .v (.int .u8 (b:Int)))
def indexStrAV:AV→AV→Option AV
 | .v (.string s),.v (.int _ i)=>if 0≤i then (s[i.toNat]?).map fun b=> .v (.int .u8 b.toNat) else none
 |_,_=>none
def capAV:AV→Option AV
 | .v (.slice none 0 0)=>some (goI 0)
 | .lst .full _ xs=>some (goI xs.length)
 |_=>none
def valAV (env:Env):IK→Option AV
 | .move x=>some (aval env x)
 | .pick c a b=>
  match aval env c with
  | .v (.bool c)=>some (if c then aval env a else aval env b)
  |_=>none
 | .build zs ps=>
  match setParts zs (withO2 env ps) with
  |some cs=>some (.agg cs)
  |none=>none
 | .lit z ag zero n ps=>
  match setElems z ag (List.replicate n zero) (withO env ps) with
  |some xs=>some (.lst .full z xs)
  |none=>none
 | .bin op q x y=>binAV op q (aval env x) (aval env y)
 | .not x=>
  match aval env x with
  | .v (.bool b)=>some (.v (.bool !b))
  |_=>none
 | .neg x=>
  match aval env x with
  | .v (.int k n)=>some (.v (.int k (k.wrap (0-n))))
  |_=>none
 | .conv k x=>
  match aval env x with
  | .v (.int _ n)=>some (.v (.int k (k.wrap n)))
  |_=>none
 | .nil x=>
  match aval env x with
  | .ptr l o=>some (.ptr l o)
  | .eptr e o=>some (.eptr e o)
  |_=>none
 | .iface t x=>some (.ifc t (aval env x))
 | .assert t zero ok x=>assertAV t zero ok (aval env x)
 | .func f a b=>some (.fn f (avals env a) (avals env b))
 | .slice z x lo hi mx=>sliceAV z (aval env x) (lo.map (aval env)) (hi.map (aval env)) (mx.map (aval env))
 | .slicea n z ag x lo hi mx=>sliceaAV n z ag (aval env x) (lo.map (aval env)) (hi.map (aval env)) (mx.map (aval env))
 | .fieldAddr f x=>fieldAddrAV f (aval env x)
 | .indexS z x i=>indexSAV z (aval env x) (aval env i)
 | .indexA n z x i=>indexAAV n z (aval env x) (aval env i)
 | .extract i x=>
  match aval env x with
  | .tup cs=>cs[i]?
  |_=>none
 | .len x=>lenAV (aval env x)
 | .cap x=>capAV (aval env x)
 | .compl x=>
  match aval env x with
  | .v (.int k n)=>binAV .xor none (.v (.int k (if k.signed then -1 else k.max))) (.v (.int k n))
  |_=>none
 | .min x y=>minAV (aval env x) (aval env y)
 | .max x y=>maxAV (aval env x) (aval env y)
 | .min3 x y z=>
  match minAV (aval env x) (aval env y) with
  |some a=>minAV a (aval env z)
  |none=>none
 | .field o s ag x=>fieldAV o s ag (aval env x)
 | .indexV n z ag x i=>indexVAV n z ag (aval env x) (aval env i)
 | .indexStr x i=>indexStrAV (aval env x) (aval env i)
 | .indexG _ n z tab i=>indexAAV n z (.eptr (bytesAV tab) 0) (aval env i)
 |_=>none
def only (x:Option AV) (st:St):Option (AV×St):=
 match x with
 |some a=>some (a,st)
 |none=>none
mutual
def shV (n:Nat):AV→AV
 | .any=> .any
 | .v x=> .v x
 | .ptr l o=> .ptr (n+l) o
 | .eptr e o=> .eptr e o
 | .lst _ z xs=> .lst .any z xs
 | .rsl l o k c z a=> .rsl (n+l) o k c z a
 | .fn f a b=> .fn f (shVs n a) (shVs n b)
 | .ifc t x=> .ifc t (shV n x)
 | .agg cs=> .agg (shVs n cs)
 | .tup cs=> .tup (shVs n cs)
def shVs (n:Nat):List AV→List AV
 | []=> []
 |a::r=>shV n a::shVs n r
end
def shStore (n:Nat):List (List AV)→List (List AV)
 | []=> []
 |a::r=>shVs n a::shStore n r
def ownTop (st1:St):AV→Bool
 | .lst (.own t e) _ xs=>st1.tips[t]? ==some e&&xs.length==e
 |_=>false
def keepR (n T:Nat) (st1:St) (r:AV):AV:=
 match r with
 | .lst (.own t e) z xs=>if ownTop st1 (.lst (.own t e) z xs)=true then .lst (.own T e) z xs else .lst .any z xs
 | .lst .full z xs=> .lst .full z xs
 |r=>shV n r
def keepT (st1:St) (r:AV):List Nat:=
 match r with
 | .lst (.own t e) z xs=>if ownTop st1 (.lst (.own t e) z xs)=true then [e] else []
 |_=> []
def lockR (st1:St) (r:AV):AV×St:=
 match r with
 | .rsl l 0 n c z a=>
  match st1.store[l]? with
  |some (x::cs)=>if n*z≤(x::cs).length∧(a=true∨z=1)∧n=c then (.lst (.own 0 n) z (group a z n (pubs (x::cs))),⟨[],[n]⟩) else (r,st1)
  |_=>(r,st1)
 |r=>(r,st1)
def plainR:AV→Bool
 | .v _=>true
 | .tup xs=>xs.all fun| .v _=>true|_=>false
 |_=>false
def offB (env:Env) (ts:List Tmp):AV→Bool
 | .ptr l _=>ts.all fun t=>match env.get t with| .ptr l' _=>l' !=l|_=>true
 |_=>false
def onB (env:Env) (ts:List Tmp):AV→Bool
 | .ptr l _=>ts.any fun t=>match env.get t with| .ptr l' _=>l'==l|_=>false
 | .eptr _ _=>true
 |_=>false
def plainEq:AV→AV→Bool
 | .v (.int k n),.v (.int k' n')=>decide (k=k'∧n=n')
 | .v (.bool a),.v (.bool b)=>a==b
 |_,_=>false
def cellsAre:List AV→List AV→Bool
 | [],[]=>true
 |a::r,b::s=>plainEq a b&&cellsAre r s
 |_,_=>false
def sameSt (st:St):AV→AV→Bool
 | .ptr l o,x=>match st.store[l]? with
  |some cs=>cellsAre ((cs.drop o).take x.cells.length) x.cells
  |none=>false
 |_,_=>false
def isRsl:AV→Bool
 | .rsl _ _ _ _ _ _=>true
 |_=>false
mutual
def frzV (l:Nat) (cs:List AV):AV→AV
 | .rsl l' o n c z a=>if l'=l∧o+n*z≤cs.length∧(a=true∨z=1)∧n≤c then .lst .any z (group a z n (pubs (cs.drop o))) else .rsl l' o n c z a
 | .agg xs=> .agg (frzVs l cs xs)
 | .tup xs=> .tup (frzVs l cs xs)
 | .any=> .any
 | .v x=> .v x
 | .ptr l o=> .ptr l o
 | .eptr e o=> .eptr e o
 | .lst g z xs=> .lst g z xs
 | .fn f a b=> .fn f a b
 | .ifc t x=> .ifc t x
def frzVs (l:Nat) (cs:List AV):List AV→List AV
 | []=> []
 |a::r=>frzV l cs a::frzVs l cs r
end
def frzEnv (l:Nat) (cs:List AV):Env→Env
 | []=> []
 |(t,a)::r=>(t,frzV l cs a)::frzEnv l cs r
def frzStore (l:Nat) (cs:List AV):List (List AV)→List (List AV)
 | []=> []
 |a::r=>frzVs l cs a::frzStore l cs r
def frzL (l:Nat) (env:Env) (st:St):Env×St:=
 match st.store[l]? with
 |some (c::cs)=>(frzEnv l (c::cs) env,⟨(frzStore l (c::cs) st.store).set l [],st.tips⟩)
 |_=>(env,st)
def rslsOf:List AV→List Nat
 | []=> []
 | .rsl l _ _ _ _ _::r=>l::rslsOf r
 | .agg xs::r=>(xs.filterMap fun| .rsl l _ _ _ _ _=>some l|_=>none)++rslsOf r
 |_::r=>rslsOf r
def frzA (l:Nat) (st:St) (a:AV):AV:=
 match st.store[l]? with
 |some (c::cs)=>frzV l (c::cs) a
 |_=>a
def frzArgs:List Nat→List AV→St→List AV×St
 | [],xs,st=>(xs,st)
 |l::r,xs,st=>frzArgs r (xs.map (frzA l st)) (frzL l [] st).2
def frzT (t:Tmp) (env:Env) (st:St):List Nat:=
 match env.get t with
 | .ptr l _=>match st.store[l]? with
  |some cs=>rslsOf cs
  |none=> []
 |a=>rslsOf [a]
def frzLs:List Nat→Env→St→Env×St
 | [],env,st=>(env,st)
 |l::r,env,st=>frzLs r (frzL l env st).1 (frzL l env st).2
def frzAV:List Tmp→Env→St→Env×St
 | [],env,st=>(env,st)
 |t::r,env,st=>frzAV r (frzLs (frzT t env st) env st).1 (frzLs (frzT t env st) env st).2
def frzP1 (t:Tmp) (env:Env) (st:St):Env×St:=
 match env.get t with
 | .ptr l o=>match st.store[l]? with
  |some (c::cs)=>((t,.eptr (.agg (pubs (c::cs))) o)::env,⟨st.store.set l [],st.tips⟩)
  |_=>(env,st)
 |_=>(env,st)
def frzPs:List Tmp→Env→St→Env×St
 | [],env,st=>(env,st)
 |t::r,env,st=>frzPs r (frzP1 t env st).1 (frzP1 t env st).2
def clearAV (z:Nat) (zs:List AV) (st:St):AV→Option St
 | .rsl l o n _ z' _=>if z'=z then (if n=0 then some st else storeAV (n*z) st (.ptr l o) (.agg (List.replicate n zs).flatten)) else none
 | .v (.slice none _ _)=>some st
 |_=>none
def copyAV (z:Nat) (st:St) (ys:List AV):AV→Option (AV×St)
 | .rsl l o n _ z' _=>
  if z'=z then
   match st.store[l]? with
   |some cs=>if 0<cs.length∧o+Nat.min ys.length n*z≤cs.length then some (goI (Nat.min ys.length n),⟨st.store.set l (putCells cs o (flatAV (ys.take (Nat.min ys.length n)))),st.tips⟩) else none
   |none=>none
  else none
 | .v (.slice none 0 0)=>some (goI 0,st)
 |_=>none
def findT (t:TypeId):List (TypeId×FuncId)→Option FuncId
 | []=>none
 |(u,f)::r=>if u=t then some f else findT t r
section
variable (pure:FuncId→Bool) (call:CallF)
def opAV (env:Env) (st:St):IK→Option (AV×St)
 | .alloc zs=>some (.ptr st.store.length 0,⟨st.store++ [zs],st.tips⟩)
 | .box x=>if (aval env x).shaped=true∧(aval env x).cells.all storable=true then some (.ptr st.store.length 0,⟨st.store++ [(aval env x).cells],st.tips⟩) else none
 | .load s ag a=>only (loadAV s ag st (aval env a)) st
 | .store s a x=>
  match storeAV s st (aval env a) (aval env x) with
  |some st=>some (.v (.tuple #[]),st)
  |none=>none
 | .loadp ts s ag a=>if onB env ts (aval env a)=true then only (loadAV s ag st (aval env a)) st else none
 | .storeq ts s a x=>
  if offB env ts (aval env a)=true∨sameSt st (aval env a) (aval env x)=true then
   match storeAV s st (aval env a) (aval env x) with
   |some st=>some (.v (.tuple #[]),st)
   |none=>none
  else none
 | .make z ag zs l c=>makeAV z ag zs st (aval env l) (aval env c)
 | .grow z ag zs s n=>growAV z ag zs st (aval env s) (aval env n)
 | .litm z ag zero n ps=>
  match setElems z ag (List.replicate n zero) (withO env ps) with
  |some xs=>newM z ag xs st
  |none=>none
 | .append z r s y=>
  if r=true∨isRsl (aval env y)=false then
   match elemsOf z st (aval env y) with
   |some ys=>appendAV z (aval env s) ys st
   |none=>none
  else none
 | .appendm z ag s y=>
  match elemsOf z st (aval env y) with
  |some ys=>appendmAV z ag (aval env s) ys st
  |none=>none
 | .call p f args=>if p=pure f then call f (avals env args) st else none
 | .callk f args=>
  if pure f=false then
   match call f (pubs (avals env args)) ⟨[],[]⟩ with
   |some (r,st1)=>some (keepR st.store.length st.tips.length st1 r,⟨st.store++shStore st.store.length st1.store,st.tips++keepT st1 r⟩)
   |none=>none
  else none
 | .calll f args=>
  if pure f=false then
   match call f (pubs (avals env args)) ⟨[],[]⟩ with
   |some (r,st1)=>some (keepR st.store.length st.tips.length (lockR st1 r).2 (lockR st1 r).1,⟨st.store++shStore st.store.length (lockR st1 r).2.store,st.tips++keepT (lockR st1 r).2 (lockR st1 r).1⟩)
   |none=>none
  else none
 | .callz f args=>
  if pure f=true then
   match call f (frzArgs (rslsOf (avals env args)) (avals env args) st).1 (frzArgs (rslsOf (avals env args)) (avals env args) st).2 with
   |some (r,st2)=>if st2.tips=(frzArgs (rslsOf (avals env args)) (avals env args) st).2.tips then some (r,(frzArgs (rslsOf (avals env args)) (avals env args) st).2) else none
   |none=>none
  else none
 | .callr f args=>
  if pure f=true then
   match call f (frzArgs (rslsOf (avals env args)) (avals env args) st).1 (frzArgs (rslsOf (avals env args)) (avals env args) st).2 with
   |some (r,st2)=>if st2.tips=(frzArgs (rslsOf (avals env args)) (avals env args) st).2.tips∧plainR r=true then some (r,st) else none
   |none=>none
  else none
 | .invoke tab x args=>
  match aval env x with
  | .ifc t y=>
   match findT t tab with
   |some f=>if pure f=false then call f (y::avals env args) st else none
   |none=>none
  |_=>none
 | .clear z zs x=>
  match clearAV z zs st (aval env x) with
  |some st=>some (.v (.tuple #[]),st)
  |none=>none
 | .copy z x y=>
  match elemsOf z st (aval env y) with
  |some ys=>copyAV z st ys (aval env x)
  |none=>none
 | .callv p f args=>
  match aval env f with
  | .fn (.func f) first caps=>if p=pure f then call f (first++avals env args++caps) st else none
  |_=>none
 |k=>only (valAV env k) st
def wantedAV (env:Env):Option (Tmp×Bool)→Option Bool
 |none=>some true
 |some (t,want)=>
  match env.get t with
  | .v (.bool b)=>some (b==want)
  | .v _=>some false
  |_=>none
def setD (env:Env) (d:Option Tmp) (a:AV):Env:=
 match d with
 |some d=>(d,a)::env
 |none=>env
def opsAV:List IOp→Env→St→Option (Env×St)
 | [],env,st=>some (env,st)
 |o::r,env,st=>
  match wantedAV env o.g with
  |some true=>
   match opAV pure call env st o.k with
   |some (a,st)=>opsAV r (setD env o.d a) st
   |none=>none
  |some false=>opsAV r (setD env o.d (.v (.tuple #[]))) st
  |none=>none
inductive X where
 |normal
 |exit (id:Nat)
 |ret
 deriving DecidableEq
def canon (env:Env):List Tmp→Env
 | []=> []
 |t::r=>(t,env.get t)::canon env r
mutual
def okRef (n:Nat):AV→Bool
 | .ptr l _=>decide (l<n)
 | .rsl l _ _ _ _ _=>decide (l<n)
 | .fn _ a b=>okRefs n a&&okRefs n b
 | .ifc _ x=>okRef n x
 | .agg cs=>okRefs n cs
 | .tup cs=>okRefs n cs
 | .any=>true
 | .v _=>true
 | .eptr _ _=>true
 | .lst _ _ _=>true
def okRefs (n:Nat):List AV→Bool
 | []=>true
 |a::r=>okRef n a&&okRefs n r
end
def okEnv (n:Nat):Env→Bool
 | []=>true
 |(_,a)::r=>okRef n a&&okEnv n r
def okStore (n:Nat):List (List AV)→Bool
 | []=>true
 |a::r=>okRefs n a&&okStore n r
def cutSt (n:Nat) (env:Env) (st:St):St:=
 if okEnv n env=true∧okStore n (st.store.take n)=true then ⟨st.store.take n,st.tips⟩ else st
def ren1 (n:Nat) (tips:List Nat) (acc:List (Nat×Nat)):AV→AV×List (Nat×Nat)
 | .lst (.own t e) z xs=>
  if t<n then (.lst (.own t e) z xs,acc)
  else if tips[t]? =some e∧acc.all (fun p=>p.1 !=t)=true then (.lst (.own (n+acc.length) xs.length) z xs,acc++ [(t,xs.length)])
  else (.lst .any z xs,acc)
 | .lst .any z xs=>(.lst .any z xs,acc)
 | .lst .full z xs=>(.lst .full z xs,acc)
 | .v x=>(.v x,acc)
 | .ptr l o=>(.ptr l o,acc)
 | .rsl l o k c z a=>(.rsl l o k c z a,acc)
 | .eptr e o=>(.eptr e o,acc)
 | .any=>(.any,acc)
 | .fn f a b=>(.fn f (untips a) (untips b),acc)
 | .ifc t x=>(.ifc t (untip x),acc)
 | .agg cs=>(.agg (untips cs),acc)
 | .tup cs=>(.tup (untips cs),acc)
def renEnv (n:Nat) (tips:List Nat):List (Nat×Nat)→Env→Env×List (Nat×Nat)
 |acc,[]=>([],acc)
 |acc,(t,a)::r=>((t,(ren1 n tips acc a).1)::(renEnv n tips (ren1 n tips acc a).2 r).1,(renEnv n tips (ren1 n tips acc a).2 r).2)
def renCells (n:Nat) (tips:List Nat):List (Nat×Nat)→List AV→List AV×List (Nat×Nat)
 |acc,[]=>([],acc)
 |acc,a::r=>((ren1 n tips acc a).1::(renCells n tips (ren1 n tips acc a).2 r).1,(renCells n tips (ren1 n tips acc a).2 r).2)
def renStore (n:Nat) (tips:List Nat):List (Nat×Nat)→List (List AV)→List (List AV)×List (Nat×Nat)
 |acc,[]=>([],acc)
 |acc,a::r=>((renCells n tips acc a).1::(renStore n tips (renCells n tips acc a).2 r).1,(renStore n tips (renCells n tips acc a).2 r).2)
def renAll (n:Nat) (env:Env) (st:St):Env×St:=
 ((renEnv n st.tips [] env).1,⟨(renStore n st.tips (renEnv n st.tips [] env).2 st.store).1,st.tips.take n++(renStore n st.tips (renEnv n st.tips [] env).2 st.store).2.map (·.2)⟩)
mutual
def refsV (n:Nat) (acc:List Nat):AV→List Nat
 | .ptr l _=>if l<n∨acc.contains l=true then acc else acc++ [l]
 | .rsl l _ _ _ _ _=>if l<n∨acc.contains l=true then acc else acc++ [l]
 | .fn _ a b=>refsL n (refsL n acc a) b
 | .ifc _ x=>refsV n acc x
 | .agg cs=>refsL n acc cs
 | .tup cs=>refsL n acc cs
 | .any=>acc
 | .v _=>acc
 | .eptr _ _=>acc
 | .lst _ _ _=>acc
def refsL (n:Nat) (acc:List Nat):List AV→List Nat
 | []=>acc
 |a::r=>refsL n (refsV n acc a) r
end
def refsEnv (n:Nat) (acc:List Nat):Env→List Nat
 | []=>acc
 |(_,a)::r=>refsEnv n (refsV n acc a) r
def refsStore (n:Nat) (acc:List Nat):List (List AV)→List Nat
 | []=>acc
 |a::r=>refsStore n (refsL n acc a) r
def refsAt (n:Nat) (st:St):List Nat→List Nat→List Nat
 |acc,[]=>acc
 |acc,l::r=>refsAt n st (refsL n acc ((st.store[l]?).getD [])) r
def posOf (l:Nat):List Nat→Option Nat
 | []=>none
 |x::r=>if x=l then some 0 else (posOf l r).map (· +1)
def newName (n:Nat) (M:List Nat) (l:Nat):Option Nat:=if l<n then some l else (posOf l M).map (n+ ·)
mutual
def mapL (n:Nat) (M:List Nat):AV→AV
 | .ptr l o=>match newName n M l with
  |some l'=> .ptr l' o
  |none=> .any
 | .rsl l o k c z a=>match newName n M l with
  |some l'=> .rsl l' o k c z a
  |none=> .any
 | .fn f a b=> .fn f (mapLs n M a) (mapLs n M b)
 | .ifc t x=> .ifc t (mapL n M x)
 | .agg cs=> .agg (mapLs n M cs)
 | .tup cs=> .tup (mapLs n M cs)
 | .any=> .any
 | .v x=> .v x
 | .eptr e o=> .eptr e o
 | .lst g z xs=> .lst g z xs
def mapLs (n:Nat) (M:List Nat):List AV→List AV
 | []=> []
 |a::r=>mapL n M a::mapLs n M r
end
def mapEnv (n:Nat) (M:List Nat):Env→Env
 | []=> []
 |(t,a)::r=>(t,mapL n M a)::mapEnv n M r
def mapStore (n:Nat) (M:List Nat):List (List AV)→List (List AV)
 | []=> []
 |a::r=>mapLs n M a::mapStore n M r
def pickStore (st:St):List Nat→List (List AV)
 | []=> []
 |l::r=>(st.store[l]?).getD []::pickStore st r
def namesOk (n:Nat):List Nat→Bool
 | []=>true
 |l::r=>decide (n≤l)&& !r.contains l&&namesOk n r
def compactW (n:Nat) (M:List Nat) (env:Env) (st:St):Env×St:=
 if namesOk n M=true then (mapEnv n M env,⟨mapStore n M (st.store.take n)++mapStore n M (pickStore st M),st.tips⟩) else (env,st)
def compact (n:Nat) (env:Env) (st:St):Env×St:=
 compactW n (refsAt n st (refsStore n (refsEnv n [] env) (st.store.take n)) (refsStore n (refsEnv n [] env) (st.store.take n))) env st
def hasKey:Env→Bool
 | []=>false
 |(t,_)::r=>if t=3000000 then true else hasKey r
def gcAV (gc:Bool) (l n:Nat) (env:Env) (st:St):Env×St:=
 if gc then (if hasKey env=true then renAll n (compact l env st).1 (compact l env st).2 else renAll n env (cutSt l env st)) else (env,st)
mutual
def noL:AV→Bool
 | .lst _ _ _=>false
 | .eptr _ _=>false
 | .fn _ a b=>noLs a&&noLs b
 | .ifc _ x=>noL x
 | .agg cs=>noLs cs
 | .tup cs=>noLs cs
 | .any=>true
 | .v _=>true
 | .ptr _ _=>true
 | .rsl _ _ _ _ _ _=>true
def noLs:List AV→Bool
 | []=>true
 |a::r=>noL a&&noLs r
end
def visB (cs:List AV):Bool:= !cs.isEmpty&&noLs cs
def visN (st:St) (l:Nat):Bool:=
 match st.store[l]? with
 |some cs=>visB cs
 |none=>false
mutual
def visR (st:St):AV→Bool
 | .ptr l _=>visN st l
 | .rsl l _ _ _ _ _=>visN st l
 | .fn _ a b=>visRs st a&&visRs st b
 | .ifc _ x=>visR st x
 | .agg cs=>visRs st cs
 | .tup cs=>visRs st cs
 | .any=>true
 | .v _=>true
 | .lst _ _ _=>true
 | .eptr _ _=>true
def visRs (st:St):List AV→Bool
 | []=>true
 |a::r=>visR st a&&visRs st r
end
def hideV (st:St) (a:AV):AV:=if visR st a=true then a else .any
def hideEnv (st:St):Env→Env
 | []=> []
 |(t,a)::r=>(t,hideV st a)::hideEnv st r
def hideC (st:St) (cs:List AV):List AV:=if visB cs=true then cs.map (hideV st) else []
def hideSt (st:St):St:=⟨st.store.map (hideC st),st.tips⟩
def mergeS:List (List AV)→List (List AV)→List (List AV)
 | [],ys=>ys
 |_::_,[]=> []
 |x::xs,y::ys=>(if visB x=true then y else x)::mergeS xs ys
def noLB:List (List AV)→Bool
 | []=>true
 |a::r=>noLs a&&noLB r
def forgot:List IOp→Env→Env
 | [],env=>env
 |o::r,env=>setD (forgot r env) o.d .any
abbrev Out:=Option (X×Env×St)
abbrev LoopF:=(Env→St→Out)→Env→St→Out
def codeAV (loop:LoopF):IC→Env→St→Out
 | .skip,env,st=>some (.normal,env,st)
 | .ops l,env,st=>
  match opsAV pure call l env st with
  |some (env,st)=>some (.normal,env,st)
  |none=>none
 | .frz ts,env,st=>some (.normal,(frzAV ts env st).1,(frzAV ts env st).2)
 | .frzp ts,env,st=>some (.normal,(frzPs ts env st).1,(frzPs ts env st).2)
 | .lost l,env,st=>
  match opsAV pure call l (hideEnv st env) (hideSt st) with
  |some (_,st1)=>if noLB st1.store=true then some (.normal,forgot l env,⟨mergeS st.store st1.store,st.tips⟩) else none
  |none=>none
 | .seq a b,env,st=>
  match codeAV loop a env st with
  |some (.normal,env,st)=>codeAV loop b env st
  |r=>r
 | .cond c a b,env,st=>
  match aval env c with
  | .v (.bool t)=>if t then codeAV loop a env st else codeAV loop b env st
  |_=>none
 | .block i a,env,st=>
  match codeAV loop a env st with
  |some (.exit j,env,st)=>if j=i then some (.normal,env,st) else some (.exit j,env,st)
  |r=>r
 | .loop gc ks a,env,st=>loop (fun env' st'=>codeAV loop a (gcAV gc st.store.length st.tips.length (canon env' ks) st').1 (gcAV gc st.store.length st.tips.length (canon env' ks) st').2) env st
 | .exit i,env,st=>some (.exit i,env,st)
 | .ret,env,st=>some (.ret,env,st)
end
def loopAV (body:Env→St→Out):Nat→Env→St→Out
 |0,_,_=>none
 |n+1,env,st=>
  match body env st with
  |some (.normal,env,st)=>loopAV body n env st
  |r=>r
structure IF where
 code:IC
 res:List (Tmp×Option (Nat×Bool))
 deriving Inhabited
def resAV (env:Env) (st:St):List (Tmp×Option (Nat×Bool))→Option (List AV)
 | []=>some []
 |(t,none)::r=>
  match resAV env st r with
  |some xs=>some (env.get t::xs)
  |none=>none
 |(t,some (s,ag))::r=>
  match loadAV s ag st (env.get t),resAV env st r with
  |some x,some xs=>some (x::xs)
  |_,_=>none
def tupAV:List AV→AV
 | [x]=>x
 |xs=> .tup xs
def params:Nat→List AV→Env
 |_,[]=> []
 |i,a::r=>(i,a)::params (i+1) r
mutual
def fin (st:St):AV→AV
 | .rsl l o n c z a=>
  match st.store[l]? with
  |some cs=>if o+n*z≤cs.length∧(a=true∨z=1)∧n≤c then .lst .any z (group a z n (pubs (cs.drop o))) else .any
  |none=> .any
 | .agg cs=> .agg (fins st cs)
 | .tup cs=> .tup (fins st cs)
 | .any=> .any
 | .v x=> .v x
 | .ptr _ _=> .any
 | .eptr e o=> .eptr e o
 | .lst _ z xs=> .lst .any z xs
 | .fn f a b=> .fn f (pubs a) (pubs b)
 | .ifc t x=> .ifc t (pub x)
def fins (st:St):List AV→List AV
 | []=> []
 |a::r=>fin st a::fins st r
end
def leave (st1:St) (st:St) (r:AV):AV×St:=(fin st1 r,st)
def bodyAV (pure:FuncId→Bool) (call:CallF) (loop:LoopF) (fn:IF) (args:List AV) (st:St):Option (AV×St):=
 match codeAV pure call loop fn.code (params 0 args) st with
 |some (.normal,env,st)=>
  match resAV env st fn.res with
  |some r=>some (tupAV r,st)
  |none=>none
 |some (.ret,env,st)=>
  match resAV env st fn.res with
  |some r=>some (tupAV r,st)
  |none=>none
 |_=>none
structure Lib where
 fns:FuncId→Option IF
 pure:FuncId→Bool
 prim:FuncId→List AV→St→Option (AV×St):=fun _ _ _=>none
def primAV (L:Lib) (f:FuncId) (args:List AV) (st:St):Option (AV×St):=
 match L.prim f args st with
 |some (r,st')=>if L.pure f=false∧st.store.length≤st'.store.length∧st.tips.length≤st'.tips.length then some (r,st') else none
 |none=>none
def enterAV (L:Lib) (call:CallF) (loop:LoopF) (f:FuncId) (args:List AV) (st:St):Option (AV×St):=
 match L.fns f with
 |some fn=>
  if L.pure f then
   match bodyAV L.pure call loop fn (pubs args) ⟨[],[]⟩ with
   |some (r,st1)=>some (leave st1 st r)
   |none=>none
  else bodyAV L.pure call loop fn args st
 |none=>primAV L f args st
def callAV (L:Lib):Nat→CallF
 |0=>fun _ _ _=>none
 |n+1=>enterAV L (callAV L n) (fun b=>loopAV b n)
def plainT (P:Program) (t:TypeId):Bool:=
 match P.underlying t with
 |some (.int _)=>true
 |_=>false
def sizeT (P:Program) (t:TypeId):Option Nat:=(P.info? t).map (·.size)
def isAggT (P:Program) (t:TypeId):Option Bool:=
 match P.underlying t with
 |some (.struct _)=>some true
 |some (.array _ _)=>some true
 |some _=>some false
 |none=>none
def zeroT (P:Program) (t:TypeId):Option Value:=(P.info? t).bind (·.zero)
def eqT (P:Program) (t:TypeId):Option Nat:=
 match P.underlying t with
 |some (.slice _)=>some 0
 |some .bool=>some 1
 |some (.array n e)=>if plainT P e&&sizeT P e==some 1&&P.eqGuardType P.depth t==false then some (n+2) else none
 | some (.struct fs) => if fs.toList.zipIdx.all (fun (f, i) => f.name != "_" && plainT P f.type && f.offset == i) && !P.stoodInHeld t && P.eqGuardType P.depth t == false then some (fs.size + 2) else none
 |_=>none
def zcells (v:Value):List AV:=v.cells.toList.map .v
def zeroOk (z:Nat) (ag:Bool) (v:Value):Bool:=v.cells.size==z&&(v.cells.toList.map AV.v).all storable&&(match v with| .agg _=>ag|_=> !ag)
abbrev Mode:=Bool×List FuncId×Bool×(Nat→List Nat)
def methodOf? (P:Program) (name:String) (t:TypeId):Option FuncId:=
 match P.underlying t,P.info? t with
 |some (.pointer _),some i=>
  match i.methods.find? (·.name==name) with
  |some m=>if m.path.isEmpty=true then (match m.func with|some (f,true)=>some f|_=>none) else none
  |none=>none
 |_,_=>none
def invokeTab (P:Program) (name:String):List (TypeId×FuncId):=(List.range P.types.size).filterMap fun t=>(methodOf? P name t).map fun f=>(t,f)
def compOp (P:Program) (pure:FuncId→Bool) (pv rs:Bool) (mt:Mode) (o:Op):Option IK:=
 match o with
 | .move x| .assign x=>some (.move x)
 | .pick c a b=>some (.pick c a b)
 | .alloc t=>(zeroT P t).bind fun v=>if (zcells v).all storable=true then some (.alloc (zcells v)) else none
 | .box _ x=>some (.box x)
 | .build t ps=>
  match zeroT P t,P.underlying t with
  |some zero,some (.struct fs)=>
   if (zcells zero).all storable=true then
   if fs.all (fun (f:Field)=>(sizeT P f.type).isSome) then
    (ps.toList.mapM fun (p:Nat×Operand)=>(fs[p.1]?).bind fun (f:Field)=>(sizeT P f.type).map fun s=>(f.offset,s,p.2)).map (.build (zcells zero))
   else none
   else none
  |some zero,some (.array _ e)=>if (zcells zero).all storable=true then (sizeT P e).map fun s=> .build (zcells zero) (ps.toList.map fun (p:Nat×Operand)=>(p.1*s,s,p.2)) else none
  |_,_=>none
 | .buildSlice t n ps=>
  match P.underlying t with
  |some (.slice e)=>
   match sizeT P e,isAggT P e,zeroT P e with
   |some z,some ag,some zero=>if zeroOk z ag zero&&decide (n*z≤2^20)&&decide (0<z) then some (if mt.1&&mt.2.1.contains 9000000 then .litm z ag (ofVal zero) n ps.toList else .lit z ag (ofVal zero) n ps.toList) else none
   |_,_,_=>none
  |_=>none
 | .load t a=>
  match sizeT P t,isAggT P t with
  |some s,some ag=>some (.load s ag a)
  |_,_=>none
 | .store t a x=>(sizeT P t).bind fun s=>if 0<s then some (.store s a x) else none
 | .nilCheck x=>some (.nil x)
 | .binOp op t x y _=>some (.bin op (eqT P t) x y)
 | .unOp .not _ x=>some (.not x)
 | .unOp .neg _ x=>some (.neg x)
 | .unOp .xor _ x=>some (.compl x)
 | .convert s d x=>
  match P.underlying s,P.underlying d with
  |some _,some (.int k)=>some (.conv k x)
  |_,_=>none
 | .makeInterface t x=>
  match P.underlying t with
  |some (.interface _)=>none
  |some _=>some (.iface t x)
  |none=>none
 | .makeFunc f a b=>some (.func f a.toList b.toList)
 | .makeSlice t l c=>
  match P.underlying t with
  |some (.slice e)=>
   match P.info? e,isAggT P e,zeroT P e with
   |some i,some ag,some zero=>if zeroOk i.size ag zero&&decide (i.bytes≤2^12)&&decide (0<i.size) then some (.make i.size ag (zcells zero) l c) else none
   |_,_,_=>none
  |_=>none
 | .slice t x lo hi mx=>
  match P.underlying t with
  |some (.slice e)=>(sizeT P e).map fun z=> .slice z x lo hi mx
  |some (.array n e)=>
   match sizeT P e,isAggT P e with
   |some z,some ag=>some (.slicea n z ag x lo hi mx)
   |_,_=>none
  |_=>none
 | .fieldAddr t x f=>
  match P.underlying t with
  |some (.struct fs)=>
   match fs[f]? with
   |some f=>if (sizeT P f.type).any (0< ·) then some (.fieldAddr f.offset x) else none
   |none=>none
  |_=>none
 | .field t x f=>
  match P.underlying t with
  |some (.struct fs)=>
   match fs[f]? with
   |some f=>
    match sizeT P f.type,isAggT P f.type with
    |some s,some ag=>some (.field f.offset s ag x)
    |_,_=>none
   |none=>none
  |_=>none
 | .indexAddr t x i=>
  match P.underlying t with
  |some (.slice e)=>(sizeT P e).map fun z=> .indexS z x i
  |some (.array n e)=>
   match x with
   | .global g=>(sizeT P e).bind fun z=>if mt.2.2.2 g≠[] then some (.indexG g n z (mt.2.2.2 g) i) else none
   |x=>(sizeT P e).map fun z=> .indexA n z x i
  |_=>none
 | .index t x i=>
  match P.underlying t with
  |some (.array n e)=>
   match sizeT P e,isAggT P e with
   |some z,some ag=>some (.indexV n z ag x i)
   |_,_=>none
  |some .string=>some (.indexStr x i)
  |_=>none
 | .typeAssert x _ t ok=>
  match P.underlying t with
  |some (.interface _)=>none
  |some _=>(zeroT P t).map fun z=> .assert t (ofVal z) ok x
  |none=>none
 | .extract x i=>some (.extract i x)
 | .panic _=>some .die
 | .call c=>
  match c.callee,c.args.toList with
  | .builtin .len,[x]=>
   match (c.argTypes[0]?).bind P.underlying with
   |some (.slice _)=>some (.len x)
   |_=>none
  | .builtin .cap,[x]=>
   match (c.argTypes[0]?).bind P.underlying with
   |some (.slice _)=>some (.cap x)
   |_=>none
  | .builtin .clear,[x]=>
   match (c.argTypes[0]?).bind P.underlying with
   |some (.slice e)=>
    match P.info? e,isAggT P e,zeroT P e with
    |some i,some ag,some zero=>if zeroOk i.size ag zero&&decide (0<i.size) then some (.clear i.size (zcells zero) x) else none
    |_,_,_=>none
   |_=>none
  | .builtin .copy,[x,y]=>
   match (c.argTypes[0]?).bind P.underlying with
   |some (.slice e)=>(sizeT P e).bind fun z=>if 0<z then some (.copy z x y) else none
   |_=>none
  | .invoke x name,args=>some (.invoke (invokeTab P name) x args)
  | .builtin .min,[x,y]=>some (.min x y)
  | .builtin .max,[x,y]=>some (.max x y)
  | .builtin .min,[x,y,z]=>some (.min3 x y z)
  | .builtin .append,[x,y]=>
   match (c.argTypes[0]?).bind P.underlying,c.argTypes[1]? with
   |some (.slice e),some u=>
    match P.info? e,isAggT P e,zeroT P e,P.underlying u with
    |some i,some ag,some zero,some (.slice _)=>if zeroOk i.size ag zero&&decide (i.bytes≤2^12)&&decide (0<i.size) then some (if mt.1 then .appendm i.size ag x y else .append i.size rs x y) else none
    |some i,some ag,some zero,some (.int _)=>if mt.1&&zeroOk i.size ag zero&&decide (i.bytes≤2^12)&&decide (0<i.size) then some (.grow i.size ag (zcells zero) x y) else none
    |_,_,_,_=>none
   |_,_=>none
  | .value (.func f),args=>some (if mt.2.1.contains f then (if pure f then .callz f args else .callk f args) else if mt.2.1.contains (f+1000000)&& !pure f then .calll f args else if mt.2.1.contains (f+2000000)&&pure f then .callr f args else .call (pure f) f args)
  | .value f,args=>some (.callv pv f args)
  |_,_=>none
 |_=>none
def uses:IK→Nat
 | .alloc _| .box _| .load _ _ _| .make _ _ _ _ _| .grow _ _ _ _ _| .store _ _ _| .storeq _ _ _ _=>1
 | .append _ r _ _=>if r then 3 else 2
 | .appendm _ _ _ _| .clear _ _ _| .copy _ _ _=>1
 | .litm _ _ _ _ _=>1
 | .callz _ _| .callr _ _| .invoke _ _ _=>3
 | .call p _ _=>if p then 2 else 3
 | .callv p _ _=>if p then 2 else 3
 | .callk _ _| .calll _ _=>3
 |_=>0
def turns:IK→Nat
 | .store _ _ _=>1
 | .storeq _ _ _ _=>1
 | .append _ _ _ _=>2
 | .appendm _ _ _ _| .clear _ _ _| .copy _ _ _=>1
 | .callz _ _| .callr _ _| .invoke _ _ _=>3
 | .call p _ _=>if p then 0 else 3
 | .callv p _ _=>if p then 0 else 3
 |_=>0
def compIOp (P:Program) (pure:FuncId→Bool) (pv rs:Bool) (mt:Mode) (nt:Nat) (ops:Array Oper) (o:Oper):Option IOp:=
 match compOp P pure pv rs mt o.op with
 |some k=>
  if o.dst.all (· <nt) then
   match o.guard with
   |none=>some ⟨o.dst,none,k⟩
   |some (j,want)=>
    match (ops[j]?).bind (·.dst) with
    |some t=>some ⟨o.dst,some (t,want),k⟩
    |none=>none
  else none
 |none=>none
def opds:Operand→List Tmp
 | .tmp t=> [t]
 |_=> []
def opdsO:Option Operand→List Tmp
 |some x=>opds x
 |none=> []
def opdsL:List Operand→List Tmp
 | []=> []
 |x::r=>opds x++opdsL r
def ikOps:IK→List Tmp
 | .move x| .box x| .load _ _ x| .not x| .neg x| .compl x| .conv _ x| .nil x| .iface _ x| .assert _ _ _ x| .fieldAddr _ x| .extract _ x| .len x| .field _ _ _ x| .indexG _ _ _ _ x| .clear _ _ x| .cap x=>opds x
 | .pick c a b| .min3 c a b=>opds c++opds a++opds b
 | .alloc _| .die=> []
 | .loadp ts _ _ a=>opds a++ts
 | .storeq ts _ a x=>opds a++opds x++ts
 | .build _ ps=>opdsL (ps.map (·.2.2))
 | .lit _ _ _ _ ps=>opdsL (ps.map (·.2))
 | .litm _ _ _ _ ps=>opdsL (ps.map (·.2))
 | .store _ a x| .bin _ _ a x| .make _ _ _ a x| .grow _ _ _ a x| .indexS _ a x| .indexA _ _ a x| .min a x| .max a x| .append _ _ a x| .appendm _ _ a x| .indexV _ _ _ a x| .indexStr a x| .copy _ a x=>opds a++opds x
 | .func _ a b=>opdsL a++opdsL b
 | .slice _ x lo hi mx| .slicea _ _ _ x lo hi mx=>opds x++opdsO lo++opdsO hi++opdsO mx
 | .call _ _ args| .callk _ args| .calll _ args| .callz _ args| .callr _ args=>opdsL args
 | .callv _ f args| .invoke _ f args=>opds f++opdsL args
def looks (o:IOp):List Tmp:=(match o.g with|some (t,_)=> [t]|none=> [])++ikOps o.k
def conf (a b:IOp):Bool:=
 !((turns a.k&&&uses b.k==0)&&(turns b.k&&&uses a.k==0)&&a.d.all (fun d=> !(looks b).contains d&&b.d !=some d)&&b.d.all (fun d=> !(looks a).contains d))
def orderOk (ops:Array Oper) (ks:List IOp):Bool:=
 let b:=Region.before ops
 (List.range ops.size).all fun j=>
  ((ops[j]?).map fun o=>o.after.all fun e=> !Region.binds .any e||decide (e.on<j)).getD false&&
  (List.range j).all fun i=>
   match ks[i]?,ks[j]? with
   |some ki,some kj=>(b.getD j 0).testBit i|| !conf ki kj
   |_,_=>false
def compRegion (P:Program) (pure:FuncId→Bool) (mt:Mode) (nt:Nat) (ops:Array Oper) (draw:Bool):Option (List IOp):=
 match draw with
 |false=>ops.toList.mapM (compIOp P pure mt.2.2.1 true mt nt ops)
 |true=>
  match ops.toList.mapM (compIOp P pure mt.2.2.1 false mt nt ops) with
  |some l=>if orderOk ops l then some l else
   match ops.toList.mapM (compIOp P pure true false mt nt ops) with
   |some l=>if orderOk ops l then some l else none
   |none=>none
  |none=>none
def isVal:IK→Bool
 | .alloc _| .box _| .load _ _ _| .store _ _ _| .make _ _ _ _ _| .grow _ _ _ _ _| .litm _ _ _ _ _| .append _ _ _ _| .appendm _ _ _ _| .call _ _ _| .callv _ _ _| .callk _ _| .calll _ _| .loadp _ _ _ _| .storeq _ _ _ _| .callz _ _| .callr _ _| .invoke _ _ _| .clear _ _ _| .copy _ _ _=>false
 |_=>true
def protOp (ts:List Tmp) (l:List IOp) (o:IOp):IOp:=
 match o.k with
 | .load s ag (.tmp t)=>
  if ts.contains t||l.any fun o'=>o'.d==some t&&(match o'.k with| .indexA _ _ (.tmp r) _=>ts.contains r| .fieldAddr _ (.tmp r)=>ts.contains r| .indexS _ _ _=>ts.contains 999999|_=>false) then ⟨o.d,o.g,.loadp ts s ag (.tmp t)⟩ else o
 | .store s a x=>⟨o.d,o.g,.storeq ts s a x⟩
 |_=>o
def qOk (ts:List Tmp) (ks:List IOp):Bool:=ks.all fun o=>
 (match o.k with
 | .storeq ts' _ _ _=>ts'==ts
 | .loadp ts' _ _ _=>ts'==ts
 | .load _ _ _=>true
 |k=>isVal k)&&o.d.all fun d=> !ts.contains d
def compRegionQ (P:Program) (pure:FuncId→Bool) (mt:Mode) (nt:Nat) (ts:List Tmp) (ops:Array Oper) (draw:Bool):Option (List IOp):=
 match ts with
 | []=>compRegion P pure mt nt ops draw
 |ts=>
  match ops.toList.mapM (compIOp P pure mt.2.2.1 false mt nt ops) with
  |some l=>if qOk ts (l.map (protOp ts l))=true∧orderOk ops (l.map (protOp ts l))=true then some (l.map (protOp ts l)) else none
  |none=>none
def mutKey:Nat:=2000000
def mutRKey:Nat:=1700000
def frzKey:Nat:=1000000
def keptKey:Nat:=2000001
def pvKey:Nat:=2000002
def gcKey:Nat:=2000003
def glKey:Nat:=4000000
def qKey:Nat:=3000000
def scKey:Nat:=1500000
def kept (l:List (Nat×List Nat)) (b:Nat):List Tmp:=match l.find? (fun x=>x.1==b) with|some x=>x.2|none=> []
def compC (P:Program) (pure:FuncId→Bool) (keep:Nat→List Tmp) (gc:Bool) (nt:Nat):Nat→Code→Option IC
 |_,.skip=>some .skip
 |_,.region id ops draw=>(compRegionQ P pure (!(keep mutKey).isEmpty|| !(keep (mutRKey+id)).isEmpty,keep keptKey,!(keep pvKey).isEmpty,fun g=>keep (glKey+g)) nt (keep (qKey+id)) ops draw).map fun l=>match keep (frzKey+id) with
  | []=>if (keep (scKey+id)).isEmpty then .ops l else .lost l
  |ts=>if ts.headD 0<500000 then .seq (.frz ts) (.ops l) else if ts.headD 0<900000 then .seq (.frzp (ts.map (· -500000))) (.ops l) else .seq (.frz (ts.map (· -1000000))) (.seq (.frzp (ts.map (· -1000000))) (.ops l))
 |b,.seq x y=>
  match compC P pure keep gc nt b x,compC P pure keep gc nt b y with
  |some x,some y=>some (.seq x y)
  |_,_=>none
 |b,.cond c x y=>
  match compC P pure keep gc nt b x,compC P pure keep gc nt b y with
  |some x,some y=>some (.cond c x y)
  |_,_=>none
 |_,.block i x=>(compC P pure keep gc nt i x).map (.block i)
 |b,.loop x=>(compC P pure keep gc nt b x).map (.loop gc (keep b))
 |b,.scope x=>compC P pure keep gc nt b x
 |_,.label _=>some .skip
 |_,.exit i=>some (.exit i)
 |_,.ret=>some .ret
 |_,_=>none
def compRes (P:Program):ResultVar→Option (Tmp×Option (Nat×Bool))
 | .tmp t=>some (t,none)
 | .cell a t=>
  match sizeT P t,isAggT P t with
  |some s,some ag=>some (a,some (s,ag))
  |_,_=>none
def compF (P:Program) (pure:FuncId→Bool) (keep:Nat→List Tmp) (f:FuncId):Option IF:=
 match P.funcs[f]? with
 |some fn=>
  match fn.body with
  |some c=>
   match compC P pure keep (pure f|| !(keep gcKey).isEmpty) fn.ntmps 0 c,fn.results.toList.mapM (compRes P) with
   | some c, some r => if fn.name == "runtime.NumGoroutine" then none else some ⟨c, r⟩
   |_,_=>none
  |none=>none
 |none=>none
end Go.Ev
namespace Go.Ev
structure Kx where
 lm:Nat→Option Nat
 tk:Nat→Option Nat
 T:List Nat
def Kx.nil:Kx:=⟨fun _=>none,fun _=>none,[]⟩
abbrev Us:=Nat→Option Nat
def CellsAt (w:World) (c p:Nat) (vs:List Value):Prop:=∀i (h:i<vs.length),w.cell? ⟨c,p+i,none⟩=some vs[i]
def Tagged (us:Us) (w:World) (K:Kx) (g:Tag) (c p n cap z:Nat):Prop:=
 match g with
 | .any=>True
 | .full=>cap=n
 | .own t e=> ∃m,K.T[t]? =some m∧e≤m∧(e=m→p=0∧K.tk t=some c∧us c=some (n*z)∧n≤cap∧∃cur ty,w.heap[c]? =some (.cells cur ty (0,0))∧cap*z≤cur.size)
def flat (xs:List AV):List AV:=xs.flatMap AV.cells
def SizeAt (w:World) (c n:Nat):Prop:=∃cur ty,w.heap[c]? =some (.cells cur ty (0,0))∧cur.size=n
inductive Rel (us:Us) (w:World):Kx→AV→Value→Prop
 |any (K x):Rel us w K .any x
 |v (K x) (h:plainV x=true):Rel us w K (.v x) x
 |ptr (K l o c) (h:K.lm l=some c):Rel us w K (.ptr l o) (.pointer (some ⟨c,o,none⟩))
 |eptr (K e o c p n) (vs:List Value) (hu:us c=some n) (hn:p+vs.length≤n) (hc:CellsAt w c p vs) (h1: ∀x∈vs,x.oneCell'=true)
  (hl:e.cells.length=vs.length) (hr: ∀i (h:i<e.cells.length) (h':i<vs.length),Rel us w .nil e.cells[i] vs[i]):
  Rel us w K (.eptr e o) (.pointer (some ⟨c,p+o,none⟩))
 |lst (K g z xs c p n cap) (vs:List Value) (hu:us c=some n) (hn:p+vs.length≤n) (hc:CellsAt w c p vs) (h1: ∀x∈vs,x.oneCell'=true)
  (hz: ∀x∈xs,x.cells.length=z) (hcap:xs.length≤cap) (hl:(flat xs).length=vs.length)
  (hr: ∀i (h:i<(flat xs).length) (h':i<vs.length),Rel us w .nil (flat xs)[i] vs[i])
  (ht:Tagged us w K g c p xs.length cap z):Rel us w K (.lst g z xs) (.slice (some ⟨c,p,none⟩) xs.length cap)
 |rsl (K l o n c z a b cap) (h:K.lm l=some b) (hx:cap=c∨(c≤cap∧∃m,SizeAt w b m∧o+cap*z≤m)):Rel us w K (.rsl l o n c z a) (.slice (some ⟨b,o,none⟩) n cap)
 |fn (K f a b) (va vb:List Value) (ha:a.length=va.length) (hb:b.length=vb.length)
  (hra: ∀i (h:i<a.length) (h':i<va.length),Rel us w K a[i] va[i])
  (hrb: ∀i (h:i<b.length) (h':i<vb.length),Rel us w K b[i] vb[i]):Rel us w K (.fn f a b) (.func f va.toArray vb.toArray)
 |ifc (K t a x) (h:Rel us w K a x):Rel us w K (.ifc t a) (.iface t x)
 |agg (K cs) (vs:List Value) (hl:cs.length=vs.length) (hr: ∀i (h:i<cs.length) (h':i<vs.length),Rel us w K cs[i] vs[i]):
  Rel us w K (.agg cs) (.agg vs.toArray)
 |tup (K cs) (vs:List Value) (hl:cs.length=vs.length) (hr: ∀i (h:i<cs.length) (h':i<vs.length),Rel us w K cs[i] vs[i]):
  Rel us w K (.tup cs) (.tuple vs.toArray)
structure Rels (us:Us) (w:World) (K:Kx) (as:List AV) (vs:List Value):Prop where
 len:as.length=vs.length
 rel: ∀i (h:i<as.length) (h':i<vs.length),Rel us w K as[i] vs[i]
theorem Rels.nil {us w K}:Rels us w K [] []:=⟨rfl,fun i h _=>absurd h (by simp)⟩
theorem Rels.cons {us w K a x as vs} (h:Rel us w K a x)(hs:Rels us w K as vs):Rels us w K (a::as) (x::vs):=by
 refine ⟨by simp [hs.len],fun i h1 h2=> ?_⟩
 cases i with
 |zero=>simpa using h
 |succ i=>simpa using hs.rel i (by simpa using h1) (by simpa using h2)
theorem Rels.cons_inv {us w K a as vs} (hs:Rels us w K (a::as) vs): ∃x r,vs=x::r∧Rel us w K a x∧Rels us w K as r:=by
 cases vs with
 |nil=>exact absurd hs.len (by simp)
 |cons x r=>
  refine ⟨x,r,rfl,hs.rel 0 (by simp) (by simp),⟨by simpa using hs.len,fun i h h'=> ?_⟩⟩
  have:=hs.rel (i+1) (by simpa using h) (by simpa using h')
  simp only [List.getElem_cons_succ] at this
  exact this
theorem Rels.nil_inv {us w K vs} (hs:Rels us w K [] vs):vs=[]:=List.eq_nil_of_length_eq_zero hs.len.symm
theorem Rels.append {us w K as vs bs us'} (h:Rels us w K as vs)(h':Rels us w K bs us'):Rels us w K (as++bs) (vs++us'):=by
 induction as generalizing vs with
 |nil=>rw [h.nil_inv];simpa using h'
 |cons a r ih=>
  obtain ⟨x,r',rfl,h1,h2⟩:=h.cons_inv
  exact .cons h1 (ih h2)
theorem Rels.take {us w K as vs} (h:Rels us w K as vs)(n:Nat):Rels us w K (as.take n) (vs.take n):=
 ⟨by simp [h.len],fun i h1 h2=>by simpa using h.rel i (by simp at h1;omega) (by simp at h2;omega)⟩
theorem Rels.drop {us w K as vs} (h:Rels us w K as vs)(n:Nat):Rels us w K (as.drop n) (vs.drop n):=
 ⟨by simp [h.len],fun i h1 h2=>by simpa using h.rel (n+i) (by simp at h1;omega) (by simp at h2;omega)⟩
theorem Rels.get {us w K as vs} (h:Rels us w K as vs) {i:Nat} {a:AV} (ha:as[i]? =some a): ∃x,vs[i]? =some x∧Rel us w K a x:=by
 obtain ⟨hi,rfl⟩:=List.getElem?_eq_some_iff.1 ha
 have hi':i<vs.length:=by rw [←h.len];exact hi
 exact ⟨vs[i],List.getElem?_eq_getElem hi',h.rel i hi hi'⟩
theorem Rels.set {us w K as vs} (h:Rels us w K as vs)(i:Nat) {a x} (ha:Rel us w K a x):Rels us w K (as.set i a) (vs.set i x):=by
 refine ⟨by simp [h.len],fun j h1 h2=> ?_⟩
 simp only [List.getElem_set]
 split
 ·exact ha
 ·exact h.rel j (by simpa using h1) (by simpa using h2)
def UsLe (us:Us) (w:World) (us':Us) (w':World):Prop:=
 ∀c n,us c=some n→∃n',us' c=some n'∧n≤n'∧∀i,i<n→w'.cell? ⟨c,i,none⟩=w.cell? ⟨c,i,none⟩
structure KLe (us:Us) (w:World) (K:Kx) (us':Us) (w':World) (K':Kx):Prop where
 lm: ∀l c,K.lm l=some c→K'.lm l=some c∧∀n,SizeAt w c n→SizeAt w' c n
 T: ∀t m,K.T[t]? =some m→∃m',K'.T[t]? =some m'∧m≤m'∧(m'=m→∀c,K.tk t=some c→K'.tk t=some c∧us' c=us c∧∀n,SizeAt w c n→SizeAt w' c n)
theorem UsLe.refl (us w):UsLe us w us w:=fun _ n h=>⟨n,h,Nat.le_refl _,fun _ _=>rfl⟩
theorem UsLe.trans {us w us1 w1 us2 w2} (h:UsLe us w us1 w1)(h':UsLe us1 w1 us2 w2):UsLe us w us2 w2:=by
 intro c n hc
 obtain ⟨n1,h1,l1,c1⟩:=h c n hc
 obtain ⟨n2,h2,l2,c2⟩:=h' c n1 h1
 exact ⟨n2,h2,Nat.le_trans l1 l2,fun i hi=>(c2 i (by omega)).trans (c1 i hi)⟩
theorem KLe.refl (us w K):KLe us w K us w K:=⟨fun _ _ h=>⟨h,fun _ h=>h⟩,fun _ m h=>⟨m,h,Nat.le_refl _,fun _ _ h=>⟨h,rfl,fun _ h=>h⟩⟩⟩
theorem KLe.nil (us w us' w' K'):KLe us w .nil us' w' K':=⟨fun _ _ h=>by simp [Kx.nil] at h,fun _ _ h=>by simp [Kx.nil] at h⟩
theorem KLe.trans {us w K us1 w1 K1 us2 w2 K2} (h:KLe us w K us1 w1 K1)(h':KLe us1 w1 K1 us2 w2 K2):KLe us w K us2 w2 K2:=by
 refine ⟨fun l c hl=>⟨(h'.lm l c (h.lm l c hl).1).1,fun n hn=>(h'.lm l c (h.lm l c hl).1).2 n ((h.lm l c hl).2 n hn)⟩,fun t m hm=> ?_⟩
 obtain ⟨m1,h1,l1,e1⟩:=h.T t m hm
 obtain ⟨m2,h2,l2,e2⟩:=h'.T t m1 h1
 refine ⟨m2,h2,Nat.le_trans l1 l2,fun e=> ?_⟩
 have e3:m1=m:=by omega
 have e4:m2=m1:=by omega
 intro c hc
 obtain ⟨k1,a1,b1⟩:=e1 e3 c hc
 obtain ⟨k2,a2,b2⟩:=e2 e4 c k1
 exact ⟨k2,a2.trans a1,fun n hn=>b2 n (b1 n hn)⟩
theorem CellsAt.mono {us w us' w'} (hu:UsLe us w us' w') {c p n:Nat} {vs:List Value} (h:us c=some n)(hn:p+vs.length≤n)(hc:CellsAt w c p vs):CellsAt w' c p vs:=by
 obtain ⟨n',_,_,hcell⟩:=hu c n h
 intro i hi
 rw [hcell (p+i) (by omega)]
 exact hc i hi
theorem Tagged.mono {us w K us' w' K'} (hK:KLe us w K us' w' K') {g c p n cap z} (h:Tagged us w K g c p n cap z):Tagged us' w' K' g c p n cap z:=by
 cases g with
 |any=>trivial
 |full=>exact h
 |own t e=>
  obtain ⟨m,hm,he,htip⟩:=h
  obtain ⟨m',hm',hle,hsame⟩:=hK.T t m hm
  refine ⟨m',hm',by omega,fun e'=> ?_⟩
  have e1:m'=m:=by omega
  obtain ⟨h1,h2,h3,h4,cur,ty,h5,h6⟩:=htip (by omega)
  obtain ⟨k1,k3,k4⟩:=hsame e1 c h2
  obtain ⟨cur',ty',h7,h8⟩:=k4 _ ⟨cur,ty,h5,rfl⟩
  exact ⟨h1,k1,k3.trans h3,h4,cur',ty',h7,by omega⟩
theorem Rel.mono {us w us' w'} (hu:UsLe us w us' w') {K a x} (h:Rel us w K a x): ∀{K'},KLe us w K us' w' K'→Rel us' w' K' a x:=by
 induction h with
 |any K x=>intro K' _;exact .any K' x
 |v K x h=>intro K' _;exact .v K' x h
 |ptr K l o c h=>intro K' hK;exact .ptr K' l o c (hK.lm l c h).1
 |eptr K e o c p n vs hu1 hn hc h1 hl hr ih=>
  intro K' hK
  obtain ⟨n',hn1,hn2,_⟩:=hu c n hu1
  exact .eptr K' e o c p n' vs hn1 (by omega) (hc.mono hu hu1 hn) h1 hl (fun i h h'=>ih i h h' (KLe.nil _ _ _ _ _))
 |lst K g z xs c p n cap vs hu1 hn hc h1 hz hcap hl hr ht ih=>
  intro K' hK
  obtain ⟨n',hn1,hn2,_⟩:=hu c n hu1
  exact .lst K' g z xs c p n' cap vs hn1 (by omega) (hc.mono hu hu1 hn) h1 hz hcap hl (fun i h h'=>ih i h h' (KLe.nil _ _ _ _ _)) (ht.mono hK)
 |rsl K l o n c z a b cap h hx=>
  intro K' hK
  exact .rsl K' l o n c z a b cap (hK.lm l b h).1 (hx.imp (fun h=>h) fun ⟨h1,m,h2,h3⟩=>⟨h1,m,(hK.lm l b h).2 m h2,h3⟩)
 |fn K f a b va vb ha hb _ _ iha ihb=>intro K' hK;exact .fn K' f a b va vb ha hb (fun i h h'=>iha i h h' hK) (fun i h h'=>ihb i h h' hK)
 |ifc K t a x _ ih=>intro K' hK;exact .ifc K' t a x (ih hK)
 |agg K cs vs hl _ ih=>intro K' hK;exact .agg K' cs vs hl (fun i h h'=>ih i h h' hK)
 |tup K cs vs hl _ ih=>intro K' hK;exact .tup K' cs vs hl (fun i h h'=>ih i h h' hK)
theorem Rels.mono {us w us' w'} (hu:UsLe us w us' w') {K K' as vs} (h:Rels us w K as vs)(hK:KLe us w K us' w' K'):Rels us' w' K' as vs:=
 ⟨h.len,fun i h1 h2=>(h.rel i h1 h2).mono hu hK⟩
structure BlkOk (us:Us) (w:World) (K:Kx) (c:Nat) (cs:List AV):Prop where
 ex: ∃cur ty,w.heap[c]? =some (.cells cur ty (0,0))∧cs.length≤cur.size∧Rels us w K cs (cur.toList.take cs.length)∧∀x∈cur.toList,x.oneCell'=true
structure Good (us:Us) (w:World) (K:Kx) (st:St):Prop where
 T:K.T=st.tips
 lmlt: ∀l c,K.lm l=some c→l<st.store.length
 blk: ∀l c cs,K.lm l=some c→st.store[l]? =some cs→BlkOk us w K c cs
 inj: ∀l l' c,K.lm l=some c→K.lm l'=some c→l=l'∨st.store[l]? =some []∨st.store[l']? =some []
 tkinj: ∀t t' c,K.tk t=some c→K.tk t'=some c→t=t'
 tklt: ∀t c,K.tk t=some c→t<st.tips.length
 tkus: ∀t c,K.tk t=some c→∃n,us c=some n
 uslt: ∀c n,us c=some n→c<w.heap.size
 disj: ∀l c,K.lm l=some c→st.store[l]? =some []∨us c=none
 lmtk: ∀l t c,K.lm l=some c→K.tk t≠some c
structure Ext (us:Us) (w:World) (K:Kx) (us':Us) (w':World) (K':Kx):Prop where
 os:w'.os=w.os
 tape:w'.tape=w.tape
 output:w'.output=w.output
 size:w.heap.size≤w'.heap.size
 sz: ∀c n,SizeAt w c n→SizeAt w' c n
 usle:UsLe us w us' w'
 kle:KLe us w K us' w' K'
 frame: ∀c,c<w.heap.size→(∀l,K.lm l≠some c)→(∀t,K.tk t≠some c)→w'.heap[c]? =w.heap[c]? ∧us' c=us c
 usNone: ∀c,c<w.heap.size→us c=none→(∀l,K.lm l≠some c)→us' c=none
 lmNew: ∀l c,K'.lm l=some c→(∃l0,K.lm l0=some c)∨w.heap.size≤c
 tkNew: ∀t c,K'.tk t=some c→K.tk t=some c∨w.heap.size≤c
theorem Ext.refl (us w K):Ext us w K us w K:=
 ⟨rfl,rfl,rfl,Nat.le_refl _,fun _ _ h=>h,.refl _ _,.refl _ _ _,fun _ _ _ _=>⟨rfl,rfl⟩,fun _ _ h _=>h,fun l _ h=> .inl ⟨l,h⟩,fun _ _ h=> .inl h⟩
theorem Ext.trans {us w K us1 w1 K1 us2 w2 K2} (h:Ext us w K us1 w1 K1)(h':Ext us1 w1 K1 us2 w2 K2):Ext us w K us2 w2 K2 where
 os:=h'.os.trans h.os
 tape:=h'.tape.trans h.tape
 output:=h'.output.trans h.output
 size:=Nat.le_trans h.size h'.size
 sz:=fun c n hc=>h'.sz c n (h.sz c n hc)
 usle:=h.usle.trans h'.usle
 kle:=h.kle.trans h'.kle
 frame:=by
  intro c hc hl ht
  have a:=h.frame c hc hl ht
  have b:=h'.frame c (by have:=h.size;omega)
   (fun l e=>(h.lmNew l c e).elim (fun ⟨l0,e⟩=>hl l0 e) (fun e=>by omega))
   (fun t e=>(h.tkNew t c e).elim (ht t) (fun e=>by omega))
  exact ⟨b.1.trans a.1,b.2.trans a.2⟩
 usNone:=fun c hc hn hl=>h'.usNone c (by have:=h.size;omega) (h.usNone c hc hn hl) fun l e=>(h.lmNew l c e).elim (fun ⟨l0,e⟩=>hl l0 e) fun e=>by omega
 lmNew:=by
  intro l c e
  rcases h'.lmNew l c e with ⟨l0,e⟩ |e
  ·exact h.lmNew l0 c e
  ·exact .inr (by have:=h.size;omega)
 tkNew:=by
  intro l c e
  rcases h'.tkNew l c e with e|e
  ·exact h.tkNew l c e
  ·exact .inr (by have:=h.size;omega)
end Go.Ev
namespace Go.Ev
open Go
def EnvRel (us:Us) (w:World) (K:Kx) (env:Env) (a:Act):Prop:=∀t,Rel us w K (env.get t) (a.tmps.getD t undef)
section
variable {us:Us} {w:World} {K:Kx}
theorem Rel.v_inv {y x} (h:Rel us w K (.v y) x):x=y:=by cases h;rfl
theorem Rel.ptr_inv {l o x} (h:Rel us w K (.ptr l o) x): ∃c,K.lm l=some c∧x=.pointer (some ⟨c,o,none⟩):=by cases h with|ptr _ _ _ c h=>exact ⟨c,h,rfl⟩
theorem Rel.agg_inv {cs x} (h:Rel us w K (.agg cs) x): ∃vs,x=.agg vs∧Rels us w K cs vs.toList:=by
 cases h with|agg _ _ vs hl hr=>exact ⟨vs.toArray,rfl,⟨by simpa using hl,by simpa using hr⟩⟩
theorem Rel.tup_inv {cs x} (h:Rel us w K (.tup cs) x): ∃vs,x=.tuple vs∧Rels us w K cs vs.toList:=by
 cases h with|tup _ _ vs hl hr=>exact ⟨vs.toArray,rfl,⟨by simpa using hl,by simpa using hr⟩⟩
theorem Rel.ifc_inv {t a x} (h:Rel us w K (.ifc t a) x): ∃y,x=.iface t y∧Rel us w K a y:=by
 cases h with|ifc _ _ _ y h=>exact ⟨y,rfl,h⟩
theorem Rel.fn_inv {f a b x} (h:Rel us w K (.fn f a b) x): ∃va vb:Array Value,x=.func f va vb∧Rels us w K a va.toList∧Rels us w K b vb.toList:=by
 cases h with|fn _ _ _ _ va vb ha hb h1 h2=>exact ⟨va.toArray,vb.toArray,rfl,⟨by simpa using ha,by simpa using h1⟩,⟨by simpa using hb,by simpa using h2⟩⟩
theorem Rel.mkAgg {cs} {vs:Array Value} (h:Rels us w K cs vs.toList):Rel us w K (.agg cs) (.agg vs):=by
 have:=Rel.agg K cs vs.toList h.len h.rel;simpa using this
theorem Rel.mkTup {cs} {vs:Array Value} (h:Rels us w K cs vs.toList):Rel us w K (.tup cs) (.tuple vs):=by
 have:=Rel.tup K cs vs.toList h.len h.rel;simpa using this
theorem Rel.mkFn {f a b} {va vb:Array Value} (h:Rels us w K a va.toList)(h':Rels us w K b vb.toList):Rel us w K (.fn f a b) (.func f va vb):=by
 have:=Rel.fn K f a b va.toList vb.toList h.len h'.len h.rel h'.rel;simpa using this
structure LstAt (us:Us) (w:World) (K:Kx) (g:Tag) (z:Nat) (xs:List AV) (c p cap:Nat) (vs:List Value):Prop where
 lies: ∃n,us c=some n∧p+vs.length≤n
 cells:CellsAt w c p vs
 one: ∀x∈vs,x.oneCell'=true
 each: ∀x∈xs,x.cells.length=z
 fits:xs.length≤cap
 rels:Rels us w .nil (flat xs) vs
 tag:Tagged us w K g c p xs.length cap z
theorem Rel.lst_inv {g z xs x} (h:Rel us w K (.lst g z xs) x): ∃c p cap vs,x=.slice (some ⟨c,p,none⟩) xs.length cap∧LstAt us w K g z xs c p cap vs:=by
 cases h with|lst _ _ _ _ c p n cap vs hu hn hc h1 hz hcap hl hr ht=>exact ⟨c,p,cap,vs,rfl,⟨⟨n,hu,hn⟩,hc,h1,hz,hcap,⟨hl,hr⟩,ht⟩⟩
theorem LstAt.rel {g z xs c p cap vs} (h:LstAt us w K g z xs c p cap vs):Rel us w K (.lst g z xs) (.slice (some ⟨c,p,none⟩) xs.length cap):=by
 obtain ⟨n,h1,h2⟩:=h.lies
 exact .lst K g z xs c p n cap vs h1 h2 h.cells h.one h.each h.fits h.rels.len h.rels.rel h.tag
def Caps (w:World) (b o c z cap:Nat):Prop:=cap=c∨(c≤cap∧∃m,SizeAt w b m∧o+cap*z≤m)
theorem Caps.le {w b o c z cap} (h : Caps w b o c z cap) : c ≤ cap := by rcases h with h | h; · omega
                                                                         · exact h.1
theorem Rel.rsl_inv {l o n c z a x} (h:Rel us w K (.rsl l o n c z a) x): ∃b cap,K.lm l=some b∧x=.slice (some ⟨b,o,none⟩) n cap∧Caps w b o c z cap:=by
 cases h with|rsl _ _ _ _ _ _ _ b cap h hx=>exact ⟨b,cap,h,rfl,hx⟩
structure EptrAt (us:Us) (w:World) (e:AV) (c p:Nat) (vs:List Value):Prop where
 lies: ∃n,us c=some n∧p+vs.length≤n
 cells:CellsAt w c p vs
 one: ∀x∈vs,x.oneCell'=true
 rels:Rels us w .nil e.cells vs
theorem Rel.eptr_inv {e o x} (h:Rel us w K (.eptr e o) x): ∃c p vs,x=.pointer (some ⟨c,p+o,none⟩)∧EptrAt us w e c p vs:=by
 cases h with|eptr _ _ _ c p n vs hu hn hc h1 hl hr=>exact ⟨c,p,vs,rfl,⟨⟨n,hu,hn⟩,hc,h1,⟨hl,hr⟩⟩⟩
theorem EptrAt.rel {e c p vs} (h:EptrAt us w e c p vs)(o:Nat):Rel us w K (.eptr e o) (.pointer (some ⟨c,p+o,none⟩)):=by
 obtain ⟨n,h1,h2⟩:=h.lies
 exact .eptr K e o c p n vs h1 h2 h.cells h.one h.rels.len h.rels.rel
theorem zjf (l:List Value)(h:l.all plainV=true):Rels us w K (l.map .v) l:=by
 induction l with
 |nil=>exact .nil
 |cons x r ih=>
  simp only [List.all_cons,Bool.and_eq_true] at h
  exact .cons (.v K x h.1) (ih h.2)
theorem zbl (x:Value):Rel us w K (ofVal x) x:=by
 cases x
 case agg cs=>
  simp only [ofVal]
  split
  ·next h=>
   have:=Rel.mkAgg (K:=K) (us:=us) (w:=w) (cs:=cs.toList.map .v) (vs:=cs) (zjf cs.toList h)
   exact this
  ·exact .any K _
 all_goals exact .v K _ rfl
theorem ze {env a} (h:EnvRel us w K env a)(x:Operand):Rel us w K (aval env x) (a.eval x):=by
 cases x with
 |tmp t=>exact h t
 |const v=>exact zbl v
 |global g=>exact .any K _
 |func f=>exact Rel.mkFn (va:= #[]) (vb:= #[]) .nil .nil
theorem z5f {env a} (h:EnvRel us w K env a)(xs:List Operand):Rels us w K (avals env xs) (xs.map a.eval):=by
 induction xs with
 |nil=>exact .nil
 |cons x r ih=>exact .cons (ze h x) ih
theorem z2a (l:List AV):(pubs l).length=l.length:=by
 induction l with
 |nil=>rfl
 |cons a r ih=>simp [pubs,ih]
theorem z9d (l:List AV)(i:Nat)(h:i<(pubs l).length):(pubs l)[i]=pub (l[i]'(by rw [z2a] at h;exact h)):=by
 induction l generalizing i with
 |nil=>simp [pubs] at h
 |cons a r ih=>
  cases i with
  |zero=>simp [pubs]
  |succ i=>simp [pubs];exact ih i (by simpa [pubs] using h)
theorem Rel.pub {a x} (h:Rel us w K a x):Rel us w .nil (Ev.pub a) x:=by
 induction h with
 |any K x=>simp only [Ev.pub];exact .any _ x
 |v K x h=>simp only [Ev.pub];exact .v _ x h
 |ptr K l o c h=>simp only [Ev.pub];exact .any _ _
 |eptr K e o c p n vs hu1 hn hc h1 hl hr _=>simp only [Ev.pub];exact .eptr _ e o c p n vs hu1 hn hc h1 hl hr
 |lst K g z xs c p n cap vs hu1 hn hc h1 hz hcap hl hr ht _=>simp only [Ev.pub];exact .lst _ .any z xs c p n cap vs hu1 hn hc h1 hz hcap hl hr trivial
 |rsl K l o n c z a b cap h hx=>simp only [Ev.pub];exact .any _ _
 |fn K f a b va vb ha hb _ _ iha ihb=>
  simp only [Ev.pub]
  exact .fn _ f _ _ va vb (by rw [z2a];exact ha) (by rw [z2a];exact hb) (fun i h h'=>by rw [z9d];exact iha i _ h') (fun i h h'=>by rw [z9d];exact ihb i _ h')
 |ifc K t a x _ ih=>simp only [Ev.pub];exact .ifc _ t _ x ih
 |agg K cs vs hl _ ih=>simp only [Ev.pub];exact .agg _ _ vs (by rw [z2a];exact hl) (fun i h h'=>by rw [z9d];exact ih i _ h')
 |tup K cs vs hl _ ih=>simp only [Ev.pub];exact .tup _ _ vs (by rw [z2a];exact hl) (fun i h h'=>by rw [z9d];exact ih i _ h')
theorem Rels.pubs {as vs} (h:Rels us w K as vs):Rels us w .nil (Ev.pubs as) vs:=
 ⟨by rw [z2a];exact h.len,fun i h1 h2=>by rw [z9d];exact (h.rel i _ h2).pub⟩
theorem Rel.ofNil {a x} (h:Rel us w .nil a x):Rel us w K a x:=h.mono (.refl _ _) (.nil _ _ _ _ _)
theorem Rels.ofNil {as vs} (h:Rels us w .nil as vs):Rels us w K as vs:=⟨h.len,fun i h1 h2=>(h.rel i h1 h2).ofNil⟩
theorem zf1 (a:AV):(Ev.pub a).cells=Ev.pubs a.cells:=by cases a<;>simp [Ev.pub,AV.cells,Ev.pubs]
theorem Rel.cells {a x} (h:Rel us w K a x)(hs:a.shaped=true):Rels us w K a.cells x.cells.toList:=by
 cases h with
 |any=>simp [AV.shaped] at hs
 |agg _ _ vs hl hr=>simp only [AV.cells,Value.cells];exact ⟨by simpa using hl,by simpa using hr⟩
 |v _ x h=>
  have:x.cells= #[x]:=by cases x<;>first|rfl|simp [plainV] at h
  rw [this];exact .cons (.v _ x h) .nil
 |ptr _ _ _ _ h=>exact .cons (.ptr _ _ _ _ h) .nil
 |eptr _ _ _ _ _ _ _ hu hn hc h1 hl hr=>exact .cons (.eptr _ _ _ _ _ _ _ hu hn hc h1 hl hr) .nil
 |lst _ _ _ _ _ _ _ _ _ hu hn hc h1 hz hcap hl hr ht=>exact .cons (.lst _ _ _ _ _ _ _ _ _ hu hn hc h1 hz hcap hl hr ht) .nil
 |rsl _ _ _ _ _ _ _ _ _ h hx=>exact .cons (.rsl _ _ _ _ _ _ _ _ _ h hx) .nil
 |fn _ _ _ _ _ _ ha hb h1 h2=>exact .cons (.fn _ _ _ _ _ _ ha hb h1 h2) .nil
 |ifc _ _ _ _ h=>exact .cons (.ifc _ _ _ _ h) .nil
 |tup _ _ _ hl hr=>exact .cons (.tup _ _ _ hl hr) .nil
theorem Rel.one {a x} (h:Rel us w K a x)(hs:storable a=true):x.oneCell'=true:=by
 cases h with
 |v _ _ h=>cases x<;>simp_all [storable,Value.oneCell']
 |_=>first|rfl|simp [storable] at hs
theorem Rels.one {as vs} (h:Rels us w K as vs)(hs:as.all storable=true): ∀x∈vs,x.oneCell'=true:=by
 induction as generalizing vs with
 |nil=>rw [h.nil_inv];simp
 |cons a r ih=>
  obtain ⟨x,r',rfl,h1,h2⟩:=h.cons_inv
  simp only [List.all_cons,Bool.and_eq_true] at hs
  intro y hy
  rcases List.mem_cons.1 hy with rfl|hy
  ·exact h1.one hs.1
  ·exact ih h2 hs.2 y hy
end
end Go.Ev
namespace Go.Ev
open Go
def RunsTo (P:Program) (s:Sem Next) (us:Us) (w:World) (K:Kx) (st:St) (r:AV):Prop:=
 ∃x us' w',s.run P w=.ok (.value x) w'∧Rel us' w' K r x∧Ext us w K us' w' K∧Good us' w' K st
section
variable {P:Program} {us:Us} {w:World} {K:Kx} {st:St}
theorem RunsTo.same {s:Sem Next} {r:AV} {x:Value} (hG:Good us w K st)(h:s.run P w=.ok (.value x) w)(hr:Rel us w K r x):RunsTo P s us w K st r:=
 ⟨x,us,w,h,hr,.refl _ _ _,hG⟩
variable {o:Oper} {env:Env} {a:Act} {r:AV}
theorem zj5 {x:Operand} (ho:o.op=.move x∨o.op=.assign x)(hE:EnvRel us w K env a)(hG:Good us w K st):RunsTo P (execOp a.eval o) us w K st (aval env x):=by
 refine .same hG (x:=a.eval x) ?_ (ze hE x)
 rcases ho with ho|ho<;>simp [execOp,ho]
theorem zny {c x y:Operand} (ho:o.op=.pick c x y)(hE:EnvRel us w K env a)(hG:Good us w K st)(hv:valAV env (.pick c x y)=some r):RunsTo P (execOp a.eval o) us w K st r:=by
 simp only [valAV] at hv
 split at hv
 ·rename_i b hb
  have h1:=ze hE c
  rw [hb] at h1
  have h2:=h1.v_inv
  simp only [sI_] at hv
  subst hv
  refine .same hG (x:=if b then a.eval x else a.eval y) ?_ ?_
  ·simp [execOp,ho,asBool,h2]
  ·cases b
   ·exact ze hE y
   ·exact ze hE x
 ·simp at hv
theorem rt_not {x:Operand} {t:TypeId} (ho:o.op=.unOp .not t x)(hE:EnvRel us w K env a)(hG:Good us w K st)(hv:valAV env (.not x)=some r):RunsTo P (execOp a.eval o) us w K st r:=by
 simp only [valAV] at hv
 split at hv
 ·rename_i b hb
  have h1:=ze hE x
  rw [hb] at h1
  have h2:=h1.v_inv
  simp only [sI_] at hv
  subst hv
  exact .same hG (x:=.bool !b) (by simp [execOp,ho,Op.unary,h2]) (.v K _ rfl)
 ·simp at hv
theorem rt_neg {x:Operand} {t:TypeId} (ho:o.op=.unOp .neg t x)(hE:EnvRel us w K env a)(hG:Good us w K st)(hv:valAV env (.neg x)=some r):RunsTo P (execOp a.eval o) us w K st r:=by
 simp only [valAV] at hv
 split at hv
 ·rename_i k n hb
  have h1:=ze hE x
  rw [hb] at h1
  have h2:=h1.v_inv
  simp only [sI_] at hv
  subst hv
  exact .same hG (x:=.int k (k.wrap (0-n))) (by simp [execOp,ho,Op.unary,Op.intArith,h2]) (.v K _ rfl)
 ·simp at hv
theorem zll {x:Operand} {t:TypeId} (ho:o.op=.unOp .xor t x)(hE:EnvRel us w K env a)(hG:Good us w K st)(hv:valAV env (.compl x)=some r):RunsTo P (execOp a.eval o) us w K st r:=by
 simp only [valAV] at hv
 split at hv
 ·rename_i k n hb
  have h1:=ze hE x
  rw [hb] at h1
  have h2:=h1.v_inv
  simp only [binAV,or_true,if_true,intOp,sI_] at hv
  subst hv
  exact .same hG (by simp [execOp,ho,Op.unary,Op.intBits,h2]) (.v K _ rfl)
 ·simp at hv
theorem zo6 {x:Operand} {s d:TypeId} {k:IntKind} {sd:TypeDesc} (ho:o.op=.convert s d x)(hs:P.underlying s=some sd)(hd:P.underlying d=some (.int k))(hE:EnvRel us w K env a)(hG:Good us w K st)
  (hv:valAV env (.conv k x)=some r):RunsTo P (execOp a.eval o) us w K st r:=by
 simp only [valAV] at hv
 split at hv
 ·rename_i k' n hb
  have h1:=ze hE x
  rw [hb] at h1
  have h2:=h1.v_inv
  simp only [sI_] at hv
  subst hv
  refine .same hG (x:=.int k (k.wrap n)) ?_ (.v K _ rfl)
  simp [execOp,ho,convert,run_underlying hs,run_underlying hd,h2,Conv.intToInt]
 ·simp at hv
theorem rt_nil {x:Operand} (ho:o.op=.nilCheck x)(hE:EnvRel us w K env a)(hG:Good us w K st)(hv:valAV env (.nil x)=some r):RunsTo P (execOp a.eval o) us w K st r:=by
 simp only [valAV] at hv
 have h1:=ze hE x
 split at hv
 ·rename_i l f hb
  rw [hb] at h1
  simp only [sI_] at hv
  subst hv
  obtain ⟨c,_,h2⟩:=h1.ptr_inv
  exact .same hG (x:=a.eval x) (by simp [execOp,ho,h2]) h1
 ·rename_i l f hb
  rw [hb] at h1
  simp only [sI_] at hv
  subst hv
  obtain ⟨c,p,vs,h2,_⟩:=h1.eptr_inv
  exact .same hG (x:=a.eval x) (by simp [execOp,ho,h2]) h1
 ·simp at hv
theorem zlj {x:Operand} {t:TypeId} {d:TypeDesc} (ho:o.op=.makeInterface t x)(hd:P.underlying t=some d)(hni: ∀ms,d≠.interface ms)(hE:EnvRel us w K env a)(hG:Good us w K st):
  RunsTo P (execOp a.eval o) us w K st (.ifc t (aval env x)):=by
 refine .same hG (x:=.iface t (a.eval x)) ?_ (.ifc K t _ _ (ze hE x))
 simp only [execOp,ho,Instr.makeInterface,Sem.run_bind,run_underlying hd,Result.andThen_ok]
 cases d<;>first|rfl|exact absurd rfl (hni _)
theorem zo4 {f:Fn} {x y:Array Operand} (ho:o.op=.makeFunc f x y)(hE:EnvRel us w K env a)(hG:Good us w K st):
  RunsTo P (execOp a.eval o) us w K st (.fn f (avals env x.toList) (avals env y.toList)):=by
 refine .same hG (x:=.func f (x.map a.eval) (y.map a.eval)) (by simp [execOp,ho,Instr.makeFunc]) ?_
 refine Rel.mkFn ?_ ?_
 ·simpa using z5f hE x.toList
 ·simpa using z5f hE y.toList
theorem zhs {x:Operand} {i:Nat} (ho:o.op=.extract x i)(hE:EnvRel us w K env a)(hG:Good us w K st)(hv:valAV env (.extract i x)=some r):RunsTo P (execOp a.eval o) us w K st r:=by
 simp only [valAV] at hv
 have h1:=ze hE x
 split at hv
 ·rename_i cs hb
  rw [hb] at h1
  obtain ⟨vs,h2,h3⟩:=h1.tup_inv
  obtain ⟨y,h4,h5⟩:=h3.get hv
  refine .same hG (x:=y) ?_ h5
  have h6:vs[i]? =some y:=by simpa using h4
  simp [execOp,ho,Instr.extract,h2,h6]
 ·simp at hv
theorem zev {x:Operand} {t:TypeId} {f:Nat} {fs:Array Field} {fd:Field} (ho:o.op=.fieldAddr t x f)(ht:P.underlying t=some (.struct fs))(hf:fs[f]? =some fd)(hsz:(sizeT P fd.type).any (0< ·)=true)
  (hE:EnvRel us w K env a) (hG:Good us w K st) (hv:valAV env (.fieldAddr fd.offset x)=some r):RunsTo P (execOp a.eval o) us w K st r:=by
 simp only [valAV,fieldAddrAV] at hv
 have h1:=ze hE x
 have hsz': ∃i,P.info? fd.type=some i∧i.size≠0:=by
  simp only [sizeT] at hsz
  cases hi:P.info? fd.type with
  |none=>simp [hi] at hsz
  |some i=>exact ⟨i,rfl,by simp [hi] at hsz;omega⟩
 obtain ⟨i,hi,hi0⟩:=hsz'
 have run: ∀c p,a.eval x=.pointer (some ⟨c,p,none⟩)→(execOp a.eval o).run P w=.ok (.value (.pointer (some ⟨c,p+fd.offset,none⟩))) w:=by
  intro c p h
  simp [execOp,ho,Instr.fieldAt,run_underlying ht,hf,Instr.sureAddr,h,fieldPlace,sizeOf,typeInfo,hi,hi0,Addr.add_lit]
 split at hv
 ·rename_i l q hb
  rw [hb] at h1
  obtain ⟨c,hc,h2⟩:=h1.ptr_inv
  simp only [sI_] at hv
  subst hv
  exact .same hG (run c q h2) (.ptr K l _ c hc)
 ·rename_i e q hb
  rw [hb] at h1
  obtain ⟨c,p,vs,h2,h3⟩:=h1.eptr_inv
  simp only [sI_] at hv
  subst hv
  refine .same hG (run c (p+q) h2) ?_
  have:=h3.rel (K:=K) (q+fd.offset)
  rwa [←Nat.add_assoc] at this
 ·simp at hv
theorem zj9 {x i:Operand} {t e:TypeId} {n z:Nat} (ho:o.op=.indexAddr t x i)(ht:P.underlying t=some (.array n e))(hz:sizeT P e=some z)
  (hE:EnvRel us w K env a) (hG:Good us w K st) (hv:valAV env (.indexA n z x i)=some r):RunsTo P (execOp a.eval o) us w K st r:=by
 simp only [valAV] at hv
 have h1:=ze hE x
 have h2:=ze hE i
 have hz': ∃i,P.info? e=some i∧i.size=z:=by
  simp only [sizeT] at hz
  cases hi:P.info? e with
  |none=>simp [hi] at hz
  |some i=>exact ⟨i,rfl,by simpa [hi] using hz⟩
 obtain ⟨ti,hti,hti2⟩:=hz'
 have run: ∀c p k (j:Int),a.eval x=.pointer (some ⟨c,p,none⟩)→a.eval i=.int k j→0≤j→j<n→(execOp a.eval o).run P w=.ok (.value (.pointer (some ⟨c,p+j.toNat*z,none⟩))) w:=by
  intro c p k j h h' hj hj'
  simp [execOp,ho,Instr.indexAt,run_underlying ht,asIntOf,Instr.sureAddr,h,h',hj,hj',sizeOf,typeInfo,hti,hti2,Addr.add_lit]
 generalize aval env x=ax at hv h1
 generalize aval env i=ai at hv h2
 unfold indexAAV at hv
 split at hv
 ·rename_i l q k j
  split at hv
  ·next hj=>
   obtain ⟨c,hc,h3⟩:=h1.ptr_inv
   simp only [sI_] at hv
   subst hv
   exact .same hG (run c q k j h3 h2.v_inv hj.1 hj.2) (.ptr K l _ c hc)
  ·simp at hv
 ·rename_i e' q k j
  split at hv
  ·next hj=>
   obtain ⟨c,p,vs,h3,h4⟩:=h1.eptr_inv
   simp only [sI_] at hv
   subst hv
   refine .same hG (run c (p+q) k j h3 h2.v_inv hj.1 hj.2) ?_
   have:=h4.rel (K:=K) (q+j.toNat*z)
   rwa [←Nat.add_assoc] at this
  ·simp at hv
 ·simp at hv
theorem zj8 {i:Operand} {t e:TypeId} {g n z:Nat} {tab:List Nat} (ho:o.op=.indexAddr t (.global g) i)(ht:P.underlying t=some (.array n e))(hz:sizeT P e=some z)
  (hE:EnvRel us w K env a) (hG:Good us w K st) (hg:Rel us w .nil (.eptr (bytesAV tab) 0) (.pointer (some ⟨g,0,none⟩))) (hv:valAV env (.indexG g n z tab i)=some r):RunsTo P (execOp a.eval o) us w K st r:=by
 simp only [valAV] at hv
 have h2:=ze hE i
 have hz': ∃i,P.info? e=some i∧i.size=z:=by
  simp only [sizeT] at hz
  cases hi:P.info? e with
  |none=>simp [hi] at hz
  |some i=>exact ⟨i,rfl,by simpa [hi] using hz⟩
 obtain ⟨ti,hti,hti2⟩:=hz'
 generalize aval env i=ai at hv h2
 unfold indexAAV at hv
 split at hv
 ·rename_i l q k j heq
  simp at heq
 ·rename_i e' q k j heq
  simp only [AV.eptr.injEq] at heq
  obtain ⟨rfl,rfl⟩:=heq
  split at hv
  ·next hj=>
   obtain ⟨c,p,vs,h3,h4⟩:=hg.eptr_inv
   simp only [Value.pointer.injEq,sI_,Addr.mk.injEq,Nat.add_zero] at h3
   obtain ⟨rfl,rfl,_⟩:=h3
   simp only [sI_] at hv
   subst hv
   have hev:a.eval (.global g)=.pointer (some ⟨g,0,none⟩):=rfl
   refine .same hG (x:=.pointer (some ⟨g,0+j.toNat*z,none⟩)) ?_ ?_
   ·simp [execOp,ho,Instr.indexAt,run_underlying ht,asIntOf,Instr.sureAddr,hev,h2.v_inv,hj.1,hj.2,sizeOf,typeInfo,hti,hti2,Addr.add_lit]
   ·have:=h4.rel (K:=K) (0+j.toNat*z)
    simpa using this
  ·simp at hv
 ·simp at hv
theorem z75 (x:AV)(r:List AV):flat (x::r)=x.cells++flat r:=rfl
theorem z5h (x y:List AV):flat (x++y)=flat x++flat y:=by simp [flat]
theorem z15 {z:Nat} (xs:List AV)(h: ∀x∈xs,x.cells.length=z):(flat xs).length=xs.length*z:=by
 induction xs with
 |nil=>simp [flat]
 |cons x r ih=>
  rw [z75,List.length_append,h x (by simp),ih (fun y hy=>h y (by simp [hy])),List.length_cons,Nat.add_mul]
  omega
theorem zih (xs:List AV)(i:Nat)(h:i<xs.length):xs=xs.take i++xs[i]::xs.drop (i+1):=by
 rw [List.getElem_cons_drop,List.take_append_drop]
theorem zkt {z:Nat} (xs:List AV)(h: ∀x∈xs,x.cells.length=z)(i:Nat)(hi:i<xs.length):((flat xs).drop (i*z)).take z=xs[i].cells:=by
 have e:=zih xs i hi
 have h1:(flat (xs.take i)).length=i*z:=by
  rw [z15 (z:=z) _ (fun y hy=>h y (List.mem_of_mem_take hy)),List.length_take]
  congr 1;omega
 conv=>lhs;rw [e]
 rw [z5h,z75,←h1,List.drop_left]
 have h2:xs[i].cells.length=z:=h _ (List.getElem_mem hi)
 rw [←h2,List.take_left]
theorem LstAt.elem {g z xs c p cap vs} (h:LstAt us w K g z xs c p cap vs)(i:Nat)(hi:i<xs.length):EptrAt us w xs[i] c (p+i*z) ((vs.drop (i*z)).take z):=by
 obtain ⟨n,hn,hn2⟩:=h.lies
 have hl:vs.length=xs.length*z:=by rw [←h.rels.len,z15 xs h.each]
 have hm:i*z+z≤xs.length*z:=by rw [←Nat.succ_mul];exact Nat.mul_le_mul_right z hi
 have hlen:((vs.drop (i*z)).take z).length=z:=by simp;omega
 refine ⟨⟨n,hn,by rw [hlen];omega⟩,?_,?_,?_⟩
 ·intro j hj
  rw [hlen] at hj
  have:=h.cells (i*z+j) (by omega)
  rw [Nat.add_assoc,this]
  simp
 ·intro x hx
  exact h.one x (List.mem_of_mem_drop (List.mem_of_mem_take hx))
 ·rw [←zkt xs h.each i hi]
  exact (h.rels.drop (i*z)).take z
theorem zj7 {x i:Operand} {t e:TypeId} {z:Nat} (ho:o.op=.indexAddr t x i)(ht:P.underlying t=some (.slice e))(hz:sizeT P e=some z)
  (hE:EnvRel us w K env a) (hG:Good us w K st) (hv:valAV env (.indexS z x i)=some r):RunsTo P (execOp a.eval o) us w K st r:=by
 simp only [valAV] at hv
 have h1:=ze hE x
 have h2:=ze hE i
 have hz': ∃i,P.info? e=some i∧i.size=z:=by
  simp only [sizeT] at hz
  cases hi:P.info? e with
  |none=>simp [hi] at hz
  |some i=>exact ⟨i,rfl,by simpa [hi] using hz⟩
 obtain ⟨ti,hti,hti2⟩:=hz'
 have run: ∀c p n cap k (j:Int),a.eval x=.slice (some ⟨c,p,none⟩) n cap→a.eval i=.int k j→0≤j→j<(n:Int)→(execOp a.eval o).run P w=.ok (.value (.pointer (some ⟨c,p+j.toNat*z,none⟩))) w:=by
  intro c p n cap k j h h' hj hj'
  simp [execOp,ho,Instr.indexAt,run_underlying ht,asIntOf,h,h',hj,hj',sizeOf,typeInfo,hti,hti2,Addr.add_lit]
 generalize aval env x=ax at hv h1
 generalize aval env i=ai at hv h2
 unfold indexSAV at hv
 split at hv
 ·rename_i g z' xs k j
  split at hv
  ·next hj=>
   obtain ⟨rfl,hj⟩:=hj
   obtain ⟨c,p,cap,vs,h3,h4⟩:=h1.lst_inv
   cases hx:xs[j.toNat]? with
   |none=>simp [hx] at hv
   |some y=>
    obtain ⟨hi,rfl⟩:=List.getElem?_eq_some_iff.1 hx
    simp only [hx,Option.map_some,sI_] at hv
    subst hv
    refine .same hG (run c p xs.length cap k j h3 h2.v_inv hj (by omega)) ?_
    have:=(h4.elem j.toNat hi).rel (K:=K) 0
    simpa using this
  ·simp at hv
 ·rename_i l q n cp z' b k j
  split at hv
  ·next hj=>
   obtain ⟨rfl,hj,hj'⟩:=hj
   obtain ⟨c,cap,hc,h3,_⟩:=h1.rsl_inv
   simp only [sI_] at hv
   subst hv
   exact .same hG (run c q n cap k j h3 h2.v_inv hj hj') (.ptr K l _ c hc)
  ·simp at hv
 ·simp at hv
theorem rt_len {x:Operand} {t e:TypeId} {c:Call} (ho:o.op=.call c)(hb:c.callee=.builtin .len)(ha:c.args.toList=[x])(hty:(c.argTypes[0]?).bind P.underlying=some (.slice e))(hE:EnvRel us w K env a)(hG:Good us w K st)
  (hv:valAV env (.len x)=some r) (_:t=t):RunsTo P (execOp a.eval o) us w K st r:=by
 simp only [valAV] at hv
 have h1:=ze hE x
 have ha':c.args= #[x]:=by rw [←Array.toArray_toList (xs:=c.args),ha]
 have run: ∀b n cap,a.eval x=.slice b n cap→(execOp a.eval o).run P w=.ok (.value (.int .i64 n)) w:=by
  intro b n cap h
  cases h0:c.argTypes[0]? with
  |none=>simp [h0] at hty
  |some t0=>
   simp only [h0,Option.bind_some] at hty
   simp [execOp,ho,resolve,hb,ha',invoke,builtin,Builtin.len_,h0,run_underlying hty,h,goInt]
 generalize aval env x=ax at hv h1
 unfold lenAV at hv
 split at hv
 ·rename_i g z xs
  obtain ⟨c,p,cap,vs,h3,h4⟩:=h1.lst_inv
  simp only [sI_] at hv
  subst hv
  exact .same hG (run _ _ _ h3) (.v K _ rfl)
 ·rename_i l q n cp z' b
  obtain ⟨c,cap,hc,h3,_⟩:=h1.rsl_inv
  simp only [sI_] at hv
  subst hv
  exact .same hG (run _ _ _ h3) (.v K _ rfl)
 ·rename_i b n cp
  simp only [sI_] at hv
  subst hv
  exact .same hG (run _ _ _ h1.v_inv) (.v K _ rfl)
 ·simp at hv
theorem rt_min {x y:Operand} {c:Call} (ho:o.op=.call c)(hb:c.callee=.builtin .min)(ha:c.args.toList=[x,y])(hE:EnvRel us w K env a)(hG:Good us w K st)
  (hv:valAV env (.min x y)=some r):RunsTo P (execOp a.eval o) us w K st r:=by
 simp only [valAV] at hv
 have h1:=ze hE x
 have h2:=ze hE y
 have ha':c.args= #[x,y]:=by rw [←Array.toArray_toList (xs:=c.args),ha]
 generalize aval env x=ax at hv h1
 generalize aval env y=ay at hv h2
 unfold minAV at hv
 split at hv
 ·simp only [sI_] at hv
  subst hv
  have e1:=h1.v_inv
  have e2:=h2.v_inv
  exact .same hG (by simp [execOp,ho,resolve,hb,ha',invoke,builtin,Builtin.min_,Builtin.min2,e1,e2]) (.v K _ rfl)
 ·simp at hv
theorem zf8 {a b r:AV} (h:minAV a b=some r): ∃k m k' n,a=.v (.int k m)∧b=.v (.int k' n)∧r=.v (.int k (if n<m then n else m)):=by
 unfold minAV at h
 split at h
 ·simp only [sI_] at h;exact ⟨_,_,_,_,rfl,rfl,h.symm⟩
 ·simp at h
theorem znz {x y z:Operand} {c:Call} (ho:o.op=.call c)(hb:c.callee=.builtin .min)(ha:c.args.toList=[x,y,z])(hE:EnvRel us w K env a)(hG:Good us w K st)
  (hv:valAV env (.min3 x y z)=some r):RunsTo P (execOp a.eval o) us w K st r:=by
 simp only [valAV] at hv
 have h1:=ze hE x
 have h2:=ze hE y
 have h3:=ze hE z
 have ha':c.args= #[x,y,z]:=by rw [←Array.toArray_toList (xs:=c.args),ha]
 split at hv
 ·rename_i a0 heq
  obtain ⟨k,m,k',n,q1,q2,rfl⟩:=zf8 heq
  obtain ⟨k2,m2,k3,n3,q3,q4,rfl⟩:=zf8 hv
  simp only [AV.v.injEq,Value.int.injEq] at q3
  obtain ⟨rfl,rfl⟩:=q3
  rw [q1] at h1;rw [q2] at h2;rw [q4] at h3
  have e1:=h1.v_inv
  have e2:=h2.v_inv
  have e3:=h3.v_inv
  exact .same hG (by simp [execOp,ho,resolve,hb,ha',invoke,builtin,Builtin.min_,Builtin.min2,e1,e2,e3]) (.v K _ rfl)
 ·simp at hv
theorem rt_max {x y:Operand} {c:Call} (ho:o.op=.call c)(hb:c.callee=.builtin .max)(ha:c.args.toList=[x,y])(hE:EnvRel us w K env a)(hG:Good us w K st)
  (hv:valAV env (.max x y)=some r):RunsTo P (execOp a.eval o) us w K st r:=by
 simp only [valAV] at hv
 have h1:=ze hE x
 have h2:=ze hE y
 have ha':c.args= #[x,y]:=by rw [←Array.toArray_toList (xs:=c.args),ha]
 generalize aval env x=ax at hv h1
 generalize aval env y=ay at hv h2
 unfold maxAV at hv
 split at hv
 ·simp only [sI_] at hv
  subst hv
  have e1:=h1.v_inv
  have e2:=h2.v_inv
  exact .same hG (by simp [execOp,ho,resolve,hb,ha',invoke,builtin,Builtin.max_,Builtin.max2,e1,e2]) (.v K _ rfl)
 ·simp at hv
theorem zja {x:Operand} {xt t:TypeId} {ok:Bool} {d:TypeDesc} {z:Value} (ho:o.op=.typeAssert x xt t ok)(hd:P.underlying t=some d)(hni: ∀ms,d≠.interface ms)(hz:zeroT P t=some z)
  (hE:EnvRel us w K env a) (hG:Good us w K st) (hv:valAV env (.assert t (ofVal z) ok x)=some r):RunsTo P (execOp a.eval o) us w K st r:=by
 simp only [valAV] at hv
 have h1:=ze hE x
 have hzero:(zeroValue t).run P w=.ok z w:=by
  simp only [zeroT] at hz
  cases hi:P.info? t with
  |none=>simp [hi] at hz
  |some i=>simp only [hi,Option.bind_some] at hz;simp [zeroValue,typeInfo,hi,hz]
 have pair: ∀(A:AV) (X:Value) (b:Bool),Rel us w K A X→Rel us w K (.tup [A,.v (.bool b)]) (.tuple #[X,.bool b]):=by
  intro A X b h
  exact Rel.mkTup (vs:= #[X,.bool b]) (.cons h (.cons (.v K _ rfl) .nil))
 generalize aval env x=ax at hv h1
 unfold assertAV at hv
 split at hv
 ·rename_i u y
  obtain ⟨v,h2,h3⟩:=h1.ifc_inv
  by_cases hut:u=t
  ·simp only [hut,if_true,sI_] at hv
   subst hut
   refine .same hG (x:=if ok then .tuple #[v,.bool true] else v) ?_ ?_
   ·simp only [execOp,ho,Instr.typeAssert,Sem.run_bind,run_underlying hd,Result.andThen_ok,h2]
    cases d<;>first|(cases ok<;>simp;done)|exact absurd rfl (hni _)
   ·rw [←hv]
    cases ok
    ·exact h3
    ·exact pair _ _ _ h3
  ·simp only [hut,if_false] at hv
   cases ok
   ·simp at hv
   ·simp only [if_true,sI_] at hv
    subst hv
    refine .same hG (x:=.tuple #[z,.bool false]) ?_ (pair _ _ _ (zbl z))
    simp only [execOp,ho,Instr.typeAssert,Sem.run_bind,run_underlying hd,Result.andThen_ok,h2]
    cases d<;>first|(simp [hut,hzero];done)|exact absurd rfl (hni _)
 ·cases ok
  ·simp at hv
  ·simp only [if_true,sI_] at hv
   subst hv
   have h2:=h1.v_inv
   refine .same hG (x:=.tuple #[z,.bool false]) ?_ (pair _ _ _ (zbl z))
   simp only [execOp,ho,Instr.typeAssert,Sem.run_bind,run_underlying hd,Result.andThen_ok,h2]
   cases d<;>first|(simp [hzero];done)|exact absurd rfl (hni _)
 ·simp at hv
end
end Go.Ev
namespace Go.Ev
open Go
section
variable {P:Program} {us:Us} {w:World} {K:Kx} {st:St}
variable {o:Oper} {env:Env} {a:Act} {r:AV}
theorem zc1 {t:TypeId} (h:plainT P t=true):(Go.isAgg t).run P w=.ok false w∧∃k,P.underlying t=some (.int k):=by
 unfold plainT at h
 split at h
 ·rename_i k hk
  exact ⟨by simp [Go.isAgg,run_underlying hk],k,hk⟩
 ·simp at h
theorem zau {x y:AV} {xs ys:List AV} {b:Bool} (h:cellsEq (x::xs) (y::ys)=some b): ∃k m n b',x=.v (.int k m)∧y=.v (.int k n)∧cellsEq xs ys=some b'∧b=((m==n)&&b'):=by
 simp only [cellsEq] at h
 split at h
 ·rename_i p q hp hq
  unfold cellEq at hp
  split at hp
  ·rename_i k m k' n
   split at hp
   ·next hk=>
    subst hk
    simp only [sI_] at hp h
    exact ⟨k,m,n,q,rfl,rfl,hq,by rw [←h,←hp]⟩
   ·simp at hp
  ·simp at hp
 ·simp at h
theorem zet (d:Nat)(e:TypeId)(he:plainT P e=true)(hz:sizeT P e=some 1): ∀(xs ys:List AV) (b:Bool) (i:Nat) (vx vy:Array Value),cellsEq xs ys=some b→
  Rels us w K xs (vx.toList.drop i)→Rels us w K ys (vy.toList.drop i)→
  (forIn (List.range' i xs.length) ((none:Option Bool),()) (fun j (_:Option Bool×Unit)=>(do
    let a←part e vx (j*1)
    let b←part e vy (j*1)
    let c←Op.equalIn (d+1) e a b
    if (!c)=true then pure (ForInStep.done (some false,())) else pure (ForInStep.yield (none,())):Sem (ForInStep (Option Bool×Unit))))).run P w
   =.ok (if b then (none,()) else (some false,())) w:=by
 intro xs
 induction xs with
 |nil=>
  intro ys b i vx vy h _ _
  cases ys with
  |nil=>simp [cellsEq] at h;subst h;simp
  |cons _ _=>simp [cellsEq] at h
 |cons x xs ih=>
  intro ys b i vx vy h hx hy
  cases ys with
  |nil=>simp [cellsEq] at h
  |cons y ys=>
   obtain ⟨k,m,n,b',rfl,rfl,h2,rfl⟩:=zau h
   obtain ⟨vx0,vxr,ex,hx0,hxr⟩:=hx.cons_inv
   obtain ⟨vy0,vyr,ey,hy0,hyr⟩:=hy.cons_inv
   have e1:=hx0.v_inv
   have e2:=hy0.v_inv
   subst e1 e2
   have g1:vx[i]? =some (.int k m):=by
    have:(vx.toList.drop i)[0]? =some (.int k m):=by rw [ex];rfl
    simpa using this
   have g2:vy[i]? =some (.int k n):=by
    have:(vy.toList.drop i)[0]? =some (.int k n):=by rw [ey];rfl
    simpa using this
   have d1:vx.toList.drop (i+1)=vxr:=by rw [←List.drop_drop,ex];rfl
   have d2:vy.toList.drop (i+1)=vyr:=by rw [←List.drop_drop,ey];rfl
   obtain ⟨ha,k',hk'⟩:=zc1 (w:=w) he
   have p1:(part e vx (i*1)).run P w=.ok (.int k m) w:=by simp [part,ha,g1]
   have p2:(part e vy (i*1)).run P w=.ok (.int k n) w:=by simp [part,ha,g2]
   have ih':=ih ys b' (i+1) vx vy h2 (by rw [d1];exact hxr) (by rw [d2];exact hyr)
   simp only [List.length_cons,List.range'_succ,List.forIn_cons,Sem.run_bind,p1,p2,Result.andThen_ok,run_equalIn_int w d e k k' m n hk']
   cases hmn:(m==n)
   ·simp
   ·simp only [Bool.not_true,Bool.false_eq_true,if_false,Bool.true_and,Sem.run_bind,Sem.run_pure,Result.andThen_ok]
    exact ih'
theorem zbe (d:Nat)(t e:TypeId)(n:Nat)(ht:P.underlying t=some (.array n e))(he:plainT P e=true)(hz:sizeT P e=some 1)(xs ys:List AV)(b:Bool)(vx vy:Array Value)
  (h:cellsEq xs ys=some b) (hn:xs.length=n) (hx:Rels us w K xs vx.toList) (hy:Rels us w K ys vy.toList):(Op.equalIn (d+2) t (.agg vx) (.agg vy)).run P w=.ok b w:=by
 subst hn
 have hi: ∃i,P.info? e=some i∧i.size=1:=by
  simp only [sizeT] at hz
  cases hi:P.info? e with
  |none=>simp [hi] at hz
  |some i=>exact ⟨i,rfl,by simpa [hi] using hz⟩
 obtain ⟨i,hi,hi1⟩:=hi
 have key:=zet (us:=us) (K:=K) (w:=w) (P:=P) d e he hz xs ys b 0 vx vy h (by simpa using hx) (by simpa using hy)
 rw [Op.equalIn]
 simp only [Sem.run_bind,run_underlying ht,Result.andThen_ok,sizeOf,typeInfo,run_program,hi,Sem.run_pure,hi1,Std.Legacy.Range.forIn_eq_forIn_range',Std.Legacy.Range.size]
 simp only [Nat.sub_zero,Nat.add_sub_cancel,Nat.div_one]
 rw [key]
 cases b<;>simp
theorem znw (op : BinOp) (t : TypeId) (x y : Operand) (k k' : IntKind) (m n : Int) (hk : isShift op = true ∨ k = k') {r : AV} (h : intOp op k m n = some r) :
    ∃ v, ((do eqGuard op t x y (.int k m) (.int k' n); binOp op t (.int k m) (.int k' n)) : Sem Value).run P w = .ok v w ∧ r = .v v ∧ plainV v = true := by
  simp only [Sem.run_bind, eqGuard_at_int, Sem.run_pure, Result.andThen_ok]
  cases op <;> simp only [intOp, isShift, Bool.false_eq_true, false_or] at h hk <;>
    first
      | (subst hk; simp only [sI_] at h; subst h; exact ⟨_, by simp [binOp, Op.intArith, Op.intBits, Op.intCmp], rfl, rfl⟩)
      | (subst hk; split at h; · simp at h
         rename_i hn; simp only [sI_] at h; subst h; exact ⟨_, by simp [binOp, Op.intDiv, hn], rfl, rfl⟩)
      | (split at h; · simp at h
         rename_i hn; simp only [sI_] at h; subst h; exact ⟨_, by simp [binOp, Op.shift, hn], rfl, rfl⟩)
theorem zgi {op:BinOp} {b:Bool} {r:AV} (h:boolOp op b=some r):(op=.eql∧r=.v (.bool b))∨(op=.neq∧r=.v (.bool !b)):=by
 unfold boolOp at h
 split at h
 ·exact .inl ⟨rfl,by simpa using h.symm⟩
 ·exact .inr ⟨rfl,by simpa using h.symm⟩
 ·simp at h
theorem zee {t:TypeId} (h:eqT P t=some 0): ∃e,P.underlying t=some (.slice e):=by
 unfold eqT at h
 split at h
 ·rename_i e he;exact ⟨e,he⟩
 ·simp at h
 ·split at h<;>simp at h
 ·split at h<;>simp at h
 ·simp at h
theorem zpc {t:TypeId} (h:eqT P t=some 1):P.underlying t=some .bool:=by
 unfold eqT at h
 split at h
 ·simp at h
 ·rename_i he;exact he
 ·split at h<;>simp at h
 ·split at h<;>simp at h
 ·simp at h
theorem z99 (op:BinOp)(t:TypeId)(x y:Operand)(u v:Value)(b:Bool)(hg:(eqGuard op t x y u v).run P w=.ok () w)(hb:binOp .eql t u v=(do pure (.bool (←Op.equal t u v))))(hb':binOp .neq t u v=(do pure (.bool (!(←Op.equal t u v)))))
  (he:(Op.equalIn 10000 t u v).run P w=.ok b w) {r:AV} (h:boolOp op b=some r):
  ∃v',((do eqGuard op t x y u v;binOp op t u v):Sem Value).run P w=.ok v' w∧r=.v v'∧plainV v'=true:=by
 simp only [Sem.run_bind,hg,Result.andThen_ok]
 rcases zgi h with ⟨rfl,rfl⟩ | ⟨rfl,rfl⟩
 ·rw [hb]
  exact ⟨_,by simp [Op.equal,Op.maxDepth,he],rfl,rfl⟩
 ·rw [hb']
  exact ⟨_,by simp [Op.equal,Op.maxDepth,he],rfl,rfl⟩
theorem z98 (d:Nat)(t e:TypeId)(ht:P.underlying t=some (.slice e))(x:Addr)(n c n' c':Nat):(Op.equalIn (d+1) t (.slice (some x) n c) (.slice none n' c')).run P w=.ok false w:=by
 rw [Op.equalIn];simp [run_underlying ht]
theorem zg6 (d:Nat)(t e:TypeId)(ht:P.underlying t=some (.slice e))(n c n' c':Nat):(Op.equalIn (d+1) t (.slice none n c) (.slice none n' c')).run P w=.ok true w:=by
 rw [Op.equalIn];simp [run_underlying ht]
theorem zeu (d : Nat) (vx vy : Array Value) : ∀ (fs : List Field) (i : Nat) (xs ys : List AV) (b : Bool), (fs.zipIdx i).all (fun (f, i) => f.name != "_" && plainT P f.type && f.offset == i) = true → cellsEq xs ys = some b → xs.length = fs.length →
  Rels us w K xs (vx.toList.drop i)→Rels us w K ys (vy.toList.drop i)→(Op.eqFields (d+1) vx vy fs).run P w=.ok b w:=by
 intro fs
 induction fs with
 |nil=>
  intro i xs ys b _ h hl _ _
  cases xs with
  |nil=>cases ys with
   |nil=>simp [cellsEq] at h;subst h;simp [Op.eqFields]
   |cons _ _=>simp [cellsEq] at h
  |cons _ _=>simp at hl
 |cons f fs ih=>
  intro i xs ys b hall h hl hx hy
  cases xs with
  |nil=>simp at hl
  |cons x xs=>
   cases ys with
   |nil=>simp [cellsEq] at h
   |cons y ys=>
    simp only [List.zipIdx_cons,List.all_cons,Bool.and_eq_true,bne_iff_ne,ne_eq,beq_iff_eq] at hall
    obtain ⟨⟨⟨hname,hpl⟩,hoff⟩,hall⟩:=hall
    obtain ⟨k,m,n,b',rfl,rfl,h2,rfl⟩:=zau h
    obtain ⟨vx0,vxr,ex,hx0,hxr⟩:=hx.cons_inv
    obtain ⟨vy0,vyr,ey,hy0,hyr⟩:=hy.cons_inv
    have e1:=hx0.v_inv
    have e2:=hy0.v_inv
    subst e1 e2
    have g1:vx[i]? =some (.int k m):=by
     have:(vx.toList.drop i)[0]? =some (.int k m):=by rw [ex];rfl
     simpa using this
    have g2:vy[i]? =some (.int k n):=by
     have:(vy.toList.drop i)[0]? =some (.int k n):=by rw [ey];rfl
     simpa using this
    have d1:vx.toList.drop (i+1)=vxr:=by rw [←List.drop_drop,ex];rfl
    have d2:vy.toList.drop (i+1)=vyr:=by rw [←List.drop_drop,ey];rfl
    obtain ⟨ha,k',hk'⟩:=zc1 (w:=w) hpl
    have ih':=ih (i+1) xs ys b' hall h2 (by simpa using hl) (by rw [d1];exact hxr) (by rw [d2];exact hyr)
    have p1:(part f.type vx f.offset).run P w=.ok (.int k m) w:=by simp [part,ha,hoff,g1]
    have p2:(part f.type vy f.offset).run P w=.ok (.int k n) w:=by simp [part,ha,hoff,g2]
    simp only [Op.eqFields,ne_eq,hname,not_false_eq_true,if_true,Sem.run_bind,p1,p2,Result.andThen_ok,run_equalIn_int w d f.type k k' m n hk',Sem.run_ite]
    cases hmn:(m==n)
    ·simp
    ·simpa using ih'
theorem zkv {t:TypeId} {n:Nat} (h:eqT P t=some (n+2)):P.eqGuardType P.depth t=false∧
  ((∃ e, P.underlying t = some (.array n e) ∧ plainT P e = true ∧ sizeT P e = some 1) ∨ (∃ fs, P.underlying t = some (.struct fs) ∧ fs.size = n ∧ fs.toList.zipIdx.all (fun (f, i) => f.name != "_" && plainT P f.type && f.offset == i) = true ∧ P.stoodInHeld t = false)) := by
 unfold eqT at h
 split at h
 ·simp at h
 ·simp at h
 ·rename_i m e he
  split at h
  ·rename_i hc
   simp only [Bool.and_eq_true,beq_iff_eq] at hc
   simp only [sI_,Nat.add_right_cancel_iff] at h
   subst h
   exact ⟨hc.2,.inl ⟨e,he,hc.1.1,hc.1.2⟩⟩
  ·simp at h
 ·rename_i fs he
  split at h
  ·rename_i hc
   simp only [Bool.and_eq_true,Bool.not_eq_true',beq_iff_eq] at hc
   simp only [sI_,Nat.add_right_cancel_iff] at h
   exact ⟨hc.2,.inr ⟨fs,he,h,hc.1.1,hc.1.2⟩⟩
  ·simp at h
 ·simp at h
theorem zdy {t:TypeId} {n:Nat} (h:eqT P t=some (n+2))(xs ys:List AV)(b:Bool)(vx vy:Array Value)(hc:cellsEq xs ys=some b)(hn:xs.length=n)(hx:Rels us w K xs vx.toList)(hy:Rels us w K ys vy.toList):
  (Op.equalIn 10000 t (.agg vx) (.agg vy)).run P w=.ok b w:=by
 obtain ⟨_,⟨e,he,hp,hz⟩ | ⟨fs,he,hs,hall,hst⟩⟩:=zkv h
 ·exact zbe (us:=us) (K:=K) 9998 t e n he hp hz xs ys b vx vy hc hn hx hy
 ·have hf:P.fieldsOf t=fs:=by simp [Program.fieldsOf,he]
  rw [run_equalIn_struct w 9999 t vx vy (by rw [hf];exact he) hst,hf]
  exact zeu (us:=us) (K:=K) 9998 vx vy fs.toList 0 xs ys b hall hc (by simp;omega) (by simpa using hx) (by simpa using hy)
theorem rt_bin {op:BinOp} {t ty:TypeId} {x y:Operand} (ho:o.op=.binOp op t x y ty)(hE:EnvRel us w K env a)(hG:Good us w K st)(hv:valAV env (.bin op (eqT P t) x y)=some r):RunsTo P (execOp a.eval o) us w K st r:=by
 simp only [valAV] at hv
 have h1:=ze hE x
 have h2:=ze hE y
 have fin:(∃v,((do eqGuard op t x y (a.eval x) (a.eval y);binOp op t (a.eval x) (a.eval y)):Sem Value).run P w=.ok v w∧r=.v v∧plainV v=true)→RunsTo P (execOp a.eval o) us w K st r:=by
  rintro ⟨v,hr,rfl,hp⟩
  refine .same hG (x:=v) ?_ (.v K _ hp)
  simp only [execOp,ho,Sem.run_bind] at hr⊢
  rw [hr];rfl
 generalize aval env x=ax at hv h1
 generalize aval env y=ay at hv h2
 unfold binAV at hv
 split at hv
 ·rename_i k m k' n
  split at hv
  ·next hk=>
   rw [h1.v_inv,h2.v_inv] at fin
   exact fin (znw op t x y k k' m n hk hv)
  ·simp at hv
 ·rename_i p q
  split at hv
  ·next hq=>
   rw [h1.v_inv,h2.v_inv] at fin
   exact fin (z99 op t x y _ _ (p==q) (by rw [eqGuard_at_bool];rfl) rfl rfl (run_equalIn_bool' w 9999 t p q (zpc hq)) hv)
  ·simp at hv
 ·rename_i g z xs n c
  split at hv
  ·next hq=>
   obtain ⟨e,he⟩:=zee hq
   obtain ⟨b,p,cap,vs,h3,_⟩:=h1.lst_inv
   rw [h3,h2.v_inv] at fin
   exact fin (z99 op t x y _ _ false (by rw [eqGuard_at_slice];rfl) rfl rfl (z98 9999 t e he _ _ _ _ _) hv)
  ·simp at hv
 ·rename_i l q' n' c' z' b' n c
  split at hv
  ·next hq=>
   obtain ⟨e,he⟩:=zee hq
   obtain ⟨b,_,_,h3,_⟩:=h1.rsl_inv
   rw [h3,h2.v_inv] at fin
   exact fin (z99 op t x y _ _ false (by rw [eqGuard_at_slice];rfl) rfl rfl (z98 9999 t e he _ _ _ _ _) hv)
  ·simp at hv
 ·rename_i n c n' c'
  split at hv
  ·next hq=>
   obtain ⟨e,he⟩:=zee hq
   rw [h1.v_inv,h2.v_inv] at fin
   exact fin (z99 op t x y _ _ true (by rw [eqGuard_at_slice];rfl) rfl rfl (zg6 9999 t e he _ _ _ _) hv)
  ·simp at hv
 ·rename_i xs ys
  split at hv
  ·rename_i n b hq hc
   split at hv
   ·next hn=>
    obtain ⟨vx,h3,h4⟩:=h1.agg_inv
    obtain ⟨vy,h5,h6⟩:=h2.agg_inv
    rw [h3,h5] at fin
    exact fin (z99 op t x y _ _ b (run_eqGuard_agg w op t x y vx vy (zkv hq).1) rfl rfl (zdy hq xs ys b vx vy hc hn h4 h6) hv)
   ·simp at hv
  ·simp at hv
 ·simp at hv
end
end Go.Ev
namespace Go.Ev
open Go
section
variable {P:Program} {us:Us} {w:World} {K:Kx} {st:St}
variable {o:Oper} {env:Env} {a:Act} {r:AV}
theorem z8j {A:AV} {n:Nat} {x:Value} (h:natOf A=some n)(hr:Rel us w K A x): ∃(k:IntKind) (i:Int),x=.int k i∧0≤i∧i.toNat=n:=by
 unfold natOf at h
 split at h
 ·rename_i k i
  split at h
  ·rename_i hi
   exact ⟨k,i,hr.v_inv,hi,by simpa using h⟩
  ·simp at h
 ·simp at h
inductive OptRel (us:Us) (w:World) (K:Kx):Option AV→Option Value→Prop
 |none:OptRel us w K none none
 |some {A x} (h:Rel us w K A x):OptRel us w K (some A) (some x)
theorem z62 (hE:EnvRel us w K env a)(x:Option Operand):OptRel us w K (x.map (aval env)) (x.map a.eval):=by
 cases x with
 |none=>exact .none
 |some x=>exact .some (ze hE x)
theorem zcm {x:Value} {k:IntKind} {i:Int} {n y:Nat} (code:BoundsCode)(hx:x=.int k i)(h0:0≤i)(hn:i.toNat=n)(hy:n≤y):(Instr.sliceBound x y code).run P w=.ok n w:=by
 subst hx
 have:i≤y:=by omega
 simp [Instr.sliceBound,asIntOf,h0,this,hn]
theorem z1l {isSlice:Bool} {len cap l h m:Nat} {lo hi mx:Option AV} {vlo vhi vmx:Option Value} (rlo:OptRel us w K lo vlo)(rhi:OptRel us w K hi vhi)(rmx:OptRel us w K mx vmx)
  (hl:natOr 0 lo=some l) (hh:natOr len hi=some h) (hm:natOr cap mx=some m) (h1:l≤h) (h2:h≤m) (h3:m≤cap) (h4:mx.isSome=true→hi.isSome=true):
  (Instr.sliceBounds isSlice len cap vlo vhi vmx).run P w=.ok (l,h,m) w:=by
 have key: ∀{A:Option AV} {v:Value} {d n y:Nat} (code:BoundsCode),OptRel us w K A (some v)→natOr d A=some n→n≤y→(Instr.sliceBound v y code).run P w=.ok n w:=by
  intro A v d n y code hr hn hy
  cases hr with
  |some r=>
   obtain ⟨k,i,hx,h0,hn⟩:=z8j (by simpa [natOr] using hn) r
   exact zcm code hx h0 hn hy
 have none': ∀{A:Option AV} {d n:Nat},OptRel us w K A none→natOr d A=some n→n=d:=by
  intro A d n hr hn
  cases hr
  simpa [natOr] using hn.symm
 unfold Instr.sliceBounds
 cases vmx with
 |none=>
  have e1:=none' rmx hm
  subst e1
  cases vhi with
  |none=>
   have e2:=none' rhi hh
   subst e2
   cases vlo with
   |none=>have e3:=none' rlo hl;subst e3;simp
   |some v=>have e3:=fun c=>key (y:=h) c rlo hl h1;simp [e3]
  |some u=>
   have e2:=fun c=>key (y:=m) c rhi hh h2
   cases vlo with
   |none=>have e3:=none' rlo hl;subst e3;simp [e2]
   |some v=>have e3:=fun c=>key (y:=h) c rlo hl h1;simp [e2,e3]
 |some v1=>
  have e1:=fun c=>key (y:=cap) c rmx hm h3
  cases vhi with
  |none=>cases rmx;cases rhi;simp at h4
  |some u=>
   have e2:=fun c=>key (y:=m) c rhi hh h2
   cases vlo with
   |none=>have e3:=none' rlo hl;subst e3;simp [e1,e2]
   |some v=>have e3:=fun c=>key (y:=h) c rlo hl h1;simp [e1,e2,e3]
theorem zks {z:Nat} (xs:List AV)(h: ∀x∈xs,x.cells.length=z)(k:Nat)(hk:k≤xs.length):flat (xs.take k)=(flat xs).take (k*z):=by
 have e:flat xs=flat (xs.take k)++flat (xs.drop k):=by rw [←z5h,List.take_append_drop]
 have hl:(flat (xs.take k)).length=k*z:=by
  rw [z15 (z:=z) _ (fun y hy=>h y (List.mem_of_mem_take hy)),List.length_take]
  congr 1;omega
 rw [e,←hl,List.take_left]
theorem zku {z:Nat} (xs:List AV)(h: ∀x∈xs,x.cells.length=z)(k:Nat)(hk:k≤xs.length):flat (xs.drop k)=(flat xs).drop (k*z):=by
 have e:flat xs=flat (xs.take k)++flat (xs.drop k):=by rw [←z5h,List.take_append_drop]
 have hl:(flat (xs.take k)).length=k*z:=by
  rw [z15 (z:=z) _ (fun y hy=>h y (List.mem_of_mem_take hy)),List.length_take]
  congr 1;omega
 rw [e,←hl,List.drop_left]
theorem LstAt.part {g z xs c p cap vs} (h:LstAt us w K g z xs c p cap vs)(l k m:Nat)(hl:l≤k)(hk:k≤xs.length)(hm:k≤m)(hmc:m≤cap)(g':Tag)
  (hg:Tagged us w K g' c (if m=l then p else p+l*z) (k-l) (m-l) z):
  Rel us w K (.lst g' z ((xs.take k).drop l)) (.slice (some ⟨c,if m=l then p else p+l*z,none⟩) (k-l) (m-l)):=by
 obtain ⟨n,hn,hn2⟩:=h.lies
 have hlen:vs.length=xs.length*z:=by rw [←h.rels.len,z15 xs h.each]
 have hkz:k*z≤xs.length*z:=Nat.mul_le_mul_right z hk
 have hlz:l*z≤k*z:=Nat.mul_le_mul_right z hl
 have hx:((xs.take k).drop l).length=k-l:=by simp;omega
 have heach: ∀x∈(xs.take k).drop l,x.cells.length=z:=fun x hx=>h.each x (List.mem_of_mem_take (List.mem_of_mem_drop hx))
 have hfl:flat ((xs.take k).drop l)=((flat xs).take (k*z)).drop (l*z):=by
  rw [zku (z:=z) _ (fun x hx=>h.each x (List.mem_of_mem_take hx)) l (by simp;omega),zks xs h.each k hk]
 have hvl:((vs.take (k*z)).drop (l*z)).length=k*z-l*z:=by simp;omega
 have key:LstAt us w K g' z ((xs.take k).drop l) c (if m=l then p else p+l*z) (m-l) ((vs.take (k*z)).drop (l*z)):=by
  refine ⟨⟨n,hn,?_⟩,?_,?_,heach,by omega,?_,by rw [hx];exact hg⟩
  ·rw [hvl];split<;>omega
  ·intro i hi
   rw [hvl] at hi
   by_cases e:m=l
   ·have:k=l:=by omega
    subst this;omega
   ·rw [if_neg e]
    have:=h.cells (l*z+i) (by omega)
    rw [Nat.add_assoc,this]
    simp
  ·intro x hx
   exact h.one x (List.mem_of_mem_take (List.mem_of_mem_drop hx))
  ·rw [hfl];exact (h.rels.take (k*z)).drop (l*z)
 have:=key.rel
 rw [hx] at this
 exact this
theorem zli {x:Operand} {t e:TypeId} {z:Nat} {lo hi mx:Option Operand} (ho:o.op=.slice t x lo hi mx)(ht:P.underlying t=some (.slice e))(hz:sizeT P e=some z)
  (hE:EnvRel us w K env a) (hG:Good us w K st) (hv:valAV env (.slice z x lo hi mx)=some r):RunsTo P (execOp a.eval o) us w K st r:=by
 simp only [valAV] at hv
 have h1:=ze hE x
 have rlo:=z62 hE lo
 have rhi:=z62 hE hi
 have rmx:=z62 hE mx
 have hz': ∃i,P.info? e=some i∧i.size=z:=by
  simp only [sizeT] at hz
  cases hi:P.info? e with
  |none=>simp [hi] at hz
  |some i=>exact ⟨i,rfl,by simpa [hi] using hz⟩
 obtain ⟨ti,hti,hti2⟩:=hz'
 have run: ∀b n cap l h m,a.eval x=.slice b n cap→(Instr.sliceBounds true n cap (lo.map a.eval) (hi.map a.eval) (mx.map a.eval)).run P w=.ok (l,h,m) w→
   (execOp a.eval o).run P w=.ok (.value (.slice (if m=l then b else b.map (·.add (l*z))) (h-l) (m-l))) w:=by
  intro b n cap l h m hx hb
  simp [execOp,ho,Instr.sliceAt,run_underlying ht,Instr.slice,hx,hb,sizeOf,typeInfo,hti,hti2]
 generalize aval env x=ax at hv h1
 generalize lo.map (aval env)=alo at hv rlo
 generalize hi.map (aval env)=ahi at hv rhi
 generalize mx.map (aval env)=amx at hv rmx
 have addr: ∀(c p l m:Nat),(if m=l then some (⟨c,p,none⟩:Addr) else (some (⟨c,p,none⟩:Addr)).map (·.add (l*z)))=some ⟨c,if m=l then p else p+l*z,none⟩:=by
  intro c p l m
  split<;>simp [Addr.add_lit]
 unfold sliceAV at hv
 split at hv
 ·rename_i g z' xs
  obtain ⟨c,p,cap,vs,h3,h4⟩:=h1.lst_inv
  have hcap:=h4.fits
  split at hv
  ·next hzz=>
   subst hzz
   split at hv
   ·rename_i l h hl hh
    split at hv
    ·next hb=>
     have hb1:=z1l (P:=P) (isSlice:=true) (cap:=cap) (m:=cap) rlo rhi rmx hl hh rfl hb.1 (by omega) (by omega) (by simp)
     simp only [sI_] at hv
     subst hv
     have hr:=run _ _ _ _ _ _ h3 hb1
     rw [addr] at hr
     refine .same hG hr (h4.part l h cap hb.1 hb.2 (by omega) (by omega) _ ?_)
     unfold tagSlice
     cases g with
     |any=>trivial
     |full=>
      have e:cap=xs.length:=h4.tag
      by_cases hc:h=xs.length∧l<h
      ·simp only [if_pos hc];show cap-l=h-l;omega
      ·simp only [if_neg hc];trivial
     |own t e=>
      by_cases hc:h=xs.length∧l=0∧0<h
      ·obtain ⟨rfl,rfl,h0⟩:=hc
       have:=h4.tag
       have e1:cap≠0:=by omega
       simpa [e1,h0] using this
      ·simp only [hc,if_false];trivial
    ·simp at hv
   ·rename_i l h m hl hh
    split at hv
    ·rename_i m' hm
     split at hv
     ·next hb=>
      obtain ⟨hb1,hb2,rfl,hb4⟩:=hb
      have hb5:=z1l (P:=P) (isSlice:=true) (cap:=cap) (m:=m') rlo rhi rmx hl hh hm hb1 (by omega) (by omega) (fun _=>hb4)
      simp only [sI_] at hv
      subst hv
      have hr:=run _ _ _ _ _ _ h3 hb5
      rw [addr] at hr
      exact .same hG hr (h4.part l m' m' hb1 hb2 (by omega) (by omega) _ rfl)
     ·simp at hv
    ·simp at hv
   ·simp at hv
  ·simp at hv
 ·rename_i l q n cp z' b
  obtain ⟨c,cap,hc,h3,hcap⟩:=h1.rsl_inv
  have hcle:=hcap.le
  split at hv
  ·rename_i lx h m hl hh hm
   split at hv
   ·next hb=>
    obtain ⟨rfl,hb1,hb2,hb3,hb4,hb6⟩:=hb
    simp only [sI_] at hv
    subst hv
    cases amx with
    |some mv=>
     have hb5:=z1l (P:=P) (isSlice:=true) (cap:=cap) rlo rhi rmx hl hh (show natOr cap (some mv)=some m from hm) hb1 hb2 (by omega) hb4
     have hr:=run _ _ _ _ _ _ h3 hb5
     rw [addr] at hr
     exact .same hG hr (.rsl K l _ _ _ z b c _ hc (.inl rfl))
    |none=>
     have em:cp=m:=by simpa [natOr] using hm
     subst em
     have hb5:=z1l (P:=P) (isSlice:=true) (cap:=cap) rlo rhi rmx hl hh rfl hb1 (by omega) (Nat.le_refl _) (by simp)
     have hr:=run _ _ _ _ _ _ h3 hb5
     rw [addr] at hr
     have hb6:lx<cp∨lx=0:=hb6.resolve_left (by simp)
     have ho:(if cap=lx then q else q+lx*z)=(if cp=lx then q else q+lx*z):=by
      rcases hb6 with h6|h6
      ·rw [if_neg (by omega),if_neg (by omega)]
      ·subst h6;simp
     rw [ho] at hr
     refine .same hG hr (.rsl K l _ _ _ z b c _ hc ?_)
     rcases hcap with h7| ⟨h7,M,h8,h9⟩
     ·exact .inl (by omega)
     ·refine .inr ⟨by omega,M,h8,?_⟩
      have e:lx*z+(cap-lx)*z=cap*z:=by rw [←Nat.add_mul];congr 1;omega
      split
      ·have:(cap-lx)*z≤cap*z:=Nat.mul_le_mul_right z (by omega)
       omega
      ·omega
   ·simp at hv
  ·simp at hv
 ·have h3:=h1.v_inv
  split at hv
  ·rename_i hl hh hm
   split at hv
   ·next hb=>
    have hb5:=z1l (P:=P) (isSlice:=true) (cap:=0) rlo rhi rmx hl hh hm (Nat.le_refl _) (Nat.le_refl _) (Nat.le_refl _) hb
    simp only [sI_] at hv
    subst hv
    have hr:=run _ _ _ _ _ _ h3 hb5
    exact .same hG hr (.v K _ rfl)
   ·simp at hv
  ·simp at hv
 ·simp at hv
theorem zj4 {x:Operand} {t e:TypeId} {n z:Nat} {ag:Bool} {lo hi mx:Option Operand} (ho:o.op=.slice t x lo hi mx)(ht:P.underlying t=some (.array n e))(hz:sizeT P e=some z)
  (hE:EnvRel us w K env a) (hG:Good us w K st) (hv:valAV env (.slicea n z ag x lo hi mx)=some r):RunsTo P (execOp a.eval o) us w K st r:=by
 simp only [valAV] at hv
 have h1:=ze hE x
 have rlo:=z62 hE lo
 have rhi:=z62 hE hi
 have rmx:=z62 hE mx
 have hz': ∃i,P.info? e=some i∧i.size=z:=by
  simp only [sizeT] at hz
  cases hi:P.info? e with
  |none=>simp [hi] at hz
  |some i=>exact ⟨i,rfl,by simpa [hi] using hz⟩
 obtain ⟨ti,hti,hti2⟩:=hz'
 generalize aval env x=ax at hv h1
 unfold sliceaAV at hv
 split at hv
 ·rename_i l q
  obtain ⟨c,hc,h3⟩:=h1.ptr_inv
  split at hv
  ·rename_i lx h m hl hh hm
   split at hv
   ·next hb=>
    obtain ⟨hb1,hb2,hb3,hb4⟩:=hb
    have hb5:=z1l (P:=P) (isSlice:=false) (cap:=n) rlo rhi rmx hl hh hm hb1 hb2 hb3 hb4
    simp only [sI_] at hv
    subst hv
    refine .same hG (x:=.slice (some ⟨c,if m=lx then q else q+lx*z,none⟩) (h-lx) (m-lx)) ?_ (.rsl K l _ _ _ z ag c _ hc (.inl rfl))
    simp only [execOp,ho,Instr.sliceAt,Sem.run_bind,run_underlying ht,Result.andThen_ok,Instr.sureAddr,h3,Sem.run_pure,hb5,sizeOf,typeInfo,run_program,hti,hti2,Addr.add_lit]
    congr 3
    split<;>rfl
   ·simp at hv
  ·simp at hv
 ·simp at hv
theorem z9b {ag:Bool} {s q:Nat} {cs:List AV} {vs:List Value} {r:AV} (h:readCells ag s q cs=some r)(hr:Rels us w K cs vs):
  (ag=true∧q+s≤vs.length∧Rel us w K r (.agg ((vs.drop q).take s).toArray))∨(ag=false∧∃x,vs[q]? =some x∧Rel us w K r x):=by
 unfold readCells at h
 cases ag with
 |true=>
  simp only [if_true] at h
  split at h
  ·next hb=>
   simp only [sI_] at h
   subst h
   refine .inl ⟨rfl,by rw [←hr.len];exact hb,Rel.mkAgg ?_⟩
   simpa using (hr.drop q).take s
  ·simp at h
 |false=>
  simp only [Bool.false_eq_true,if_false] at h
  obtain ⟨x,h1,h2⟩:=hr.get h
  exact .inr ⟨rfl,x,h1,h2⟩
theorem zbc {e:TypeId} {ag:Bool} (h:isAggT P e=some ag):(Go.isAgg e).run P w=.ok ag w:=by
 unfold isAggT at h
 cases hd:P.underlying e with
 |none=>simp [hd] at h
 |some d=>
  rw [hd] at h
  cases d<;>simp only [sI_] at h<;>subst h<;>simp [Go.isAgg,run_underlying hd]
theorem zgs {e:TypeId} {z q:Nat} {ag:Bool} {cs:List AV} {vs:Array Value} {r:AV} (hz:sizeT P e=some z)(hag:isAggT P e=some ag)(h:readCells ag z q cs=some r)(hr:Rels us w K cs vs.toList):
  ∃x,(part e vs q).run P w=.ok x w∧Rel us w K r x:=by
 have hz': ∃i,P.info? e=some i∧i.size=z:=by
  simp only [sizeT] at hz
  cases hi:P.info? e with
  |none=>simp [hi] at hz
  |some i=>exact ⟨i,rfl,by simpa [hi] using hz⟩
 obtain ⟨ti,hti,hti2⟩:=hz'
 have hagg:=zbc (w:=w) hag
 rcases z9b h hr with ⟨rfl,hb,h2⟩ | ⟨rfl,x,hx,h2⟩
 ·refine ⟨_,?_,h2⟩
  simp only [part,Sem.run_bind,hagg,Result.andThen_ok,if_true,sizeOf,typeInfo,run_program,hti,Sem.run_pure,hti2]
  congr 2
  apply Array.ext'
  simp
 ·refine ⟨x,?_,h2⟩
  have:vs[q]? =some x:=by simpa using hx
  simp [part,hagg,this]
end
end Go.Ev
namespace Go.Ev
open Go
section
variable {P:Program} {us:Us} {w:World} {K:Kx} {st:St}
variable {o:Oper} {env:Env} {a:Act} {r:AV}
theorem zlk {x:Operand} {t:TypeId} {f s:Nat} {ag:Bool} {fs:Array Field} {fd:Field} (ho:o.op=.field t x f)(ht:P.underlying t=some (.struct fs))(hf:fs[f]? =some fd)(hs:sizeT P fd.type=some s)(hag:isAggT P fd.type=some ag)
  (hE:EnvRel us w K env a) (hG:Good us w K st) (hv:valAV env (.field fd.offset s ag x)=some r):RunsTo P (execOp a.eval o) us w K st r:=by
 simp only [valAV] at hv
 have h1:=ze hE x
 generalize aval env x=ax at hv h1
 unfold fieldAV at hv
 split at hv
 ·obtain ⟨vs,h2,h3⟩:=h1.agg_inv
  obtain ⟨y,hy,hr⟩:=zgs (P:=P) hs hag hv h3
  exact .same hG (x:=y) (by simp [execOp,ho,Instr.field,run_underlying ht,hf,asAgg,h2,hy]) hr
 ·simp at hv
theorem zj6 {x i:Operand} {t e:TypeId} {n z:Nat} {ag:Bool} (ho:o.op=.index t x i)(ht:P.underlying t=some (.array n e))(hz:sizeT P e=some z)(hag:isAggT P e=some ag)
  (hE:EnvRel us w K env a) (hG:Good us w K st) (hv:valAV env (.indexV n z ag x i)=some r):RunsTo P (execOp a.eval o) us w K st r:=by
 simp only [valAV] at hv
 have h1:=ze hE x
 have h2:=ze hE i
 have hz': ∃i,P.info? e=some i∧i.size=z:=by
  simp only [sizeT] at hz
  cases hi:P.info? e with
  |none=>simp [hi] at hz
  |some i=>exact ⟨i,rfl,by simpa [hi] using hz⟩
 obtain ⟨ti,hti,hti2⟩:=hz'
 generalize aval env x=ax at hv h1
 generalize aval env i=ai at hv h2
 unfold indexVAV at hv
 split at hv
 ·rename_i cs k j
  split at hv
  ·next hj=>
   obtain ⟨vs,h3,h4⟩:=h1.agg_inv
   obtain ⟨y,hy,hr⟩:=zgs (P:=P) (w:=w) hz hag hv h4
   refine .same hG (x:=y) ?_ hr
   simp only [execOp,ho,Instr.index,Sem.run_bind,h2.v_inv,asIntOf,Sem.run_pure,Result.andThen_ok,run_underlying ht,h3,hj.1,hj.2,and_self,if_true,sizeOf,typeInfo,run_program,hti,hti2,hy]
  ·simp at hv
 ·simp at hv
theorem zg8 {x i:Operand} {t:TypeId} (ho:o.op=.index t x i)(ht:P.underlying t=some .string)(hE:EnvRel us w K env a)(hG:Good us w K st)(hv:valAV env (.indexStr x i)=some r):
  RunsTo P (execOp a.eval o) us w K st r:=by
 simp only [valAV] at hv
 have h1:=ze hE x
 have h2:=ze hE i
 generalize aval env x=ax at hv h1
 generalize aval env i=ai at hv h2
 unfold indexStrAV at hv
 split at hv
 ·rename_i s k j
  split at hv
  ·next hj=>
   cases hb:s[j.toNat]? with
   |none=>simp [hb] at hv
   |some b=>
    simp only [hb,Option.map_some,sI_] at hv
    subst hv
    refine .same hG (x:=.int .u8 b.toNat) ?_ (.v K _ rfl)
    simp only [execOp,ho,Instr.index,Sem.run_bind,h2.v_inv,asIntOf,Sem.run_pure,Result.andThen_ok,run_underlying ht,h1.v_inv,hj,if_true,hb]
  ·simp at hv
 ·simp at hv
theorem z7x (cs:List AV)(q:Nat)(xs:List AV):(putCells cs q xs).length=cs.length:=by
 induction xs generalizing cs q with
 |nil=>rfl
 |cons x r ih=>simp [putCells,ih]
theorem zkn (q:Nat): ∀(l:List Value) (k:Nat) (cells:Array Value) (cs xs:List AV),Rels us w K cs cells.toList→Rels us w K xs l→
  Rels us w K (putCells cs (q+k) xs) ((l.zipIdx k).foldl (fun (cs:Array Value) (p:Value×Nat)=>cs.setIfInBounds (q+p.2) p.1) cells).toList:=by
 intro l
 induction l with
 |nil=>intro k cells cs xs h hx;cases xs with
  |nil=>simpa [putCells] using h
  |cons _ _=>exact absurd hx.len (by simp)
 |cons v l ih=>
  intro k cells cs xs h hx
  cases xs with
  |nil=>exact absurd hx.len (by simp)
  |cons x xs=>
   obtain ⟨v',l',e,h1,h2⟩:=hx.cons_inv
   simp only [List.cons.injEq] at e
   obtain ⟨rfl,rfl⟩:=e
   simp only [List.zipIdx_cons,List.foldl_cons,putCells]
   have:=ih (k+1) (cells.setIfInBounds (q+k) v) (cs.set (q+k) x) xs (by simpa using h.set (q+k) h1) h2
   simpa [Nat.add_assoc] using this
theorem zah (vc:Array Value)(q:Nat)(cells:Array Value):
  vc.zipIdx.foldl (fun (cs:Array Value) (x:Value×Nat)=>match x with|(c,j)=>cs.setIfInBounds (q+j) c) cells=(vc.toList.zipIdx 0).foldl (fun (cs:Array Value) (p:Value×Nat)=>cs.setIfInBounds (q+p.2) p.1) cells:=by
 rw [←Array.foldl_toList,Array.toList_zipIdx]
theorem zdi (q:Nat)(vc cells:Array Value)(cs xs:List AV)(h:Rels us w K cs cells.toList)(hx:Rels us w K xs vc.toList):
  Rels us w K (putCells cs q xs) (vc.zipIdx.foldl (fun (cs:Array Value) (x:Value×Nat)=>match x with|(c,j)=>cs.setIfInBounds (q+j) c) cells).toList:=by
 rw [zah]
 exact zkn q vc.toList 0 cells cs xs h hx
theorem zhd (place:Nat→Option (Nat×Nat)): ∀(ps:List (Nat×Operand)) (ps':List (Nat×Nat×AV)) (cells:Array Value) (cs cs':List AV),EnvRel us w K env a→
  (ps'.map fun p=>(p.1,p.2.1))=ps.filterMap (fun p=>place p.1)→(∀p∈ps,(place p.1).isSome=true)→(ps'.map fun p=>p.2.2)=ps.map (fun p=>aval env p.2)→
  Rels us w K cs cells.toList→setParts cs ps'=some cs'→∃cells',Instr.fill place cells (ps.map fun (i,x)=>(i,a.eval x))=some cells'∧Rels us w K cs' cells'.toList:=by
 intro ps
 induction ps with
 |nil=>
  intro ps' cells cs cs' _ _ _ h2 h h3
  cases ps' with
  |nil=>simp [setParts] at h3;subst h3;exact ⟨cells,rfl,h⟩
  |cons _ _=>simp at h2
 |cons p ps ih=>
  intro ps' cells cs cs' hE h0 h1 h2 h h3
  cases ps' with
  |nil=>simp at h2
  |cons p' ps'=>
   obtain ⟨i,x⟩:=p
   obtain ⟨q,s,y⟩:=p'
   have hs:=h1 (i,x) (by simp)
   obtain ⟨⟨q1,s1⟩,hp⟩:=Option.isSome_iff_exists.1 hs
   simp only at hp
   simp only [List.map_cons,List.filterMap_cons,hp,List.cons.injEq,Prod.mk.injEq] at h0
   obtain ⟨⟨rfl,rfl⟩,h0⟩:=h0
   simp only [List.map_cons,List.cons.injEq] at h2
   obtain ⟨rfl,h2⟩:=h2
   simp only [setParts] at h3
   split at h3
   ·next hc=>
    obtain ⟨hc1,hc2,hc3⟩:=hc
    have hx:=ze hE x
    have hcells:=hx.cells hc1
    have e1:(a.eval x).cells.size=s:=by rw [←hc2,hcells.len];simp
    have e2:cells.size=cs.length:=by rw [h.len];simp
    obtain ⟨cells',h4,h5⟩:=ih ps' _ _ cs' hE h0 (fun p hp=>h1 p (by simp [hp])) h2 (zdi q (a.eval x).cells cells cs _ h hcells) h3
    refine ⟨cells',?_,h5⟩
    simp only [List.map_cons,Instr.fill,hp]
    rw [if_neg]
    ·exact h4
    ·simp [e1,e2];omega
   ·simp at h3
theorem z6t {t:TypeId} {z:Value} (h:zeroT P t=some z):(zeroValue t).run P w=.ok z w:=by
 simp only [zeroT] at h
 cases hi:P.info? t with
 |none=>simp [hi] at h
 |some i=>simp only [hi,Option.bind_some] at h;simp [zeroValue,typeInfo,hi,h]
theorem z5r {t:TypeId} {z:Nat} (h:sizeT P t=some z):(sizeOf t).run P w=.ok z w:=by
 simp only [sizeT] at h
 cases hi:P.info? t with
 |none=>simp [hi] at h
 |some i=>simp only [hi,Option.map_some,sI_] at h;simp [sizeOf,typeInfo,hi,h]
theorem z3j (z:Value)(h:z.cells.toList.all plainV=true):Rels us w K (zcells z) z.cells.toList:=zjf _ h
theorem z0k {z:Value}:(zcells z).all storable=true→z.cells.toList.all plainV=true:=by
 simp only [zcells,List.all_map,List.all_eq_true]
 intro h x hx
 have:=h x hx
 simp only [Function.comp] at this
 cases x<;>simp_all [storable,plainV]
theorem zbd (fs:Array Field)(h:fs.all (fun f=>(sizeT P f.type).isSome)=true):
  ((fs.mapM fun f=>do pure (f.offset,←sizeOf f.type)):Sem (Array (Nat×Nat))).run P w=.ok (fs.map fun f=>(f.offset,(sizeT P f.type).getD 0)) w:=by
 rw [Array.mapM_eq_mapM_toList]
 have key: ∀(l:List Field),(∀f∈l,(sizeT P f.type).isSome=true)→((l.mapM fun f=>do pure (f.offset,←sizeOf f.type)):Sem (List (Nat×Nat))).run P w=.ok (l.map fun f=>(f.offset,(sizeT P f.type).getD 0)) w:=by
  intro l
  induction l with
  |nil=>intro _;rfl
  |cons f l ih=>
   intro hl
   obtain ⟨s,hs⟩:=Option.isSome_iff_exists.1 (hl f (by simp))
   simp only [List.mapM_cons,Sem.run_bind,z5r hs,Result.andThen_ok,Sem.run_pure,ih (fun g hg=>hl g (by simp [hg])),List.map_cons,hs,Option.getD_some]
 rw [Sem.run_map,key fs.toList (by
  intro f hf
  rw [←Array.all_toList] at h
  exact List.all_eq_true.1 h f hf)]
 simp only [Result.andThen_ok,Result.ok.injEq,and_true]
 apply Array.ext'
 simp
theorem ze7 {α β:Type} {f:α→Option β}: ∀{l:List α} {l':List β},l.mapM f=some l'→l'.length=l.length∧∀i (h:i<l.length) (h':i<l'.length),f l[i]=some l'[i]
 | [],l',h=>by simp at h;subst h;simp
 |x::l,l',h=>by
  rw [List.mapM_cons] at h
  cases hx:f x with
  |none=>simp [hx] at h
  |some y=>
   cases hl:l.mapM f with
   |none=>simp [hx,hl] at h
   |some ys=>
    simp [hx,hl] at h
    subst h
    obtain ⟨h1,h2⟩:=ze7 hl
    refine ⟨by simp [h1],fun i hi hi'=> ?_⟩
    cases i with
    |zero=>simpa using hx
    |succ i=>simpa using h2 i (by simpa using hi) (by simpa using hi')
theorem zbf {t:TypeId} {ps:Array (Nat×Operand)} {fs:Array Field} {zero:Value} {ps':List (Nat×Nat×Operand)} (ho:o.op=.build t ps)(hz:zeroT P t=some zero)(hzp:(zcells zero).all storable=true)(ht:P.underlying t=some (.struct fs))
  (hall:fs.all (fun f=>(sizeT P f.type).isSome)=true) (hps:(ps.toList.mapM fun (p:Nat×Operand)=>(fs[p.1]?).bind fun (f:Field)=>(sizeT P f.type).map fun s=>(f.offset,s,p.2))=some ps')
  (hE:EnvRel us w K env a) (hG:Good us w K st) (hv:valAV env (.build (zcells zero) ps')=some r):RunsTo P (execOp a.eval o) us w K st r:=by
 simp only [valAV] at hv
 split at hv
 ·rename_i cs' hset
  simp only [sI_] at hv
  subst hv
  have hz0:Rels us w K (zcells zero) zero.cells.toList:=z3j zero (z0k hzp)
  have hpl:=ze7 hps
  let place:Nat→Option (Nat×Nat):=((fs.map fun f=>(f.offset,(sizeT P f.type).getD 0))[·]?)
  have step: ∀(p:Nat×Operand) (y:Nat×Nat×Operand),((fs[p.1]?).bind fun (f:Field)=>(sizeT P f.type).map fun s=>(f.offset,s,p.2))=some y→place p.1=some (y.1,y.2.1)∧y.2.2=p.2:=by
   intro p y h
   cases hf:fs[p.1]? with
   |none=>simp [hf] at h
   |some f=>
    simp only [hf,Option.bind_some] at h
    cases hs:sizeT P f.type with
    |none=>simp [hs] at h
    |some s=>
     simp only [hs,Option.map_some,sI_] at h
     subst h
     simp [place,hf,hs]
  have hlist: ∀(l:List (Nat×Operand)) (l':List (Nat×Nat×Operand)),l'.length=l.length→(∀i (h:i<l.length) (h':i<l'.length),place l[i].1=some (l'[i].1,l'[i].2.1)∧l'[i].2.2=l[i].2)→
    ((withO2 env l').map fun p=>(p.1,p.2.1))=l.filterMap (fun p=>place p.1)∧(∀p∈l,(place p.1).isSome=true)∧((withO2 env l').map fun p=>p.2.2)=l.map (fun p=>aval env p.2):=by
   intro l
   induction l with
   |nil=>intro l' hl _;cases l' with
    |nil=>simp [withO2]
    |cons _ _=>simp at hl
   |cons p l ih=>
    intro l' hl hh
    cases l' with
    |nil=>simp at hl
    |cons y l'=>
     obtain ⟨h1,h2,h3⟩:=ih l' (by simpa using hl) (fun i h h'=>by
      have:=hh (i+1) (by simpa using h) (by simpa using h')
      simp only [List.getElem_cons_succ] at this
      exact this)
     obtain ⟨h4,h5⟩:=hh 0 (by simp) (by simp)
     simp only [List.getElem_cons_zero] at h4 h5
     refine ⟨?_,?_,?_⟩
     ·simp only [withO2,List.map_cons,List.filterMap_cons,h4]
      simp only [withO2] at h1
      simp [←h1]
     ·intro q hq
      rcases List.mem_cons.1 hq with rfl|hq
      ·simp [h4]
      ·exact h2 q hq
     ·simp only [withO2,List.map_cons,List.map_map] at h3⊢
      rw [←h3,h5]
  obtain ⟨h1,h2,h3⟩:=hlist ps.toList ps' hpl.1 (fun i h h'=>step _ _ (hpl.2 i h h'))
  obtain ⟨cells',h4,h5⟩:=zhd (env:=env) (a:=a) place ps.toList (withO2 env ps') zero.cells (zcells zero) cs' hE h1 h2 h3 hz0 hset
  refine .same hG (x:=.agg cells') ?_ (Rel.mkAgg h5)
  simp only [execOp,ho,Instr.build,Sem.run_bind,z6t hz,Result.andThen_ok,run_underlying ht,zbd fs hall]
  have e:(ps.map fun (x:Nat×Operand)=>match x with|(i,x)=>(i,a.eval x)).toList=ps.toList.map fun (i,x)=>(i,a.eval x):=by simp
  rw [e,h4]
  rfl
 ·simp at hv
theorem zco {t e:TypeId} {n s:Nat} {ps:Array (Nat×Operand)} {zero:Value} (ho:o.op=.build t ps)(hz:zeroT P t=some zero)(hzp:(zcells zero).all storable=true)(ht:P.underlying t=some (.array n e))(hs:sizeT P e=some s)
  (hE:EnvRel us w K env a) (hG:Good us w K st) (hv:valAV env (.build (zcells zero) (ps.toList.map fun (p:Nat×Operand)=>(p.1*s,s,p.2)))=some r):RunsTo P (execOp a.eval o) us w K st r:=by
 simp only [valAV] at hv
 split at hv
 ·rename_i cs' hset
  simp only [sI_] at hv
  subst hv
  have hz0:Rels us w K (zcells zero) zero.cells.toList:=z3j zero (z0k hzp)
  obtain ⟨cells',h4,h5⟩:=zhd (env:=env) (a:=a) (fun i=>some (i*s,s)) ps.toList (withO2 env (ps.toList.map fun (p:Nat×Operand)=>(p.1*s,s,p.2))) zero.cells (zcells zero) cs' hE
   (by simp [withO2,Function.comp_def]) (by simp) (by simp [withO2,Function.comp_def]) hz0 hset
  refine .same hG (x:=.agg cells') ?_ (Rel.mkAgg h5)
  simp only [execOp,ho,Instr.build,Sem.run_bind,z6t hz,Result.andThen_ok,run_underlying ht,z5r hs]
  have e:(ps.map fun (x:Nat×Operand)=>match x with|(i,x)=>(i,a.eval x)).toList=ps.toList.map fun (i,x)=>(i,a.eval x):=by simp
  rw [e,h4]
  rfl
 ·simp at hv
end
end Go.Ev
namespace Go.Ev
open Go
section
variable {P:Program} {us:Us} {w:World} {K:Kx} {st:St}
def Us.new (us:Us) (c n:Nat):Us:=fun x=>if x=c then some n else us x
def Kx.newL (K:Kx) (l c:Nat):Kx:={K with lm:=fun x=>if x=l then some c else K.lm x}
theorem za0 (h: ∀c n,us c=some n→c<w.heap.size)(o:Obj)(us':Us)(hu: ∀c,c<w.heap.size→us' c=us c):UsLe us w us' (w.alloc o):=by
 intro c n hc
 have hlt:=h c n hc
 exact ⟨n,(hu c hlt).trans hc,Nat.le_refl _,fun i _=>by rw [World.cell?_alloc_lt];exact hlt⟩
theorem SizeAt.lt {c n} (h:SizeAt w c n):c<w.heap.size:=by
 obtain ⟨cur,ty,h1,_⟩:=h
 exact (Array.getElem?_eq_some_iff.1 h1).1
theorem SizeAt.alloc {c n} (h:SizeAt w c n)(o:Obj):SizeAt (w.alloc o) c n:=by
 have hlt:=h.lt
 obtain ⟨cur,ty,h1,h2⟩:=h
 exact ⟨cur,ty,(heap_alloc_old w o c hlt).trans h1,h2⟩
theorem zc0 (hG:Good us w K st)(o:Obj)(us':Us)(hu: ∀c,c<w.heap.size→us' c=us c)(K':Kx)(hT:K'.T=K.T)(htk:K'.tk=K.tk)(hlm: ∀l c,K.lm l=some c→K'.lm l=some c):KLe us w K us' (w.alloc o) K':=by
 refine ⟨fun l c h=>⟨hlm l c h,fun n hn=>hn.alloc o⟩,fun t m hm=>⟨m,by rw [hT];exact hm,Nat.le_refl _,fun _ c hc=> ?_⟩⟩
 obtain ⟨n,hn⟩:=hG.tkus t c hc
 have hlt:=hG.uslt c n hn
 exact ⟨by rw [htk];exact hc,hu c hlt,fun n hn=>hn.alloc o⟩
theorem z9u (hG:Good us w K st)(o:Obj)(us':Us)(hu: ∀c,c<w.heap.size→us' c=us c)(K':Kx)(hT:K'.T=K.T)(htk:K'.tk=K.tk)(hlm: ∀l c,K.lm l=some c→K'.lm l=some c)
  (hnew: ∀l c,K'.lm l=some c→(∃l0,K.lm l0=some c)∨w.heap.size≤c):Ext us w K us' (w.alloc o) K' where
 os:=rfl
 tape:=rfl
 output:=rfl
 size:=by simp
 sz:=fun c n h=>h.alloc o
 usle:=za0 hG.uslt o us' hu
 kle:=zc0 hG o us' hu K' hT htk hlm
 frame:=fun c hc _ _=>⟨heap_alloc_old w o c hc,hu c hc⟩
 usNone:=fun c hc h _=>(hu c hc).trans h
 lmNew:=hnew
 tkNew:=fun t c h=> .inl (by rw [←htk];exact h)
theorem BlkOk.mono {us' w' K' c cs} (h:BlkOk us w K c cs)(hu:UsLe us w us' w')(hK:KLe us w K us' w' K')(hb:w'.heap[c]? =w.heap[c]?):BlkOk us' w' K' c cs:=by
 obtain ⟨cur,ty,h1,h0,h2,h3⟩:=h
 exact ⟨cur,ty,hb.trans h1,h0,h2.mono hu hK,h3⟩
theorem BlkOk.lt {c cs} (h:BlkOk us w K c cs):c<w.heap.size:=by
 obtain ⟨cur,ty,h1,_⟩:=h
 exact (Array.getElem?_eq_some_iff.1 h1).1
theorem Good.lmltH (hG:Good us w K st) {l c} (h:K.lm l=some c):c<w.heap.size:=by
 have hl:=hG.lmlt l c h
 exact (hG.blk l c _ h (List.getElem?_eq_getElem hl)).lt
theorem zea (hG:Good us w K st)(cells:Array Value)(e:TypeId):Good (us.new w.heap.size cells.size) (w.alloc (.cells cells e)) K st:=by
 have hu: ∀c,c<w.heap.size→us.new w.heap.size cells.size c=us c:=fun c hc=>by simp [Us.new,Nat.ne_of_lt hc]
 refine ⟨hG.T,hG.lmlt,fun l c cs hl hs=> ?_,hG.inj,hG.tkinj,hG.tklt,fun t c h=> ?_,fun c n h=> ?_,fun l c h=> ?_,hG.lmtk⟩
 ·exact (hG.blk l c cs hl hs).mono (za0 hG.uslt _ _ hu) (zc0 hG _ _ hu K rfl rfl (fun _ _ h=>h)) (heap_alloc_old w _ c (hG.lmltH hl))
 ·obtain ⟨n,hn⟩:=hG.tkus t c h
  exact ⟨n,(hu c (hG.uslt c n hn)).trans hn⟩
 ·simp only [Us.new] at h
  split at h
  ·next hc=>subst hc;simp
  ·have:=hG.uslt c n h;simp;omega
 ·rw [hu c (hG.lmltH h)];exact hG.disj l c h
theorem Good.tkltH (hG:Good us w K st) {t c} (h:K.tk t=some c):c<w.heap.size:=by
 obtain ⟨n,hn⟩:=hG.tkus t c h
 exact hG.uslt c n hn
theorem z7g (hG:Good us w K st)(cells:Array Value)(e:TypeId)(l:Nat)(cs:List AV)(hl:l<st.store.length)(hfree:K.lm l=none)(hst:st.store[l]? =some cs)
  (hr:Rels us w K cs (cells.toList.take cs.length)) (h0:cs.length≤cells.size) (h1: ∀x∈cells.toList,x.oneCell'=true):Good us (w.alloc (.cells cells e)) (K.newL l w.heap.size) st:=by
 have hlm: ∀l' c,K.lm l'=some c→(K.newL l w.heap.size).lm l'=some c:=by
  intro l' c h
  simp only [Kx.newL]
  split
  ·next e=>subst e;rw [hfree] at h;exact absurd h (by simp)
  ·exact h
 have hul:=za0 hG.uslt (.cells cells e) us (fun _ _=>rfl)
 have hkl:=zc0 hG (.cells cells e) us (fun _ _=>rfl) (K.newL l w.heap.size) rfl rfl hlm
 have inv: ∀l' c,(K.newL l w.heap.size).lm l'=some c→(l'=l∧c=w.heap.size)∨(l'≠l∧K.lm l'=some c):=by
  intro l' c h
  simp only [Kx.newL] at h
  split at h
  ·next e=>exact .inl ⟨e,by simpa using h.symm⟩
  ·next e=>exact .inr ⟨e,h⟩
 refine ⟨hG.T,fun l' c h=> ?_,fun l' c cs' h hs=> ?_,fun l1 l2 c h1 h2=> ?_,hG.tkinj,hG.tklt,hG.tkus,fun c n h=> ?_,fun l' c h=> ?_,fun l' t c h ht=> ?_⟩
 ·rcases inv l' c h with ⟨rfl,_⟩ | ⟨_,h⟩
  ·exact hl
  ·exact hG.lmlt l' c h
 ·rcases inv l' c h with ⟨rfl,rfl⟩ | ⟨_,h⟩
  ·rw [hst] at hs
   simp only [sI_] at hs
   subst hs
   exact ⟨cells,e,heap_alloc_new w _,h0,hr.mono hul hkl,h1⟩
  ·exact (hG.blk l' c cs' h hs).mono hul hkl (heap_alloc_old w _ c (hG.lmltH h))
 ·rcases inv l1 c h1 with ⟨a1,b1⟩ | ⟨_,g1⟩ <;>rcases inv l2 c h2 with ⟨a2,b2⟩ | ⟨_,g2⟩
  ·exact .inl (a1.trans a2.symm)
  ·have:=hG.lmltH g2;omega
  ·have:=hG.lmltH g1;omega
  ·exact hG.inj l1 l2 c g1 g2
 ·have:=hG.uslt c n h;simp;omega
 ·rcases inv l' c h with ⟨rfl,rfl⟩ | ⟨_,h⟩
  ·refine .inr ?_
   cases hu:us w.heap.size with
   |none=>rfl
   |some n=>have:=hG.uslt _ n hu;omega
  ·exact hG.disj l' c h
 ·rcases inv l' c h with ⟨rfl,rfl⟩ | ⟨_,h⟩
  ·have:=hG.tkltH (t:=t) ht;omega
  ·exact hG.lmtk l' t c h ht
variable {o:Oper} {env:Env} {a:Act} {r:AV}
theorem zko (p:Value→Prop)(q:Nat): ∀(l:List Value) (k:Nat) (cells:Array Value),(∀x∈cells.toList,p x)→(∀x∈l,p x)→
  ∀x∈((l.zipIdx k).foldl (fun (cs:Array Value) (y:Value×Nat)=>cs.setIfInBounds (q+y.2) y.1) cells).toList,p x:=by
 intro l
 induction l with
 |nil=>intro k cells h _;simpa using h
 |cons v l ih=>
  intro k cells h hl
  simp only [List.zipIdx_cons,List.foldl_cons]
  refine ih (k+1) _ ?_ (fun x hx=>hl x (by simp [hx]))
  intro x hx
  simp only [Array.toList_setIfInBounds] at hx
  rcases List.mem_or_eq_of_mem_set hx with hx|rfl
  ·exact h x hx
  ·exact hl x (by simp)
theorem z7y (pre cs:List AV)(q:Nat)(xs:List AV)(h:pre.length≤q):putCells (pre++cs) q xs=pre++putCells cs (q-pre.length) xs:=by
 induction xs generalizing cs q with
 |nil=>rfl
 |cons x xs ih=>
  simp only [putCells]
  rw [List.set_append_right _ _ h,ih _ (q+1) (by omega)]
  congr 2
  omega
theorem z8v (cs rest xs:List AV)(h:xs.length=cs.length):putCells (cs++rest) 0 xs=xs++rest:=by
 have gen: ∀(xs cs pre:List AV),xs.length=cs.length→putCells (pre++cs++rest) pre.length xs=pre++xs++rest:=by
  intro xs
  induction xs with
  |nil=>intro cs pre h;have:cs=[]:=List.eq_nil_of_length_eq_zero h.symm;subst this;simp [putCells]
  |cons x xs ih=>
   intro cs pre h
   cases cs with
   |nil=>simp at h
   |cons c cs=>
    simp only [putCells]
    have e:(pre++c::cs++rest).set pre.length x=(pre++ [x])++cs++rest:=by
     rw [List.append_assoc,List.set_append_right _ _ (Nat.le_refl _)]
     simp
    rw [e]
    have:=ih cs (pre++ [x]) (by simpa using h)
    simpa using this
 simpa using gen xs cs [] h
theorem zhb {z:Nat}: ∀(xs:List AV) (i:Nat) (y:AV),(∀x∈xs,x.cells.length=z)→y.cells.length=z→i<xs.length→flat (xs.set i y)=putCells (flat xs) (i*z) y.cells:=by
 intro xs
 induction xs with
 |nil=>intro i y _ _ hi;simp at hi
 |cons x xs ih=>
  intro i y h hy hi
  have hx:=h x (by simp)
  cases i with
  |zero=>
   simp only [List.set_cons_zero,z75,Nat.zero_mul]
   rw [z8v _ _ _ (by omega)]
  |succ i=>
   simp only [List.set_cons_succ,z75]
   rw [ih i y (fun x hx=>h x (by simp [hx])) hy (by simpa using hi),z7y _ _ _ _ (by rw [hx,Nat.succ_mul];omega)]
   congr 2
   rw [hx,Nat.succ_mul];omega
theorem zak {z:Nat} {ag:Bool}: ∀(ps:List (Nat×Operand)) (cells:Array Value) (xs xs':List AV),EnvRel us w K env a→(∀x∈xs,x.cells.length=z)→Rels us w .nil (flat xs) cells.toList→(∀x∈cells.toList,x.oneCell'=true)→
  setElems z ag xs (withO env ps)=some xs'→∃cells',Instr.fill (fun i=>some (i*z,z)) cells (ps.map fun (i,x)=>(i,a.eval x))=some cells'∧cells'.size=cells.size∧xs'.length=xs.length∧(∀x∈xs',x.cells.length=z)∧Rels us w .nil (flat xs') cells'.toList∧(∀x∈cells'.toList,x.oneCell'=true):=by
 intro ps
 induction ps with
 |nil=>intro cells xs xs' _ h1 h2 h3 h;simp only [withO,List.map_nil,setElems,sI_] at h;subst h;exact ⟨cells,rfl,rfl,rfl,h1,h2,h3⟩
 |cons p ps ih=>
  intro cells xs xs' hE h1 h2 h3 h
  obtain ⟨i,x⟩:=p
  simp only [withO,List.map_cons,setElems] at h
  split at h
  ·next hc=>
   obtain ⟨hc1,hc2,hc3,hc4,hc5⟩:=hc
   have hx:=ze hE x
   have hcells:=hx.cells hc1
   have e1:(a.eval x).cells.size=z:=by rw [←hc2,hcells.len];simp
   have e2:cells.size=xs.length*z:=by rw [←z15 xs h1,h2.len];simp
   have hpl:(pub (aval env x)).cells.length=z:=by rw [zf1,z2a,hc2]
   have hput:=zdi (us:=us) (w:=w) (K:=.nil) (i*z) (a.eval x).cells cells (flat xs) (pub (aval env x)).cells h2 (by rw [zf1];exact hcells.pubs)
   rw [←zhb xs i _ h1 hpl hc5] at hput
   have hone:=zko (fun x=>x.oneCell'=true) (i*z) (a.eval x).cells.toList 0 cells h3 (hcells.one hc4)
   rw [←zah] at hone
   have hsz:((a.eval x).cells.zipIdx.foldl (fun (cs:Array Value) (y:Value×Nat)=>match y with|(c,j)=>cs.setIfInBounds (i*z+j) c) cells).size=cells.size:=by
    have:=hput.len
    rw [zhb xs i _ h1 hpl hc5,z7x,h2.len] at this
    simpa using this.symm
   obtain ⟨cells',g1,g2,g3,g4,g5,g6⟩:=ih _ _ xs' hE (by
    intro y hy
    rcases List.mem_or_eq_of_mem_set hy with hy|rfl
    ·exact h1 y hy
    ·exact hpl) hput hone h
   refine ⟨cells',?_,g2.trans hsz,by simpa using g3,g4,g5,g6⟩
   simp only [List.map_cons,Instr.fill]
   rw [if_neg]
   ·exact g1
   ·have:i*z+z≤xs.length*z:=by rw [←Nat.succ_mul];exact Nat.mul_le_mul_right z hc5
    simp [e1,e2];omega
  ·simp at h
theorem z8x (n:Nat)(A:AV):flat (List.replicate n A)=(List.replicate n A.cells).flatten:=by simp [flat,List.flatMap]
theorem z7p {z:Nat} (zs:List AV)(vs:Array Value)(h:Rels us w K zs vs.toList)(hz:vs.size=z): ∀n,Rels us w K ((List.replicate n zs).flatten) ((List.range (n*z)).map fun i=>vs[i % vs.size]!):=by
 subst hz
 have e0:vs.toList=(List.range vs.size).map fun i=>vs[i % vs.size]! :=by
  apply List.ext_getElem
  ·simp
  ·intro i h1 h2
   simp at h1
   simp [Nat.mod_eq_of_lt h1,h1]
 intro n
 induction n with
 |zero=>simpa using Rels.nil
 |succ n ih=>
  rw [List.replicate_succ,List.flatten_cons]
  have e:(List.range ((n+1)*vs.size)).map (fun i=>vs[i % vs.size]!)=vs.toList++(List.range (n*vs.size)).map (fun i=>vs[i % vs.size]!):=by
   rw [Nat.succ_mul,Nat.add_comm,List.range_add,List.map_append,←e0,List.map_map]
   congr 1
   apply List.map_congr_left
   intro i _
   simp
  rw [e]
  exact h.append ih
theorem rt_lit {t e:TypeId} {n z:Nat} {ag:Bool} {zero:Value} {ps:Array (Nat×Operand)} (ho:o.op=.buildSlice t n ps)(ht:P.underlying t=some (.slice e))(hz:sizeT P e=some z)(hzero:zeroT P e=some zero)(hok:zeroOk z ag zero=true)(hsmall:n*z≤2^20)
  (hE:EnvRel us w K env a) (hG:Good us w K st) (hv:valAV env (.lit z ag (ofVal zero) n ps.toList)=some r):RunsTo P (execOp a.eval o) us w K st r:=by
 simp only [valAV] at hv
 split at hv
 ·rename_i xs hset
  simp only [sI_] at hv
  subst hv
  simp only [zeroOk,Bool.and_eq_true,beq_iff_eq] at hok
  obtain ⟨⟨hzs,hst⟩,hag⟩:=hok
  have hpl:=z0k (z:=zero) hst
  have hcells:(ofVal zero).cells=zcells zero:=by
   cases zero<;>simp [ofVal,AV.cells,zcells,Value.cells] at hpl⊢
   next cs=>rw [if_pos (by simpa using hpl)]
  have hzr:Rels us w .nil (zcells zero) zero.cells.toList:=z3j zero hpl
  have h0:=z7p (z:=z) (zcells zero) zero.cells hzr hzs n
  have hlen:(ofVal zero).cells.length=z:=by rw [hcells];simp [zcells,hzs]
  have hone0: ∀x∈zero.cells.toList,x.oneCell'=true:=hzr.one hst
  let init:Array Value:=(Array.range (n*z)).map (zero.cells[· % zero.cells.size]!)
  have hinit:init.toList=(List.range (n*z)).map fun i=>zero.cells[i % zero.cells.size]! :=by simp [init]
  have hr0:Rels us w .nil (flat (List.replicate n (ofVal zero))) init.toList:=by
   rw [z8x,hcells,hinit];exact h0
  have hone: ∀x∈init.toList,x.oneCell'=true:=by
   rw [hinit]
   intro x hx
   obtain ⟨i,hi,rfl⟩:=List.mem_map.1 hx
   have hi':i<n*z:=by simpa using hi
   have hzpos:0<zero.cells.size:=by
    rcases Nat.eq_zero_or_pos zero.cells.size with h|h
    ·rw [hzs] at h;subst h;simp at hi'
    ·exact h
   have hlt:=Nat.mod_lt i hzpos
   rw [getElem!_pos zero.cells (i % zero.cells.size) hlt]
   exact hone0 _ (by simp)
  obtain ⟨cells',g1,g2,g3,g4,g5,g6⟩:=zak (env:=env) (a:=a) ps.toList init (List.replicate n (ofVal zero)) xs hE (by intro x hx;rw [List.eq_of_mem_replicate hx];exact hlen) hr0 hone hset
  have hu: ∀c,c<w.heap.size→us.new w.heap.size cells'.size c=us c:=fun c hc=>by simp [Us.new,Nat.ne_of_lt hc]
  have hext:=z9u hG (.cells cells' e) (us.new w.heap.size cells'.size) hu K rfl rfl (fun _ _ h=>h) (fun l _ h=> .inl ⟨l,h⟩)
  have hsz:cells'.size=n*z:=by rw [g2];simp [init]
  have hxl:xs.length=n:=by simpa using g3
  refine ⟨.slice (some ⟨w.heap.size,0,none⟩) xs.length n,us.new w.heap.size cells'.size,w.alloc (.cells cells' e),?_,?_,hext,zea hG cells' e⟩
  ·have hnot: ¬(n*z>2^24):=by omega
   have ez:((if n*z=0 then pure #[] else do pure (←zeroValue e).cells):Sem (Array Value)).run P w=.ok (if n*z=0 then #[] else zero.cells) w:=by
    split<;>simp [z6t hzero]
   have efill:Instr.fill (fun i=>some (i*z,z)) ((Array.range (n*z)).map ((if n*z=0 then #[] else zero.cells)[· % (if n*z=0 then (#[]:Array Value) else zero.cells).size]!)) (ps.map fun (x:Nat×Operand)=>match x with|(i,x)=>(i,a.eval x)).toList=some cells':=by
    have e:(ps.map fun (x:Nat×Operand)=>match x with|(i,x)=>(i,a.eval x)).toList=ps.toList.map fun (i,x)=>(i,a.eval x):=by simp
    rw [e,←g1]
    congr 1
    by_cases h:n*z=0
    ·simp [init,h]
    ·simp [init,h]
   simp only [execOp,ho,Instr.buildSlice,Sem.run_bind,run_underlying ht,Result.andThen_ok,z5r hz,hnot,if_false]
   rw [Sem.run_ite] at ez
   simp only [Sem.run_ite,Sem.run_bind,Sem.run_pure,z6t hzero,Result.andThen_ok,Result.andThen_ite] at ez⊢
   by_cases h:n*z=0
   ·simp only [h,if_true] at efill⊢
    rw [efill]
    simp [newRow,hxl]
   ·simp only [h,if_false] at efill⊢
    rw [efill]
    simp [newRow,hxl]
  ·have key:LstAt (us.new w.heap.size cells'.size) (w.alloc (.cells cells' e)) K .full z xs w.heap.size 0 n cells'.toList:=by
    refine ⟨⟨cells'.size,by simp [Us.new],by simp⟩,?_,g6,g4,by omega,g5.mono hext.usle (.nil _ _ _ _ _),hxl.symm⟩
    intro i hi
    rw [Nat.zero_add,World.cell?_alloc_at cells' e _ i rfl]
    simp
   exact key.rel
 ·simp at hv
end
end Go.Ev
namespace Go.Ev
open Go
structure Fresh (st st':St) (K K':Kx):Prop where
 lm: ∀l c,K'.lm l=some c→K.lm l=some c∨(st.store.length≤l∧l<st'.store.length)
 tk: ∀t,(K'.tk t).isSome=true→(K.tk t).isSome=true∨(st.tips.length≤t∧t<st'.tips.length)
theorem Fresh.same (st:St)(K:Kx):Fresh st st K K:=⟨fun _ _ h=> .inl h,fun _ h=> .inl h⟩
theorem Fresh.sameK (st st':St)(K:Kx):Fresh st st' K K:=⟨fun _ _ h=> .inl h,fun _ h=> .inl h⟩
def Goes (P:Program) (o:Oper) (a:Act) (us:Us) (w:World) (K:Kx) (r:AV) (st st' S':St):Prop:=
 ∀(next:Act→World→Prop) (Q:Exit→Act→World→Prop),
  (∀x us' w' K',Rel us' w' K' r x→Ext us w K us' w' K'→Good us' w' K' S'→Fresh st st' K K'→next (a.put o.dst x) w')→o.wp P a w next Q
section
variable {P:Program} {us:Us} {w:World} {K:Kx} {st st' S S':St}
variable {o:Oper} {env:Env} {a:Act} {r:AV}
theorem RunsTo.goes (h:RunsTo P (execOp a.eval o) us w K S r):Goes P o a us w K r st st' S:=by
 obtain ⟨x,us',w',h1,h2,h3,h4⟩:=h
 intro next Q hn
 unfold Oper.wp
 rw [h1]
 exact hn x us' w' K h2 h3 h4 (.sameK _ _ _)
theorem z78 {t:TypeId} {s q p c:Nat} {ag:Bool} {cs:List AV} {vs:List Value} {r:AV} (hs:sizeT P t=some s)(hag:isAggT P t=some ag)(h:readCells ag s q cs=some r)(hr:Rels us w K cs vs)(hc:CellsAt w c p vs):
  ∃x,(loadVar t ⟨c,p+q,none⟩).run P w=.ok x w∧Rel us w K r x:=by
 rcases z9b h hr with ⟨rfl,hb,h2⟩ | ⟨rfl,x,hx,h2⟩
 ·refine ⟨_,?_,h2⟩
  have hl:((vs.drop q).take s).length=s:=by simp;omega
  have:=run_loadCells_list (P:=P) w ⟨c,p+q,none⟩ ((vs.drop q).take s) (fun j v hj=>by
   obtain ⟨hj1,hj2⟩:=List.getElem?_eq_some_iff.1 hj
   rw [hl] at hj1
   rw [Addr.add_lit]
   have:=hc (q+j) (by omega)
   rw [Nat.add_assoc,this,←hj2]
   simp)
  rw [hl] at this
  simp only [loadVar,Sem.run_bind,zbc hag,Result.andThen_ok,if_true,z5r hs,this,Sem.run_pure]
 ·refine ⟨x,?_,h2⟩
  obtain ⟨hq,rfl⟩:=List.getElem?_eq_some_iff.1 hx
  have:=hc q hq
  simp [loadVar,zbc hag,this]
theorem zcd {c:Nat} {cur:Array Value} {ty:TypeId} {fz:Nat×Nat} (h:w.heap[c]? =some (.cells cur ty fz)):CellsAt w c 0 cur.toList:=by
 intro i hi
 simp at hi
 rw [Nat.zero_add,cell_of_row w c i cur ty fz h]
 simp [hi]
theorem z41 {c:Nat} {cur:Array Value} {ty:TypeId} {fz:Nat×Nat} (h:w.heap[c]? =some (.cells cur ty fz))(n:Nat):CellsAt w c 0 (cur.toList.take n):=by
 intro i hi
 have:=zcd h i (by simp at hi⊢;omega)
 rw [this]
 simp
theorem zhr {t:TypeId} {s:Nat} {ag:Bool} {A:AV} {x:Value} (hs:sizeT P t=some s)(hag:isAggT P t=some ag)(hG:Good us w K S)(h:loadAV s ag S A=some r)(hr:Rel us w K A x):
  ∃y,(Instr.loadAt t x).run P w=.ok y w∧Rel us w K r y:=by
 unfold loadAV at h
 split at h
 ·rename_i l q
  obtain ⟨c,hc,rfl⟩:=hr.ptr_inv
  cases hl:S.store[l]? with
  |none=>simp [hl] at h
  |some cs=>
   simp only [hl,Option.bind_some] at h
   obtain ⟨cur,ty,h1,_,h2,_⟩:=hG.blk l c cs hc hl
   obtain ⟨y,h3,h4⟩:=z78 (P:=P) (p:=0) hs hag h h2 (z41 h1 _)
   refine ⟨y,?_,h4⟩
   rw [Nat.zero_add] at h3
   simp [Instr.loadAt,Instr.sureAddr,h3]
 ·rename_i e q
  obtain ⟨c,p,vs,rfl,h1⟩:=hr.eptr_inv
  obtain ⟨y,h3,h4⟩:=z78 (P:=P) hs hag h h1.rels.ofNil h1.cells
  exact ⟨y,by simp [Instr.loadAt,Instr.sureAddr,h3],h4⟩
 ·simp at h
theorem zo1 {x:Operand} {t:TypeId} {s:Nat} {ag:Bool} (ho:o.op=.load t x)(hs:sizeT P t=some s)(hag:isAggT P t=some ag)(hE:EnvRel us w K env a)(hG:Good us w K S)(hv:loadAV s ag S (aval env x)=some r):
  RunsTo P (execOp a.eval o) us w K S r:=by
 obtain ⟨y,h1,h2⟩:=zhr (P:=P) hs hag hG hv (ze hE x)
 exact .same hG (x:=y) (by simp [execOp,ho,h1]) h2
theorem ze8 {s:Nat} {ag:Bool} {A:AV} {rest:List (List AV)} (h:loadAV s ag st A=some r)(hp:S.store=st.store++rest):loadAV s ag S A=some r:=by
 unfold loadAV at h⊢
 split at h
 ·rename_i l q
  cases hl:st.store[l]? with
  |none=>simp [hl] at h
  |some cs=>
   have:S.store[l]? =some cs:=by
    rw [hp,List.getElem?_append_left (List.getElem?_eq_some_iff.1 hl).1]
    exact hl
   simpa [this,hl] using h
 ·exact h
 ·exact h
theorem zbm (cs:List AV)(q:Nat)(xs:List AV)(h:q+xs.length≤cs.length):putCells cs q xs=cs.take q++xs++cs.drop (q+xs.length):=by
 have hq:(cs.take q).length=q:=by simp;omega
 have e1:cs=cs.take q++((cs.drop q).take xs.length++cs.drop (q+xs.length)):=by
  rw [←List.drop_drop,List.take_append_drop,List.take_append_drop]
 conv=>lhs;rw [e1]
 rw [z7y _ _ _ _ (by omega),hq,Nat.sub_self,z8v _ _ _ (by simp;omega),List.append_assoc]
theorem zg2 {c:Nat} {cells:Array Value} (hc:us c=none):UsLe us w us (w.setRow c cells):=by
 intro b n hb
 refine ⟨n,hb,Nat.le_refl _,fun i _=> ?_⟩
 have:b≠c:=by intro e;subst e;rw [hc] at hb;exact absurd hb (by simp)
 exact cell_setRow_other w c cells ⟨b,i,none⟩ this
theorem SizeAt.setRow {b n c:Nat} {cells:Array Value} (h:SizeAt w b n)(hsz:SizeAt w c cells.size):SizeAt (w.setRow c cells) b n:=by
 by_cases e:b=c
 ·subst e
  obtain ⟨cur,ty,h1,h2⟩:=h
  obtain ⟨cur',ty',h1',h2'⟩:=hsz
  rw [h1] at h1'
  simp only [sI_,Obj.cells.injEq,and_true] at h1'
  obtain ⟨rfl,rfl⟩:=h1'
  exact ⟨cells,ty,setRow_heap w b cur _ ty _ h1,by omega⟩
 ·obtain ⟨cur,ty,h1,h2⟩:=h
  exact ⟨cur,ty,(setRow_other w c b cells e).trans h1,h2⟩
theorem zi7 (hG:Good us w K S) {c:Nat} {cells:Array Value} (hc:us c=none)(hsz:SizeAt w c cells.size):KLe us w K us (w.setRow c cells) K:=by
 refine ⟨fun _ _ h=>⟨h,fun n hn=>hn.setRow hsz⟩,fun t m h=>⟨m,h,Nat.le_refl _,fun _ b hb=>⟨hb,rfl,?_⟩⟩⟩
 obtain ⟨n,hn⟩:=hG.tkus t b hb
 have:b≠c:=by intro e;subst e;rw [hc] at hn;exact absurd hn (by simp)
 exact fun n hn=>hn.setRow hsz
theorem z8r (hG:Good us w K S) {l c:Nat} {cells:Array Value} (hl:K.lm l=some c)(hu:us c=none)(hsz:SizeAt w c cells.size):Ext us w K us (w.setRow c cells) K where
 os:=rfl
 tape:=rfl
 output:=rfl
 size:=by simp
 sz:=fun b n h=>h.setRow hsz
 usle:=zg2 hu
 kle:=zi7 hG hu hsz
 frame:=fun b _ hb _=>⟨setRow_other w c b cells (fun e=>hb l (by rw [e];exact hl)),rfl⟩
 usNone:=fun _ _ h _=>h
 lmNew:=fun l _ h=> .inl ⟨l,h⟩
 tkNew:=fun _ _ h=> .inl h
theorem Good.live (hG:Good us w K S) {l c:Nat} {cs:List AV} (hl:K.lm l=some c)(hs:S.store[l]? =some cs)(h:cs≠[]):us c=none:=by
 rcases hG.disj l c hl with h1|h1
 ·rw [hs] at h1;simp at h1;exact absurd h1 h
 ·exact h1
theorem z95 (hG:Good us w K S) {l c:Nat} {cur:Array Value} {ty:TypeId} {cells:List Value} {cs cs':List AV} (hl:K.lm l=some c)(hs:S.store[l]? =some cs)(hne:cs≠[])(hb:w.heap[c]? =some (.cells cur ty (0,0)))
  (hsz:cells.length=cur.size) (h0:cs'.length≤cells.length) (hr:Rels us w K cs' (cells.take cs'.length)) (h1: ∀x∈cells,x.oneCell'=true):Good us (w.setRow c cells.toArray) K ⟨S.store.set l cs',S.tips⟩:=by
 have hx:=z8r (cells:=cells.toArray) hG hl (hG.live hl hs hne) ⟨cur,ty,hb,by simp [hsz]⟩
 have hdead: ∀l',K.lm l'=some c→l'≠l→S.store[l']? =some []:=by
  intro l' h e
  rcases hG.inj l' l c h hl with h2|h2|h2
  ·exact absurd h2 e
  ·exact h2
  ·rw [hs] at h2;simp at h2;exact absurd h2 hne
 refine ⟨hG.T,fun l' c' h=>by simpa using hG.lmlt l' c' h,fun l' c' cs2 h hs2=> ?_,fun l1 l2 b h1 h2=> ?_,hG.tkinj,hG.tklt,hG.tkus,fun c' n h=>by simpa using hG.uslt c' n h,fun l' b h=> ?_,hG.lmtk⟩
 ·by_cases e:l'=l
  ·subst e
   have e2:c'=c:=by rw [hl] at h;simpa using h.symm
   subst e2
   have:(S.store.set l' cs')[l']? =some cs':=by simp [hG.lmlt l' c' h]
   simp only at hs2
   rw [this] at hs2
   simp only [sI_] at hs2
   subst hs2
   exact ⟨cells.toArray,ty,setRow_heap w c' cur _ ty _ hb,by simpa using h0,by simpa using hr.mono hx.usle hx.kle,by simpa using h1⟩
  ·simp only at hs2
   rw [List.getElem?_set_ne (fun h=>e h.symm)] at hs2
   by_cases e2:c'=c
   ·subst e2
    have:=hdead l' h e
    rw [this] at hs2
    simp only [sI_] at hs2
    subst hs2
    exact ⟨cells.toArray,ty,setRow_heap w c' cur _ ty _ hb,by simp,by simpa using Rels.nil,by simpa using h1⟩
   ·exact (hG.blk l' c' cs2 h hs2).mono hx.usle hx.kle (setRow_other w c c' _ e2)
 ·by_cases e1:l1=l
  ·by_cases e2:l2=l
   ·exact .inl (e1.trans e2.symm)
   ·subst e1
    have hb2:b=c:=by rw [hl] at h1;simpa using h1.symm
    subst hb2
    exact .inr (.inr (by simp only;rw [List.getElem?_set_ne (fun h=>e2 h.symm)];exact hdead l2 h2 e2))
  ·by_cases e2:l2=l
   ·subst e2
    have hb2:b=c:=by rw [hl] at h2;simpa using h2.symm
    subst hb2
    exact .inr (.inl (by simp only;rw [List.getElem?_set_ne (fun h=>e1 h.symm)];exact hdead l1 h1 e1))
   ·simp only
    rw [List.getElem?_set_ne (fun h=>e1 h.symm),List.getElem?_set_ne (fun h=>e2 h.symm)]
    exact hG.inj l1 l2 b h1 h2
 ·by_cases e:l'=l
  ·subst e
   have hb2:b=c:=by rw [hl] at h;simpa using h.symm
   subst hb2
   exact .inr (hG.live hl hs hne)
  ·simp only
   rw [List.getElem?_set_ne (fun h=>e h.symm)]
   exact hG.disj l' b h
theorem zlh {x y:Operand} {t:TypeId} {s:Nat} (ho:o.op=.store t x y)(hs:sizeT P t=some s)(hs0:0<s)(hE:EnvRel us w K env a)(hG:Good us w K S)(hv:storeAV s S (aval env x) (aval env y)=some S'):
  Goes P o a us w K (.v (.tuple #[])) st st' S':=by
 have h1:=ze hE x
 have h2:=ze hE y
 generalize aval env x=ax at hv h1
 generalize aval env y=ay at hv h2
 unfold storeAV at hv
 split at hv
 ·rename_i l q
  obtain ⟨c,hc,h3⟩:=h1.ptr_inv
  split at hv
  ·next hcond=>
   obtain ⟨hsh,hlen,hst⟩:=hcond
   split at hv
   ·rename_i cs hcs
    split at hv
    ·next hb=>
     simp only [sI_] at hv
     subst hv
     obtain ⟨cur,ty,hheap,hle,hrel,hone⟩:=hG.blk l c cs hc hcs
     have hne:cs≠[]:=by intro h;subst h;simp at hb;omega
     have hcells:=h2.cells hsh
     have hone2:=hcells.one hst
     have e1:(a.eval y).cells.size=s:=by rw [←hlen,hcells.len];simp
     have hrun:=run_storeCells_at P c q ty (a.eval y).cells.toList 0 cur w hheap (by simp [e1];omega) hone2
     simp only [Nat.add_zero] at hrun
     have hput:putCells cs q ay.cells=cs.take q++ay.cells++cs.drop (q+ay.cells.length):=zbm cs q ay.cells (by omega)
     have hpl:(putCells cs q ay.cells).length=cs.length:=z7x cs q ay.cells
     have e4:(a.eval y).cells.toList.length=s:=by simpa using e1
     have hr':Rels us w K (putCells cs q ay.cells) ((cur.toList.take q++(a.eval y).cells.toList++cur.toList.drop (q+(a.eval y).cells.toList.length)).take (putCells cs q ay.cells).length):=by
      rw [hpl,hput]
      have:=((hrel.take q).append hcells).append (hrel.drop (q+ay.cells.length))
      have e5:(cur.toList.take q++(a.eval y).cells.toList++cur.toList.drop (q+(a.eval y).cells.toList.length)).take cs.length=(cur.toList.take cs.length).take q++(a.eval y).cells.toList++(cur.toList.take cs.length).drop (q+ay.cells.length):=by
       have hq:(cur.toList.take q).length=q:=by simp;omega
       rw [hlen,e4,List.take_take,Nat.min_eq_left (by omega),List.take_append,List.length_append,hq,e4,List.take_of_length_le (by rw [List.length_append,hq,e4];omega),List.drop_take]
      rw [e5]
      exact this
     have h1': ∀z∈cur.toList.take q++(a.eval y).cells.toList++cur.toList.drop (q+(a.eval y).cells.toList.length),z.oneCell'=true:=by
      intro z hz
      simp only [List.mem_append] at hz
      rcases hz with (hz|hz)|hz
      ·exact hone z (List.mem_of_mem_take hz)
      ·exact hone2 z hz
      ·exact hone z (List.mem_of_mem_drop hz)
     intro next Q hn
     unfold Oper.wp
     have e3:(execOp a.eval o).run P w=.ok .skip (w.setRow c (cur.toList.take q++(a.eval y).cells.toList++cur.toList.drop (q+(a.eval y).cells.toList.length)).toArray):=by
      simp only [execOp,ho,Instr.storeAt,Sem.run_bind,h3,Instr.sureAddr,Sem.run_pure,Result.andThen_ok,storeVar,z5r hs,e1,ne_eq,not_true_eq_false,if_false,hrun]
     rw [e3]
     have hsz:(cur.toList.take q++(a.eval y).cells.toList++cur.toList.drop (q+(a.eval y).cells.toList.length)).length=cur.size:=by
      simp [e1];omega
     exact hn undef us _ K (.v K _ rfl) (z8r hG hc (hG.live hc hcs hne) ⟨cur,ty,hheap,by simpa using hsz.symm⟩) (z95 hG hc hcs hne hheap hsz (by rw [hpl,hsz];exact hle) hr' h1') (.sameK _ _ _)
    ·simp at hv
   ·simp at hv
  ·simp at hv
 ·simp at hv
theorem zb2 {cells : Array Value} {e : TypeId} {l : Nat} {cs : List AV} {val : Value} (hG : Good us w K S) (hl : st.store.length ≤ l ∧ l < st'.store.length) (hS : S.store[l]? = some cs) (hfree : K.lm l = none)
    (hr : Rels us w K cs (cells.toList.take cs.length)) (h0 : cs.length ≤ cells.size) (h1 : ∀ x ∈ cells.toList, x.oneCell' = true) (hrun : (execOp a.eval o).run P w = .ok (.value val) (w.alloc (.cells cells e)))
    (hval : ∀ K', K'.lm l = some w.heap.size → ∀ us w', SizeAt w' w.heap.size cells.size → Rel us w' K' r val) : Goes P o a us w K r st st' S := by
  intro next Q hn
  unfold Oper.wp
  rw [hrun]
  have hlS : l < S.store.length := (List.getElem?_eq_some_iff.1 hS).1
  have hx := z9u hG (.cells cells e) us (fun _ _ => rfl) (K.newL l w.heap.size) rfl rfl
    (fun l' c h => by simp only [Kx.newL]; split; · next e => subst e; rw [hfree] at h; exact absurd h (by simp)
                      · exact h)
    (fun l' c h => by simp only [Kx.newL] at h; split at h; · exact .inr (by simp at h; omega)
                      · exact .inl ⟨l', h⟩)
  refine hn val us _ (K.newL l w.heap.size) (hval _ (by simp [Kx.newL]) _ _ ⟨cells, e, heap_alloc_new w _, rfl⟩) hx (z7g hG cells e l cs hlS hfree hS hr h0 h1) ⟨fun l' c h => ?_, fun t h => .inl h⟩
  simp only [Kx.newL] at h
  split at h
  · next e => subst e; exact .inr hl
  · exact .inl h
theorem Rels.all {K:Kx} {cs:List AV} {vs:List Value} (h:Rels us w K cs vs):Rels us w K cs (vs.take cs.length):=by
 rw [h.len,List.take_length];exact h
theorem zln {t:TypeId} {z:Value} (ho:o.op=.alloc t)(hz:zeroT P t=some z)(hst:(zcells z).all storable=true)(hG:Good us w K S) {rest:List (List AV)} (hS:S.store=(st.store++ [zcells z])++rest)(hfree:K.lm st.store.length=none)(hst':st'.store=st.store++ [zcells z]):
  Goes P o a us w K (.ptr st.store.length 0) st st' S:=by
 have hzr:Rels us w K (zcells z) z.cells.toList:=z3j z (z0k hst)
 refine zb2 (cells:=z.cells) (e:=t) (l:=st.store.length) (cs:=zcells z) (val:=.pointer (some ⟨w.heap.size,0,none⟩)) hG (by simp [hst']) (by rw [hS];simp) hfree hzr.all (by have:=hzr.len;simp at this;omega) (hzr.one hst) ?_ (fun K' h us w' _=> .ptr K' _ _ _ h)
 simp [execOp,ho,Instr.alloc,z6t hz,newVar,newRow]
theorem rt_box {t:TypeId} {x:Operand} (ho:o.op=.box t x)(hE:EnvRel us w K env a)(hsh:(aval env x).shaped=true)(hst:(aval env x).cells.all storable=true)(hG:Good us w K S) {rest:List (List AV)} (hS:S.store=(st.store++ [(aval env x).cells])++rest)
  (hfree:K.lm st.store.length=none) (hst':st'.store=st.store++ [(aval env x).cells]):Goes P o a us w K (.ptr st.store.length 0) st st' S:=by
 have hr:=(ze hE x).cells hsh
 refine zb2 (cells:=(a.eval x).cells) (e:=t) (l:=st.store.length) (cs:=(aval env x).cells) (val:=.pointer (some ⟨w.heap.size,0,none⟩)) hG (by simp [hst']) (by rw [hS];simp) hfree hr.all (by have:=hr.len;simp at this;omega) (hr.one hst) ?_ (fun K' h us w' _=> .ptr K' _ _ _ h)
 simp [execOp,ho,Instr.box,newVar,newRow]
theorem zab:maxGrow=4294967296:=rfl
theorem z9y (n:Int)(h0:0≤n)(h1:n≤4294967296):IntKind.i64.wrap n=n:=by
 simp [IntKind.wrap,IntKind.bits,IntKind.signed];omega
theorem zo0 {t e:TypeId} {x y:Operand} {i:TypeInfo} {ag:Bool} {zero:Value} {r:AV} (ho:o.op=.makeSlice t x y)(ht:P.underlying t=some (.slice e))(hi:P.info? e=some i)(hzero:zeroT P e=some zero)(hok:zeroOk i.size ag zero=true)(hby:i.bytes≤2^12)(hpos:0<i.size)
  (hE:EnvRel us w K env a) (hG:Good us w K S) (hv:makeAV i.size ag (zcells zero) st (aval env x) (aval env y)=some (r,st')) {rest:List (List AV)} (hS:S.store=st'.store++rest) (hfree:K.lm st.store.length=none):
  Goes P o a us w K r st st' S:=by
 unfold makeAV at hv
 split at hv
 ·rename_i l c hl hc
  split at hv
  ·next hb=>
   simp only [sI_,Prod.mk.injEq] at hv
   obtain ⟨rfl,rfl⟩:=hv
   obtain ⟨kl,il,hxl,hl0,hl1⟩:=z8j hl (ze hE x)
   obtain ⟨kc,ic,hxc,hc0,hc1⟩:=z8j hc (ze hE y)
   simp only [zeroOk,Bool.and_eq_true,beq_iff_eq] at hok
   obtain ⟨⟨hzs,hst⟩,hag⟩:=hok
   have hzr:Rels us w K (zcells zero) zero.cells.toList:=z3j zero (z0k hst)
   have h0:=z7p (z:=i.size) (zcells zero) zero.cells hzr hzs c
   let init:Array Value:=(Array.range (c*i.size)).map (zero.cells[· % zero.cells.size]!)
   have hinit:init.toList=(List.range (c*i.size)).map fun j=>zero.cells[j % zero.cells.size]! :=by simp [init]
   have hone: ∀x∈init.toList,x.oneCell'=true:=by
    rw [hinit]
    intro x hx
    obtain ⟨j,hj,rfl⟩:=List.mem_map.1 hx
    have hlt:=Nat.mod_lt j (show 0<zero.cells.size by omega)
    rw [getElem!_pos zero.cells (j % zero.cells.size) hlt]
    exact hzr.one hst _ (by simp)
   rw [zab] at hb
   refine zb2 (cells:=init) (e:=e) (l:=st.store.length) (cs:=(List.replicate c (zcells zero)).flatten) (val:=.slice (some ⟨w.heap.size,0,none⟩) l c) hG (by simp) (by rw [hS];simp) hfree (by rw [hinit];exact h0.all) (by have:=h0.len;rw [←hinit] at this;simp at this⊢;omega) hone ?_ (fun K' h us w' _=> .rsl K' _ _ _ _ _ _ _ _ h (.inl rfl))
   have w1:IntKind.i64.wrap il=il:=z9y il hl0 (by omega)
   have w2:IntKind.i64.wrap ic=ic:=z9y ic hc0 (by omega)
   have hsz:sizeT P e=some i.size:=by simp [sizeT,hi]
   have hmul:i.bytes*ic≤2^48:=by
    have h1:ic≤4294967296:=by omega
    have h2:(i.bytes:Int)≤4096:=by omega
    have h3:(i.bytes:Int)*ic≤4096*4294967296:=Int.mul_le_mul h2 h1 hc0 (by omega)
    omega
   have t1:(decide (ic<0)||decide ((i.bytes:Int)*ic>2^48))=false:=by
    simp only [Bool.or_eq_false_iff,decide_eq_false_iff_not];omega
   have t2:((decide (ic<0)||decide ((i.bytes:Int)*ic>2^48))||decide (il<0)||decide (il>ic))=false:=by
    rw [t1];simp only [Bool.false_or,Bool.or_eq_false_iff,decide_eq_false_iff_not];omega
   have nz:c*i.size=0→c=0:=by
    intro h
    rcases Nat.mul_eq_zero.1 h with h|h
    ·exact h
    ·omega
   simp only [execOp,ho,Instr.makeSlice,Sem.run_bind,run_underlying ht,Result.andThen_ok,hxl,hxc,asInt,asIntOf,Sem.run_pure,typeInfo,run_program,hi,w1,w2]
   simp only [t2,Bool.false_eq_true,if_false,Sem.run_bind,run_askRoom,Result.andThen_ok,z5r hsz,hc1,hl1,Sem.run_ite,z6t hzero,Sem.run_pure,Result.andThen_ite]
   by_cases h:c*i.size=0
   ·have e0:init= #[]:=by simp [init,h]
    simp [h,e0,newRow,Array.range_zero']
   ·simp [h,newRow,init]
  ·simp at hv
 ·simp at hv
theorem zo2 {t e:TypeId} {n z:Nat} {ag:Bool} {zero:Value} {ps:Array (Nat×Operand)} {xs:List AV} {r:AV} (ho:o.op=.buildSlice t n ps)(ht:P.underlying t=some (.slice e))(hz:sizeT P e=some z)(hzero:zeroT P e=some zero)(hok:zeroOk z ag zero=true)(hsmall:n*z≤2^20)
  (hE:EnvRel us w K env a) (hG:Good us w K S) (hset:setElems z ag (List.replicate n (ofVal zero)) (withO env ps.toList)=some xs) (hv:newM z ag xs st=some (r,st')) {rest:List (List AV)} (hS:S.store=st'.store++rest) (hfree:K.lm st.store.length=none):
  Goes P o a us w K r st st' S:=by
 unfold newM at hv
 split at hv
 ·simp only [sI_,Prod.mk.injEq] at hv
  obtain ⟨rfl,rfl⟩:=hv
  simp only [zeroOk,Bool.and_eq_true,beq_iff_eq] at hok
  obtain ⟨⟨hzs,hst⟩,hag⟩:=hok
  have hpl:=z0k (z:=zero) hst
  have hcells:(ofVal zero).cells=zcells zero:=by
   cases zero<;>simp [ofVal,AV.cells,zcells,Value.cells] at hpl⊢
   next cs=>rw [if_pos (by simpa using hpl)]
  have hzr:Rels us w .nil (zcells zero) zero.cells.toList:=z3j zero hpl
  have h0:=z7p (z:=z) (zcells zero) zero.cells hzr hzs n
  have hlen:(ofVal zero).cells.length=z:=by rw [hcells];simp [zcells,hzs]
  have hone0: ∀x∈zero.cells.toList,x.oneCell'=true:=hzr.one hst
  let init:Array Value:=(Array.range (n*z)).map (zero.cells[· % zero.cells.size]!)
  have hinit:init.toList=(List.range (n*z)).map fun i=>zero.cells[i % zero.cells.size]! :=by simp [init]
  have hr0:Rels us w .nil (flat (List.replicate n (ofVal zero))) init.toList:=by
   rw [z8x,hcells,hinit];exact h0
  have hone: ∀x∈init.toList,x.oneCell'=true:=by
   rw [hinit]
   intro x hx
   obtain ⟨i,hi,rfl⟩:=List.mem_map.1 hx
   have hi':i<n*z:=by simpa using hi
   have hzpos:0<zero.cells.size:=by
    rcases Nat.eq_zero_or_pos zero.cells.size with h|h
    ·rw [hzs] at h;subst h;simp at hi'
    ·exact h
   have hlt:=Nat.mod_lt i hzpos
   rw [getElem!_pos zero.cells (i % zero.cells.size) hlt]
   exact hone0 _ (by simp)
  obtain ⟨cells',g1,g2,g3,g4,g5,g6⟩:=zak (env:=env) (a:=a) ps.toList init (List.replicate n (ofVal zero)) xs hE (by intro x hx;rw [List.eq_of_mem_replicate hx];exact hlen) hr0 hone hset
  have hsz:cells'.size=n*z:=by rw [g2];simp [init]
  have hxl:xs.length=n:=by simpa using g3
  have hr:Rels us w K (flatAV xs) cells'.toList:=g5.mono (UsLe.refl us w) (.nil _ _ _ _ _)
  refine zb2 (cells:=cells') (e:=e) (l:=st.store.length) (cs:=flatAV xs) (val:=.slice (some ⟨w.heap.size,0,none⟩) xs.length xs.length) hG (by simp) (by rw [hS];simp) hfree hr.all (by have:=hr.len;simp at this⊢;omega) g6 ?_ (fun K' h us w' _=> .rsl K' _ _ _ _ _ _ _ _ h (.inl rfl))
  have hnot: ¬(n*z>2^24):=by omega
  have ez:((if n*z=0 then pure #[] else do pure (←zeroValue e).cells):Sem (Array Value)).run P w=.ok (if n*z=0 then #[] else zero.cells) w:=by
   split<;>simp [z6t hzero]
  have efill:Instr.fill (fun i=>some (i*z,z)) ((Array.range (n*z)).map ((if n*z=0 then #[] else zero.cells)[· % (if n*z=0 then (#[]:Array Value) else zero.cells).size]!)) (ps.map fun (x:Nat×Operand)=>match x with|(i,x)=>(i,a.eval x)).toList=some cells':=by
   have e:(ps.map fun (x:Nat×Operand)=>match x with|(i,x)=>(i,a.eval x)).toList=ps.toList.map fun (i,x)=>(i,a.eval x):=by simp
   rw [e,←g1]
   congr 1
   by_cases h:n*z=0
   ·simp [init,h]
   ·simp [init,h]
  simp only [execOp,ho,Instr.buildSlice,Sem.run_bind,run_underlying ht,Result.andThen_ok,z5r hz,hnot,if_false]
  rw [Sem.run_ite] at ez
  simp only [Sem.run_ite,Sem.run_bind,Sem.run_pure,z6t hzero,Result.andThen_ok,Result.andThen_ite] at ez⊢
  by_cases h:n*z=0
  ·simp only [h,if_true] at efill⊢
   rw [efill]
   simp [newRow,hxl]
  ·simp only [h,if_false] at efill⊢
   rw [efill]
   simp [newRow,hxl]
 ·simp at hv
end
end Go.Ev
namespace Go.Ev
open Go
section
variable {P:Program} {us:Us} {w:World} {K:Kx} {st st' S S':St}
variable {o:Oper} {env:Env} {a:Act} {r:AV}
structure Elems (P:Program) (us:Us) (w:World) (z:Nat) (ys:List AV) (x:Value) (news:List Value):Prop where
 lenOf:(Builtin.lenOf x).run P w=.ok ys.length w
 first:(Builtin.firstCells z ys.length x).run P w=.ok news.toArray w
 first':(Builtin.firstCells z ys.length x).run P w.drew=.ok news.toArray w.drew
 rels:Rels us w .nil (flat ys) news
 each: ∀y∈ys,y.cells.length=z
 one: ∀y∈news,y.oneCell'=true
theorem z53 (a:Bool)(z:Nat): ∀(n:Nat) (cs:List AV),(group a z n cs).length=n
 |0,_=>rfl
 |n+1,cs=>by simp [group,z53]
theorem zff (z:Nat): ∀(n:Nat) (cs:List AV),n*z≤cs.length→flat (group true z n cs)=cs.take (n*z)∧∀y∈group true z n cs,y.cells.length=z
 |0,cs,_=>by simp [group,flat]
 |n+1,cs,h=>by
  rw [Nat.succ_mul] at h
  obtain ⟨h1,h2⟩:=zff z n (cs.drop z) (by simp;omega)
  refine ⟨?_,?_⟩
  ·simp only [group,if_true,z75,AV.cells,h1]
   rw [Nat.succ_mul,Nat.add_comm,List.take_add]
  ·intro y hy
   simp only [group,if_true,List.mem_cons] at hy
   rcases hy with rfl|hy
   ·simp [AV.cells];omega
   ·exact h2 y hy
theorem zcf (x:AV):(cell1 x).cells=[cell1 x]:=by cases x<;>rfl
theorem zl0 {K x v} (h:Rel us w K x v):Rel us w K (cell1 x) v:=by
 cases x<;>first|exact h|exact .any K v
theorem zfe: ∀(n:Nat) (cs:List AV),n≤cs.length→flat (group false 1 n cs)=(cs.take n).map cell1∧∀y∈group false 1 n cs,y.cells.length=1
 |0,cs,_=>by simp [group,flat]
 |n+1,[],h=>by simp at h
 |n+1,c::cs,h=>by
  obtain ⟨h1,h2⟩:=zfe n cs (by simpa using h)
  refine ⟨?_,?_⟩
  ·simp only [group,z75,Bool.false_eq_true,if_false,List.headD_cons,zcf,List.drop_one,List.tail_cons,h1,List.take_succ_cons,List.map_cons,List.cons_append,List.nil_append]
  ·intro y hy
   simp only [group,Bool.false_eq_true,if_false,List.mem_cons,List.headD_cons,List.drop_one,List.tail_cons] at hy
   rcases hy with rfl|hy
   ·rw [zcf];rfl
   ·exact h2 y hy
theorem Rels.map1 {K cs vs} (h:Rels us w K cs vs):Rels us w K (cs.map cell1) vs:=
 ⟨by simpa using h.len,fun i h1 h2=>by simpa using zl0 (h.rel i (by simpa using h1) h2)⟩
theorem z74 {K} (b:Bool)(z n:Nat)(cs:List AV)(vs:List Value)(hb:b=true∨z=1)(h:n*z≤cs.length)(hr:Rels us w K cs vs):
  Rels us w K (flat (group b z n cs)) (vs.take (n*z))∧∀y∈group b z n cs,y.cells.length=z:=by
 cases b with
 |true=>
  obtain ⟨h1,h2⟩:=zff z n cs h
  exact ⟨by rw [h1];exact hr.take _,h2⟩
 |false=>
  have:z=1:=by simpa using hb
  subst this
  obtain ⟨h1,h2⟩:=zfe n cs (by omega)
  exact ⟨by rw [h1,Nat.mul_one];exact (hr.take n).map1,h2⟩
theorem zhg {z:Nat} {A:AV} {x:Value} {ys:List AV} (hG:Good us w K S)(h:elemsOf z S A=some ys)(hr:Rel us w K A x): ∃news,Elems P us w z ys x news:=by
 unfold elemsOf at h
 split at h
 ·simp only [sI_] at h
  subst h
  rw [hr.v_inv]
  exact ⟨[],by simp [Builtin.lenOf],by simp [Builtin.firstCells],by simp [Builtin.firstCells],.nil,by simp,by simp⟩
 ·rename_i g z' xs
  split at h
  ·next hz=>
   subst hz
   simp only [sI_] at h
   subst h
   obtain ⟨c,p,cap,vs,rfl,h1⟩:=hr.lst_inv
   have hl:vs.length=xs.length*z':=by rw [←h1.rels.len,z15 xs h1.each]
   refine ⟨vs,by simp [Builtin.lenOf],?_,?_,h1.rels,h1.each,h1.one⟩
   all_goals
    refine run_firstCells_some _ z' xs.length ⟨c,p,none⟩ xs.length cap vs hl (fun j v hj=> ?_)
    obtain ⟨hj1,rfl⟩:=List.getElem?_eq_some_iff.1 hj
    rw [Addr.add_lit]
    exact h1.cells j hj1
  ·simp at h
 ·rename_i l q n cp z' b
  split at h
  ·next hz=>
   obtain ⟨rfl,hb⟩:=hz
   obtain ⟨c,cap,hc,rfl,_⟩:=hr.rsl_inv
   cases hl:S.store[l]? with
   |none=>simp [hl] at h
   |some cs=>
    simp only [hl,Option.bind_some] at h
    split at h
    ·next hbd=>
     simp only [sI_] at h
     subst h
     obtain ⟨cur,ty,h1,h0,h2,h3⟩:=hG.blk l c cs hc hl
     have h4:=z74 (us:=us) (w:=w) b z' n (pubs (cs.drop q)) ((cur.toList.take cs.length).drop q) hb (by rw [z2a];simp;omega) (h2.drop q).pubs
     refine ⟨((cur.toList.take cs.length).drop q).take (n*z'),by simp [Builtin.lenOf,z53],?_,?_,h4.1,h4.2,fun y hy=>h3 y (List.mem_of_mem_take (List.mem_of_mem_drop (List.mem_of_mem_take hy)))⟩
     all_goals
      rw [z53]
      refine run_firstCells_some _ z' n ⟨c,q,none⟩ n cap _ (by simp;omega) (fun j v hj=> ?_)
      obtain ⟨hj1,rfl⟩:=List.getElem?_eq_some_iff.1 hj
      rw [Addr.add_lit]
      try rw [World.cell?_drew]
      rw [cell_of_row _ c (q+j) cur ty _ h1]
      simp at hj1
      rw [Array.getElem?_eq_getElem (by omega)]
      simp
    ·simp at h
  ·simp at h
 ·simp at h
theorem z6y {z:Nat} {A:AV} {ys:List AV} {rest:List (List AV)} (h:elemsOf z st A=some ys)(hp:S.store=st.store++rest):elemsOf z S A=some ys:=by
 unfold elemsOf at h⊢
 split at h
 ·exact h
 ·exact h
 ·rename_i l q n cp z' b
  cases hl:st.store[l]? with
  |none=>simp [hl] at h
  |some cs=>
   have:S.store[l]? =some cs:=by
    rw [hp,List.getElem?_append_left (List.getElem?_eq_some_iff.1 hl).1]
    exact hl
   simpa [this,hl] using h
 ·exact h
structure AppOk (P:Program) (o:Oper) (s y:Operand) (i:TypeInfo) (e:TypeId) (z:Value):Prop where
 ex: ∃c t u d,o.op=.call c∧c.callee=.builtin .append∧c.args= #[s,y]∧c.argTypes[0]? =some t∧P.underlying t=some (.slice e)∧c.argTypes[1]? =some u∧P.underlying u=some (.slice d)
 info:P.info? e=some i
 zero:i.zero=some z
 zsize:z.cells.size=i.size
 bytes:i.bytes≤2^12
 pos:0<i.size
 zone: ∀x∈z.cells.toList,x.oneCell'=true
theorem zcj {s y:Operand} {i:TypeInfo} {e:TypeId} {zv:Value} (h:AppOk P o s y i e zv) {v:Value} {w':World} (hr: ∀(ts:Array TypeId) (ty t u d:TypeId),ts[0]? =some t→P.underlying t=some (.slice e)→ts[1]? =some u→P.underlying u=some (.slice d)→
  (Builtin.append_ ts ty #[a.eval s,a.eval y]).run P w=.ok v w'):(execOp a.eval o).run P w=.ok (.value v) w':=by
 obtain ⟨c,t,u,d,h1,h2,h3,h4,h5,h6,h7⟩:=h.ex
 have:=hr c.argTypes o.type t u d h4 h5 h6 h7
 simp [execOp,h1,resolve,h2,h3,invoke,builtin,this]
theorem zej {i:TypeInfo} {e:TypeId} {s:Value} {x:Value} {b:Option Addr} {n cap:Nat} {ys:List AV} {news:List Value} (hi:P.info? e=some i)(hs:s=.slice b n cap)(he:Elems P us w i.size ys x news)(hfit:n+ys.length≤cap)
  (ts:Array TypeId) (ty t u d:TypeId) (h4:ts[0]? =some t) (h5:P.underlying t=some (.slice e)) (h6:ts[1]? =some u) (h7:P.underlying u=some (.slice d)):
  (Builtin.append_ ts ty #[s,x]).run P w=match b with
   |some ad=>((storeCells (ad.add (n*i.size)) news).run P w).andThen fun _ w'=> .ok (.slice b (n+ys.length) cap) w'
   |none=> .ok (.slice b (n+ys.length) cap) w:=by
 subst hs
 cases b<;>simp [Builtin.append_,h4,h6,run_underlying h5,run_underlying h7,sizeOf,typeInfo,hi,he.lenOf,he.first,hfit]
theorem zfy {i:TypeInfo} {e:TypeId} {zv:Value} {s:Value} {x:Value} {b:Option Addr} {n cap:Nat} {ys:List AV} {news olds:List Value} (hi:P.info? e=some i)(hz:i.zero=some zv)(hby:i.bytes≤2^12)(hs:s=.slice b n cap)(he:Elems P us w i.size ys x news)
  (ho:(Builtin.firstCells i.size n s).run P w.drew=.ok olds.toArray w.drew) (hg:cap<n+ys.length) (hmax:n+ys.length≤maxGrow)
  (ts:Array TypeId) (ty t u d:TypeId) (h4:ts[0]? =some t) (h5:P.underlying t=some (.slice e)) (h6:ts[1]? =some u) (h7:P.underlying u=some (.slice d)):
  (Builtin.append_ ts ty #[s,x]).run P w=.ok (.slice (some ⟨w.heap.size,0,none⟩) (n+ys.length) (grownCap w (n+ys.length) cap e))
   (w.drew.alloc (.cells (olds++news++(Builtin.zeroCells zv.cells (grownCap w (n+ys.length) cap e-(n+ys.length))).toList).toArray e)):=by
 subst hs
 rw [zab] at hmax
 have hn: ¬(n+ys.length≤cap):=by omega
 have h63': ¬(9223372036854775807<((n:Int)+(ys.length:Int))):=by omega
 have hb2:(n+ys.length)*i.bytes≤140737488355328:=by
  have h1:(n+ys.length)*i.bytes≤4294967296*4096:=Nat.mul_le_mul hmax hby
  omega
 have hfit:=growslice_fits hg hb2
 have h48': ¬(281474976710656<Builtin.nextslicecap (n+ys.length) cap*i.bytes):=by omega
 simp [Builtin.append_,h4,h6,run_underlying h5,run_underlying h7,sizeOf,typeInfo,zeroValue,hi,hz,he.lenOf,hn,h63',h48',Question.forced,he.first',ho,newRow,grownCap]
 congr 2
 apply Array.ext'
 simp [List.append_assoc]
end
end Go.Ev
namespace Go.Ev
open Go
def Kx.setT (K:Kx) (t c:Nat) (T:List Nat):Kx:=⟨K.lm,fun x=>if x=t then some c else K.tk x,T⟩
structure TipsGo (T T':List Nat) (t:Nat):Prop where
 le: ∀t' m,T[t']? =some m→∃m',T'[t']? =some m'∧m≤m'∧(m'=m→t'≠t)
 lt:t<T'.length
 len:T.length≤T'.length
theorem zct (T:List Nat)(m:Nat):TipsGo T (T++ [m]) T.length:=by
 refine ⟨fun t' m' h=>⟨m',?_,Nat.le_refl _,fun _ e=> ?_⟩,by simp,by simp⟩
 ·rw [List.getElem?_append_left (List.getElem?_eq_some_iff.1 h).1];exact h
 ·have:=(List.getElem?_eq_some_iff.1 h).1;omega
theorem zhq (T:List Nat)(t e k:Nat)(h:T[t]? =some e)(hk:0<k):TipsGo T (T.set t (e+k)) t:=by
 have ht:=(List.getElem?_eq_some_iff.1 h).1
 refine ⟨fun t' m' h'=> ?_,by simpa using ht,by simp⟩
 by_cases e':t'=t
 ·subst e'
  rw [h] at h'
  simp only [sI_] at h'
  subst h'
  exact ⟨e+k,by simp [ht],by omega,fun e'=>by omega⟩
 ·exact ⟨m',by rw [List.getElem?_set_ne (fun h=>e' h.symm)];exact h',Nat.le_refl _,fun _=>e'⟩
section
variable {P:Program} {us:Us} {w:World} {K:Kx} {st st' S S':St}
variable {o:Oper} {env:Env} {a:Act} {r:AV}
theorem z9q (w:World)(o:Obj)(c:Nat)(h:c<w.heap.size):(w.drew.alloc o).heap[c]? =w.heap[c]? :=heap_alloc_old w.drew o c h
theorem zio (hG:Good us w K S)(o:Obj)(k:Nat):UsLe us w (us.new w.heap.size k) (w.drew.alloc o):=by
 intro c n hc
 have hlt:=hG.uslt c n hc
 refine ⟨n,by simp [Us.new,Nat.ne_of_lt hlt,hc],Nat.le_refl _,fun i _=> ?_⟩
 rw [World.cell?_alloc_lt]
 ·rfl
 ·exact hlt
theorem zmi (hG:Good us w K S)(o:Obj)(k t:Nat)(T':List Nat)(hT:TipsGo S.tips T' t):KLe us w K (us.new w.heap.size k) (w.drew.alloc o) (K.setT t w.heap.size T'):=by
 refine ⟨fun _ _ h=>⟨h,fun n hn=>SizeAt.alloc (w:=w.drew) hn o⟩,fun t' m hm=> ?_⟩
 rw [hG.T] at hm
 obtain ⟨m',h1,h2,h3⟩:=hT.le t' m hm
 refine ⟨m',h1,h2,fun e c hc=> ?_⟩
 obtain ⟨n,hn⟩:=hG.tkus t' c hc
 have hlt:=hG.uslt c n hn
 exact ⟨by simp [Kx.setT,h3 e,hc],by simp [Us.new,Nat.ne_of_lt hlt],fun n hn=>SizeAt.alloc (w:=w.drew) hn o⟩
theorem zhe (hG:Good us w K S)(o:Obj)(k t:Nat)(T':List Nat)(hT:TipsGo S.tips T' t):Ext us w K (us.new w.heap.size k) (w.drew.alloc o) (K.setT t w.heap.size T') where
 os:=rfl
 tape:=rfl
 output:=rfl
 size:=by simp
 sz:=fun c n hn=>SizeAt.alloc (w:=w.drew) hn o
 usle:=zio hG o k
 kle:=zmi hG o k t T' hT
 frame:=fun c hc _ _=>⟨z9q w o c hc,by simp [Us.new,Nat.ne_of_lt hc]⟩
 usNone:=fun c hc h _=>by simp [Us.new,Nat.ne_of_lt hc,h]
 lmNew:=fun l _ h=> .inl ⟨l,h⟩
 tkNew:=fun t' c h=>by
  simp only [Kx.setT] at h
  split at h
  ·simp at h;exact .inr (by omega)
  ·exact .inl h
theorem zkg (hG:Good us w K S)(o:Obj)(k t:Nat)(T':List Nat)(hT:TipsGo S.tips T' t):Good (us.new w.heap.size k) (w.drew.alloc o) (K.setT t w.heap.size T') ⟨S.store,T'⟩:=by
 have hx:=zhe hG o k t T' hT
 refine ⟨rfl,hG.lmlt,fun l c cs hl hs=> ?_,hG.inj,fun t1 t2 c h1 h2=> ?_,fun t1 c h=> ?_,fun t1 c h=> ?_,fun c n h=> ?_,fun l c h=> ?_,fun l t1 c h h2=> ?_⟩
 ·exact (hG.blk l c cs hl hs).mono hx.usle hx.kle (z9q w o c (hG.lmltH hl))
 ·have lt: ∀t c,K.tk t=some c→c<w.heap.size:=fun t c h=>by obtain ⟨n,hn⟩:=hG.tkus t c h;exact hG.uslt c n hn
  simp only [Kx.setT] at h1 h2
  split at h1<;>split at h2
  ·omega
  ·have:=lt _ _ h2;simp at h1;omega
  ·have:=lt _ _ h1;simp at h2;omega
  ·exact hG.tkinj t1 t2 c h1 h2
 ·simp only [Kx.setT] at h
  split at h
  ·next e=>subst e;exact hT.lt
  ·exact Nat.lt_of_lt_of_le (hG.tklt t1 c h) hT.len
 ·simp only [Kx.setT] at h
  split at h
  ·simp at h;subst h;exact ⟨k,by simp [Us.new]⟩
  ·obtain ⟨n,hn⟩:=hG.tkus t1 c h
   exact ⟨n,by simp [Us.new,Nat.ne_of_lt (hG.uslt c n hn),hn]⟩
 ·simp only [Us.new] at h
  split at h
  ·next e=>subst e;simp
  ·have:=hG.uslt c n h;simp;omega
 ·have hlt:=hG.lmltH h
  simp only [Us.new,Nat.ne_of_lt hlt,if_false]
  exact hG.disj l c h
 ·simp only [Kx.setT] at h2
  have hlt:=hG.lmltH h
  split at h2
  ·simp at h2;omega
  ·exact hG.lmtk l t1 c h h2
theorem zhp {c q k:Nat} {cur cells:Array Value} {ty:TypeId} (hu:us c=some q)(hb:w.heap[c]? =some (.cells cur ty (0,0)))(hq:q≤k)(hsame: ∀i,i<q→cells[i]? =cur[i]?):UsLe us w (us.new c k) (w.setRow c cells):=by
 intro b n hn
 by_cases e:b=c
 ·subst e
  rw [hu] at hn
  simp only [sI_] at hn
  subst hn
  refine ⟨k,by simp [Us.new],hq,fun i hi=> ?_⟩
  rw [cell_setRow_same w b i cur cells ty _ hb,hsame i hi,cell_of_row w b i cur ty _ hb]
 ·exact ⟨n,by simp [Us.new,e,hn],Nat.le_refl _,fun i _=>cell_setRow_other w c cells ⟨b,i,none⟩ e⟩
theorem zk6 (hG:Good us w K S) {c t k:Nat} {cells:Array Value} (ht:K.tk t=some c)(T':List Nat)(hT:TipsGo S.tips T' t):KLe us w K (us.new c k) (w.setRow c cells) (K.setT t c T'):=by
 refine ⟨fun l b h=>⟨h,fun n ⟨cur,ty,h1,h2⟩=>⟨cur,ty,(setRow_other w c b cells (fun e=>hG.lmtk l t b h (by rw [e];exact ht))).trans h1,h2⟩⟩,fun t' m hm=> ?_⟩
 rw [hG.T] at hm
 obtain ⟨m',h1,h2,h3⟩:=hT.le t' m hm
 refine ⟨m',h1,h2,fun e b hb=> ?_⟩
 have:b≠c:=fun e'=>h3 e (hG.tkinj t' t c (by rw [←e'];exact hb) ht)
 exact ⟨by simp [Kx.setT,h3 e,hb],by simp [Us.new,this],fun n ⟨cur,ty,h1,h2⟩=>⟨cur,ty,(setRow_other w c b cells this).trans h1,h2⟩⟩
theorem zfl (hG:Good us w K S) {c q t k:Nat} {cur cells:Array Value} {ty:TypeId} (ht:K.tk t=some c)(hu:us c=some q)(hb:w.heap[c]? =some (.cells cur ty (0,0)))(hq:q≤k)(hsame: ∀i,i<q→cells[i]? =cur[i]?)
  (T':List Nat) (hT:TipsGo S.tips T' t) (hsz:cells.size=cur.size):Ext us w K (us.new c k) (w.setRow c cells) (K.setT t c T') where
 os:=rfl
 tape:=rfl
 output:=rfl
 size:=by simp
 sz:=fun b n h=>h.setRow ⟨cur,ty,hb,hsz.symm⟩
 usle:=zhp hu hb hq hsame
 kle:=zk6 hG ht T' hT
 frame:=fun b _ _ hb2=>by
  have:b≠c:=fun e=>hb2 t (by rw [e];exact ht)
  exact ⟨setRow_other w c b cells this,by simp [Us.new,this]⟩
 usNone:=fun b _ h _=>by
  have:b≠c:=fun e=>by rw [e,hu] at h;exact absurd h (by simp)
  simp [Us.new,this,h]
 lmNew:=fun l _ h=> .inl ⟨l,h⟩
 tkNew:=fun t' b h=>by
  simp only [Kx.setT] at h
  split at h
  ·next e=>subst e;simp at h;subst h;exact .inl ht
  ·exact .inl h
theorem zia (hG:Good us w K S) {c q t k:Nat} {cur cells:Array Value} {ty:TypeId} (ht:K.tk t=some c)(hu:us c=some q)(hb:w.heap[c]? =some (.cells cur ty (0,0)))(hq:q≤k)(hsame: ∀i,i<q→cells[i]? =cur[i]?)
  (T':List Nat) (hT:TipsGo S.tips T' t) (hsz:cells.size=cur.size):Good (us.new c k) (w.setRow c cells) (K.setT t c T') ⟨S.store,T'⟩:=by
 have hx:=zfl hG ht hu hb hq hsame T' hT hsz
 have htk: ∀t' b,(K.setT t c T').tk t'=some b→K.tk t'=some b:=by
  intro t' b h
  simp only [Kx.setT] at h
  split at h
  ·next e=>subst e;simp at h;subst h;exact ht
  ·exact h
 have hne: ∀l b,K.lm l=some b→b≠c:=fun l b h e=>hG.lmtk l t b h (by rw [e];exact ht)
 refine ⟨rfl,hG.lmlt,fun l b cs hl hs=> ?_,hG.inj,fun t1 t2 b h1 h2=>hG.tkinj t1 t2 b (htk _ _ h1) (htk _ _ h2),fun t1 b h=>Nat.lt_of_lt_of_le (hG.tklt t1 b (htk _ _ h)) hT.len,fun t1 b h=> ?_,fun b n h=> ?_,fun l b h=> ?_,fun l t1 b h h2=>hG.lmtk l t1 b h (htk _ _ h2)⟩
 ·exact (hG.blk l b cs hl hs).mono hx.usle hx.kle (setRow_other w c b cells (hne l b hl))
 ·obtain ⟨n,hn⟩:=hG.tkus t1 b (htk _ _ h)
  by_cases e:b=c
  ·exact ⟨k,by simp [Us.new,e]⟩
  ·exact ⟨n,by simp [Us.new,e,hn]⟩
 ·simp only [Us.new] at h
  split at h
  ·next e=>subst e;simpa using hG.uslt b q hu
  ·simpa using hG.uslt b n h
 ·simp only [Us.new,hne l b h,if_false]
  exact hG.disj l b h
theorem zc6 (hS:st.tips=S.tips) {c:Nat} {T':List Nat} {t:Nat} (h:t<st.tips.length→(K.tk t).isSome=true)(hle:t<st'.tips.length):Fresh st st' K (K.setT t c T'):=by
 refine ⟨fun _ _ h=> .inl h,fun t' h'=> ?_⟩
 simp only [Kx.setT] at h'
 split at h'
 ·next e=>
  subst e
  rcases Nat.lt_or_ge t' st.tips.length with hlt|hge
  ·exact .inl (h hlt)
  ·exact .inr ⟨hge,hle⟩
 ·exact .inl h'
theorem zad {s y:Operand} {i:TypeInfo} {e:TypeId} {zv:Value} (h:AppOk P o s y i e zv) {b:Option Addr} {n cap t m:Nat} {x:Value} {xs ys:List AV} {olds news:List Value} {T':List Nat} (hG:Good us w K S)
  (hs:a.eval s=.slice b n cap) (hx:a.eval y=x) (he:Elems P us w i.size ys x news) (hold:(Builtin.firstCells i.size n (.slice b n cap)).run P w.drew=.ok olds.toArray w.drew)
  (hxs:xs.length=n) (hrx:Rels us w .nil (flat xs) olds) (heach: ∀y∈xs,y.cells.length=i.size) (hone: ∀y∈olds,y.oneCell'=true) (hg:cap<n+ys.length) (hmax:n+ys.length≤maxGrow)
  (hT:TipsGo S.tips T' t) (hTt:T'[t]? =some m) (hfresh: ∀c,Fresh st st' K (K.setT t c T')):
  Goes P o a us w K (.lst (.own t m) i.size (xs++ys)) st st' ⟨S.store,T'⟩:=by
 intro next Q hn
 unfold Oper.wp
 have hrun:=zcj (o:=o) (a:=a) (w:=w) h (fun ts ty t u d h4 h5 h6 h7=>by
  rw [hx];exact zfy (us:=us) h.info h.zero h.bytes hs he (by rw [hs];exact hold) hg hmax ts ty t u d h4 h5 h6 h7)
 rw [hrun]
 subst hxs
 have hge:=grownCap_ge w (xs.length+ys.length) cap e
 have hol:olds.length=xs.length*i.size:=by rw [←hrx.len,z15 xs heach]
 have hnl:news.length=ys.length*i.size:=by rw [←he.rels.len,z15 ys he.each]
 have hlen:(olds++news).length=(xs.length+ys.length)*i.size:=by rw [List.length_append,hol,hnl,Nat.add_mul]
 generalize hgc:grownCap w (xs.length+ys.length) cap e=nc at hge
 have hcs:(olds++news++(Builtin.zeroCells zv.cells (nc-(xs.length+ys.length))).toList).toArray.size=nc*i.size:=by
  simp only [List.size_toArray,List.length_append,Array.length_toList,size_zeroCells,h.zsize,hol,hnl,←Nat.add_mul]
  congr 1;omega
 generalize hce:(olds++news++(Builtin.zeroCells zv.cells (nc-(xs.length+ys.length))).toList).toArray=cells at hcs
 have hx1:=zhe hG (.cells cells e) ((xs.length+ys.length)*i.size) t T' hT
 have hg1:=zkg hG (.cells cells e) ((xs.length+ys.length)*i.size) t T' hT
 refine hn _ _ _ _ ?_ hx1 hg1 (hfresh _)
 have key:LstAt (us.new w.heap.size ((xs.length+ys.length)*i.size)) (w.drew.alloc (.cells cells e)) (K.setT t w.heap.size T') (.own t m) i.size (xs++ys) w.heap.size 0 nc (olds++news):=by
  refine ⟨⟨(xs.length+ys.length)*i.size,by simp [Us.new],by rw [hlen];omega⟩,?_,?_,?_,by simpa using hge,?_,?_⟩
  ·intro j hj
   have hnew:(w.drew.alloc (.cells cells e)).cell? ⟨w.heap.size,0+j,none⟩=cells[j]? :=by
    have:=World.cell?_alloc_at (w:=w.drew) cells e _ j rfl
    simpa using this
   rw [hnew,←hce]
   simp only [List.getElem?_toArray]
   rw [List.getElem?_append_left (by simpa using hj),List.getElem?_eq_getElem hj]
  ·intro v hv
   rcases List.mem_append.1 hv with hv|hv
   ·exact hone v hv
   ·exact he.one v hv
  ·intro v hv
   rcases List.mem_append.1 hv with hv|hv
   ·exact heach v hv
   ·exact he.each v hv
  ·rw [z5h]
   exact (hrx.append he.rels).mono hx1.usle (.nil _ _ _ _ _)
  ·refine ⟨m,hTt,Nat.le_refl _,fun _=>⟨rfl,by simp [Kx.setT],by simp [Us.new],by simpa using hge,cells,e,heap_alloc_new w.drew _,Nat.le_of_eq hcs.symm⟩⟩
 have:=key.rel
 rw [List.length_append] at this
 exact this
theorem zkh {s y:Operand} {i:TypeInfo} {e:TypeId} {zv:Value} (h:AppOk P o s y i e zv) {c n cap t m:Nat} {x:Value} {xs ys:List AV} {news:List Value} {cur:Array Value} {ty:TypeId} {olds:List Value} {T':List Nat} (hG:Good us w K S)
  (hs:a.eval s=.slice (some ⟨c,0,none⟩) n cap) (hx:a.eval y=x) (he:Elems P us w i.size ys x news)
  (hxs:xs.length=n) (hrx:Rels us w .nil (flat xs) olds) (heach: ∀y∈xs,y.cells.length=i.size) (hone: ∀y∈olds,y.oneCell'=true) (hcells:CellsAt w c 0 olds) (hfit:n+ys.length≤cap)
  (ht:K.tk t=some c) (hu:us c=some (n*i.size)) (hb:w.heap[c]? =some (.cells cur ty (0,0))) (hcur:cap*i.size≤cur.size)
  (hT:TipsGo S.tips T' t) (hTt:T'[t]? =some m) (hfresh: ∀c,Fresh st st' K (K.setT t c T')):
  Goes P o a us w K (.lst (.own t m) i.size (xs++ys)) st st' ⟨S.store,T'⟩:=by
 intro next Q hn
 unfold Oper.wp
 subst hxs
 have hol:olds.length=xs.length*i.size:=by rw [←hrx.len,z15 xs heach]
 have hnl:news.length=ys.length*i.size:=by rw [←he.rels.len,z15 ys he.each]
 have hlen:(olds++news).length=(xs.length+ys.length)*i.size:=by rw [List.length_append,hol,hnl,Nat.add_mul]
 have hle:(xs.length+ys.length)*i.size≤cap*i.size:=Nat.mul_le_mul_right _ hfit
 have hst:=run_storeCells_at P c (xs.length*i.size) ty news 0 cur w hb (by rw [hnl,Nat.add_zero,←Nat.add_mul];omega) he.one
 simp only [Nat.add_zero] at hst
 have hrun:=zcj (o:=o) (a:=a) (w:=w) (v:=.slice (some ⟨c,0,none⟩) (xs.length+ys.length) cap) (w':=w.setRow c (cur.toList.take (xs.length*i.size)++news++cur.toList.drop (xs.length*i.size+news.length)).toArray) h (fun ts ty' t' u d h4 h5 h6 h7=>by
  rw [hx,zej (us:=us) h.info hs he hfit ts ty' t' u d h4 h5 h6 h7]
  simp only [Addr.add_lit,Nat.zero_add,hst,Result.andThen_ok])
 rw [hrun]
 have hpre:cur.toList.take (xs.length*i.size)=olds:=by
  apply List.ext_getElem
  ·rw [List.length_take,Array.length_toList,hol]
   exact Nat.min_eq_left (Nat.le_trans (Nat.mul_le_mul_right i.size (show xs.length≤cap by omega)) hcur)
  ·intro j h1 h2
   have h3:=hcells j h2
   rw [Nat.zero_add,cell_of_row w c j cur ty _ hb] at h3
   have h4:j<cur.size:=by simp at h1;omega
   rw [Array.getElem?_eq_getElem h4] at h3
   simp only [sI_] at h3
   simpa using h3
 rw [hpre]
 generalize hce:(olds++news++cur.toList.drop (xs.length*i.size+news.length)).toArray=cells
 have hcs:cells.size=cur.size:=by
  rw [←hce]
  simp only [List.size_toArray,List.length_append,List.length_drop,Array.length_toList,hol,hnl]
  rw [Nat.add_mul] at hle
  omega
 have hq:xs.length*i.size≤(xs.length+ys.length)*i.size:=Nat.mul_le_mul_right _ (by omega)
 have hsame: ∀j,j<xs.length*i.size→cells[j]? =cur[j]? :=by
  intro j hj
  rw [←hce,List.getElem?_toArray,List.append_assoc,List.getElem?_append_left (by omega)]
  have h3:=hcells j (by omega)
  rw [Nat.zero_add,cell_of_row w c j cur ty _ hb] at h3
  rw [h3,List.getElem?_eq_getElem (by omega)]
 have hx1:=zfl hG (k:=(xs.length+ys.length)*i.size) ht hu hb hq hsame T' hT hcs
 have hg1:=zia hG (k:=(xs.length+ys.length)*i.size) ht hu hb hq hsame T' hT hcs
 refine hn _ _ _ _ ?_ hx1 hg1 (hfresh _)
 have key:LstAt (us.new c ((xs.length+ys.length)*i.size)) (w.setRow c cells) (K.setT t c T') (.own t m) i.size (xs++ys) c 0 cap (olds++news):=by
  refine ⟨⟨(xs.length+ys.length)*i.size,by simp [Us.new],by rw [hlen];omega⟩,?_,?_,?_,by simpa using hfit,?_,?_⟩
  ·intro j hj
   rw [Nat.zero_add,cell_setRow_same w c j cur cells ty _ hb,←hce]
   simp only [List.getElem?_toArray]
   rw [List.getElem?_append_left (by simpa using hj),List.getElem?_eq_getElem hj]
  ·intro v hv
   rcases List.mem_append.1 hv with hv|hv
   ·exact hone v hv
   ·exact he.one v hv
  ·intro v hv
   rcases List.mem_append.1 hv with hv|hv
   ·exact heach v hv
   ·exact he.each v hv
  ·rw [z5h]
   exact (hrx.append he.rels).mono hx1.usle (.nil _ _ _ _ _)
  ·refine ⟨m,hTt,Nat.le_refl _,fun _=>⟨rfl,by simp [Kx.setT],by simp [Us.new],by simpa using hfit,cells,ty,setRow_heap w c cur _ ty _ hb,by rw [hcs];exact hcur⟩⟩
 have:=key.rel
 rw [List.length_append] at this
 exact this
theorem z9r {s y:Operand} {i:TypeInfo} {e:TypeId} {zv:Value} (h:AppOk P o s y i e zv) {b:Option Addr} {n cap:Nat} {x:Value} {news:List Value} (hG:Good us w K S)(hs:a.eval s=.slice b n cap)(hx:a.eval y=x)(he:Elems P us w i.size [] x news)(hcap:n≤cap)
  (hr:Rel us w K r (.slice b n cap)):Goes P o a us w K r st st' S:=by
 refine RunsTo.goes (.same hG (x:=.slice b n cap) ?_ hr)
 have hnil:news=[]:=by simpa [flat] using he.rels.nil_inv
 refine zcj h (fun ts ty t u d h4 h5 h6 h7=> ?_)
 rw [hx,zej (us:=us) h.info hs he (by simpa using hcap) ts ty t u d h4 h5 h6 h7,hnil]
 cases b<;>simp [storeCells]
theorem z8y {z:Nat} {s:AV} {ys:List AV} (h:appendAV z s ys st=some (r,st'))(S:St)(hS:S.tips=st.tips):appendAV z s ys S=some (r,⟨S.store,st'.tips⟩):=by
 unfold appendAV at h⊢
 rw [hS]
 split at h
 ·cases ys with
  |nil=>simp only [sI_,Prod.mk.injEq] at h⊢;obtain ⟨rfl,rfl⟩:=h;exact ⟨rfl,by rw [←hS]⟩
  |cons y l=>
   simp only at h⊢
   split at h
   ·next hc=>simp only [sI_,Prod.mk.injEq] at h;obtain ⟨rfl,rfl⟩:=h;rw [if_pos hc]
   ·simp at h
 ·split at h
  ·next hz=>
   rw [if_pos hz]
   cases ys with
   |nil=>simp only [sI_,Prod.mk.injEq] at h⊢;obtain ⟨rfl,rfl⟩:=h;exact ⟨rfl,by rw [←hS]⟩
   |cons y l=>
    simp only at h⊢
    split at h
    ·next hc=>
     rw [if_pos hc]
     split at h
     ·simp only [sI_,Prod.mk.injEq] at h;obtain ⟨rfl,rfl⟩:=h;rfl
     ·split at h
      ·next ht=>simp only [sI_,Prod.mk.injEq] at h;obtain ⟨rfl,rfl⟩:=h;rw [if_pos ht]
      ·simp at h
     ·simp at h
    ·simp at h
  ·simp at h
 ·simp at h
theorem zjb {s y:Operand} {i:TypeInfo} {e:TypeId} {zv:Value} (h:AppOk P o s y i e zv) {ys:List AV} (hE:EnvRel us w K env a)(hG:Good us w K S)(hst:st.tips=S.tips)(hst':st'.tips=S'.tips)(hys:elemsOf i.size S (aval env y)=some ys)
  (hv:appendAV i.size (aval env s) ys S=some (r,S')):Goes P o a us w K r st st' S':=by
 have h1:=ze hE s
 have h2:=ze hE y
 obtain ⟨news,he⟩:=zhg (P:=P) hG hys h2
 generalize aval env s=as at hv h1
 unfold appendAV at hv
 split at hv
 ·have h3:=h1.v_inv
  cases ys with
  |nil=>
   simp only [sI_,Prod.mk.injEq] at hv
   obtain ⟨rfl,rfl⟩:=hv
   exact z9r h hG h3 rfl he (Nat.le_refl _) (.v K _ rfl)
  |cons y0 l=>
   simp only at hv
   split at hv
   ·next hc=>
    simp only [sI_,Prod.mk.injEq] at hv
    obtain ⟨rfl,rfl⟩:=hv
    have:=zad (st:=st) (st':=st') (m:=(y0::l).length) (t:=S.tips.length) (T':=S.tips++ [(y0::l).length]) (xs:=[]) (olds:=[]) h hG h3 rfl he (by simp [Builtin.firstCells]) rfl .nil (by simp) (by simp) (by simp) (by simpa using hc)
     (zct _ _) (by simp) (fun c=>zc6 (S:=S) hst (fun hlt=>by rw [hst] at hlt;omega) (by rw [hst'];simp))
    simpa using this
   ·simp at hv
 ·rename_i g z' xs
  split at hv
  ·next hz=>
   subst hz
   obtain ⟨c,p,cap,vs,h3,h4⟩:=h1.lst_inv
   have hvl:vs.length=xs.length*i.size:=by rw [←h4.rels.len,z15 xs h4.each]
   have hold:(Builtin.firstCells i.size xs.length (.slice (some ⟨c,p,none⟩) xs.length cap)).run P w.drew=.ok vs.toArray w.drew:=
    run_firstCells_some w.drew i.size xs.length ⟨c,p,none⟩ xs.length cap vs hvl (fun j v hj=>by
     obtain ⟨hj1,rfl⟩:=List.getElem?_eq_some_iff.1 hj
     rw [Addr.add_lit]
     exact h4.cells j hj1)
   cases ys with
   |nil=>
    simp only [sI_,Prod.mk.injEq] at hv
    obtain ⟨rfl,rfl⟩:=hv
    exact z9r h hG h3 rfl he h4.fits h4.rel
   |cons y0 l=>
    simp only at hv
    split at hv
    ·next hc=>
     split at hv
     ·simp only [sI_,Prod.mk.injEq] at hv
      obtain ⟨rfl,rfl⟩:=hv
      have hcap:cap=xs.length:=h4.tag
      exact zad (m:=xs.length+(y0::l).length) (t:=S.tips.length) h hG h3 rfl he hold rfl h4.rels h4.each h4.one (by simp;omega) hc
       (zct _ _) (by simp) (fun c=>zc6 (S:=S) hst (fun hlt=>by rw [hst] at hlt;omega) (by rw [hst'];simp))
     ·rename_i t e'
      split at hv
      ·next ht=>
       simp only [sI_,Prod.mk.injEq] at hv
       obtain ⟨rfl,rfl⟩:=hv
       obtain ⟨m,hm,hle,htip⟩:=h4.tag
       rw [hG.T,ht] at hm
       simp only [sI_] at hm
       obtain ⟨rfl,htk,hus,hcap,cur,ty,hb,hcur⟩:=htip hm
       have htl:=(List.getElem?_eq_some_iff.1 ht).1
       have hTt:(S.tips.set t (e'+(y0::l).length))[t]? =some (e'+(y0::l).length):=by simp [htl]
       have hT:=zhq S.tips t e' (y0::l).length ht (by simp)
       have hfr: ∀c',Fresh st st' K (K.setT t c' (S.tips.set t (e'+(y0::l).length))):=fun c'=>zc6 (S:=S) hst (fun _=>by rw [htk];rfl) (by rw [hst'];simpa using htl)
       by_cases hf:xs.length+(y0::l).length≤cap
       ·exact zkh h hG h3 rfl he rfl h4.rels h4.each h4.one h4.cells hf htk hus hb hcur hT hTt hfr
       ·exact zad h hG h3 rfl he hold rfl h4.rels h4.each h4.one (by omega) hc hT hTt hfr
      ·simp at hv
     ·simp at hv
    ·simp at hv
  ·simp at hv
 ·simp at hv
end
end Go.Ev
namespace Go.Ev
open Go
section
variable {P:Program} {us:Us} {w:World} {K:Kx} {st st' S S':St}
variable {o:Oper} {env:Env} {a:Act} {r:AV}
theorem Good.drew (hG:Good us w K st):Good us w.drew K st∧Ext us w K us w.drew K:=by
 have hk:KLe us w K us w.drew K:=⟨fun _ _ h=>⟨h,fun _ h=>h⟩,fun _ m h=>⟨m,h,Nat.le_refl _,fun _ _ h=>⟨h,rfl,fun _ h=>h⟩⟩⟩
 have hu:UsLe us w us w.drew:=fun _ n h=>⟨n,h,Nat.le_refl _,fun _ _=>rfl⟩
 exact ⟨⟨hG.T,hG.lmlt,fun l c cs h hs=>(hG.blk l c cs h hs).mono hu hk rfl,hG.inj,hG.tkinj,hG.tklt,hG.tkus,hG.uslt,hG.disj,hG.lmtk⟩,
  ⟨rfl,rfl,rfl,Nat.le_refl _,fun _ _ h=>h,hu,hk,fun _ _ _ _=>⟨rfl,rfl⟩,fun _ _ h _=>h,fun l _ h=> .inl ⟨l,h⟩,fun _ _ h=> .inl h⟩⟩
theorem Good.push (hG:Good us w K S)(cs:List AV):Good us w K ⟨S.store++ [cs],S.tips⟩:=by
 have hg: ∀l c,K.lm l=some c→(S.store++ [cs])[l]? =S.store[l]? :=fun l c h=>by rw [List.getElem?_append_left (hG.lmlt l c h)]
 refine ⟨hG.T,fun l c h=> ?_,fun l c cs' hl hs=> ?_,fun l l' c h h'=> ?_,hG.tkinj,hG.tklt,hG.tkus,hG.uslt,fun l c h=> ?_,hG.lmtk⟩
 ·have:=hG.lmlt l c h;simp;omega
 ·simp only [hg l c hl] at hs;exact hG.blk l c cs' hl hs
 ·simp only [hg l c h,hg l' c h'];exact hG.inj l l' c h h'
 ·simp only [hg l c h];exact hG.disj l c h
theorem Good.dead (hG:Good us w K S)(l0:Nat):Good us w K ⟨S.store.set l0 [],S.tips⟩:=by
 have hg: ∀l c,K.lm l=some c→(S.store.set l0 [])[l]? =if l=l0 then some [] else S.store[l]? :=fun l c h=>by
  by_cases e:l=l0
  ·subst e;simp [hG.lmlt l c h]
  ·rw [if_neg e,List.getElem?_set_ne (fun h=>e h.symm)]
 refine ⟨hG.T,fun l c h=>by simpa using hG.lmlt l c h,fun l c cs' hl hs=> ?_,fun l l' c h h'=> ?_,hG.tkinj,hG.tklt,hG.tkus,hG.uslt,fun l c h=> ?_,hG.lmtk⟩
 ·simp only [hg l c hl] at hs
  split at hs
  ·simp only [sI_] at hs
   subst hs
   have hlt:=hG.lmlt l c hl
   obtain ⟨cur,ty,h1,_,_,h3⟩:=hG.blk l c _ hl (List.getElem?_eq_getElem hlt)
   exact ⟨cur,ty,h1,Nat.zero_le _,by simpa using Rels.nil,h3⟩
  ·exact hG.blk l c cs' hl hs
 ·simp only [hg l c h,hg l' c h']
  rcases hG.inj l l' c h h' with e|e|e
  ·exact .inl e
  ·refine .inr (.inl ?_);split<;>first|rfl|exact e
  ·refine .inr (.inr ?_);split<;>first|rfl|exact e
 ·simp only [hg l c h]
  rcases hG.disj l c h with e|e
  ·refine .inl ?_;split<;>first|rfl|exact e
  ·exact .inr e
theorem Good.rename (hG:Good us w K S) {l c:Nat} {cs:List AV} (hl:K.lm l=some c)(hs:S.store[l]? =some cs)(hfree:K.lm S.store.length=none):
  Good us w (K.newL S.store.length c) ⟨S.store.set l []++ [cs],S.tips⟩∧KLe us w K us w (K.newL S.store.length c):=by
 have hlm: ∀l' c',K.lm l'=some c'→(K.newL S.store.length c).lm l'=some c':=by
  intro l' c' h
  simp only [Kx.newL]
  rw [if_neg (by have:=hG.lmlt l' c' h;omega)];exact h
 have hk:KLe us w K us w (K.newL S.store.length c):=⟨fun l' c' h=>⟨hlm l' c' h,fun _ h=>h⟩,fun _ m h=>⟨m,h,Nat.le_refl _,fun _ _ h=>⟨h,rfl,fun _ h=>h⟩⟩⟩
 have hG2:=(hG.dead l).push cs
 have hlen:(S.store.set l []).length=S.store.length:=by simp
 have inv: ∀l' c',(K.newL S.store.length c).lm l'=some c'→(l'=S.store.length∧c'=c)∨(l'<S.store.length∧K.lm l'=some c'):=by
  intro l' c' h
  simp only [Kx.newL] at h
  split at h
  ·next e=>exact .inl ⟨e,by simpa using h.symm⟩
  ·exact .inr ⟨hG.lmlt l' c' h,h⟩
 have hnew:(S.store.set l []++ [cs])[S.store.length]? =some cs:=by rw [List.getElem?_append_right (by simp)];simp
 have hold:(S.store.set l []++ [cs])[l]? =some []:=by
  have:=hG.lmlt l c hl
  rw [List.getElem?_append_left (by simpa using this)];simp [this]
 have hother: ∀l',l'<S.store.length→K.lm l'=some c→S.store[l']? =some []∨l'=l∨cs=[]:=by
  intro l' _ h
  rcases hG.inj l' l c h hl with e|e|e
  ·exact .inr (.inl e)
  ·exact .inl e
  ·rw [hs] at e;exact .inr (.inr (by simpa using e))
 have hst: ∀l',l'<S.store.length→l'≠l→(S.store.set l []++ [cs])[l']? =S.store[l']? :=by
  intro l' h1 h2
  rw [List.getElem?_append_left (by simpa using h1),List.getElem?_set_ne (fun h=>h2 h.symm)]
 have hdead: ∀l',l'<S.store.length→K.lm l'=some c→(S.store.set l []++ [cs])[l']? =some []∨cs=[]:=by
  intro l' h1 h
  by_cases e:l'=l
  ·subst e;exact .inl hold
  ·rcases hother l' h1 h with h2|h2|h2
   ·exact .inl ((hst l' h1 e).trans h2)
   ·exact absurd h2 e
   ·exact .inr h2
 refine ⟨⟨hG.T,fun l' c' h=> ?_,fun l' c' cs' h hs'=> ?_,fun l1 l2 b h1 h2=> ?_,hG.tkinj,hG.tklt,hG.tkus,hG.uslt,fun l' c' h=> ?_,fun l' t c' h ht=> ?_⟩,hk⟩
 ·rcases inv l' c' h with ⟨rfl,_⟩ | ⟨h1,_⟩
  ·simp
  ·simp;omega
 ·rcases inv l' c' h with ⟨rfl,rfl⟩ | ⟨h1,h2⟩
  ·simp only [hnew,sI_] at hs'
   subst hs'
   exact (hG.blk l c' cs hl hs).mono (.refl _ _) hk rfl
  ·exact (hG2.blk l' c' cs' h2 hs').mono (.refl _ _) hk rfl
 ·rcases inv l1 b h1 with ⟨rfl,rfl⟩ | ⟨g1,g2⟩ <;>rcases inv l2 b h2 with ⟨rfl,e⟩ | ⟨g3,g4⟩
  ·exact .inl rfl
  ·rcases hdead l2 g3 g4 with h|h
   ·exact .inr (.inr h)
   ·subst h;exact .inr (.inl hnew)
  ·subst e
   rcases hdead l1 g1 g2 with h|h
   ·exact .inr (.inl h)
   ·subst h;exact .inr (.inr hnew)
  ·exact hG2.inj l1 l2 b g2 g4
 ·rcases inv l' c' h with ⟨rfl,rfl⟩ | ⟨h1,h2⟩
  ·rcases hG.disj l c' hl with h3|h3
   ·rw [hs] at h3
    simp only [sI_] at h3
    subst h3
    exact .inl hnew
   ·exact .inr h3
  ·exact hG2.disj l' c' h2
 ·rcases inv l' c' h with ⟨rfl,rfl⟩ | ⟨h1,h2⟩
  ·exact hG.lmtk l t c' hl ht
  ·exact hG.lmtk l' t c' h2 ht
theorem Ext.ofRename {c L:Nat} (hk:KLe us w K us w (K.newL L c)) {l:Nat} (hl:K.lm l=some c):Ext us w K us w (K.newL L c):=
 ⟨rfl,rfl,rfl,Nat.le_refl _,fun _ _ h=>h,.refl _ _,hk,fun _ _ _ _=>⟨rfl,rfl⟩,fun _ _ h _=>h,fun l' c' h=>by
  simp only [Kx.newL] at h
  split at h
  ·simp at h;subst h;exact .inl ⟨l,hl⟩
  ·exact .inl ⟨l',h⟩,fun _ _ h=> .inl h⟩
theorem z5o (z:Array Value)(hz:0<z.size)(h: ∀x∈z.toList,x.oneCell'=true)(n:Nat): ∀v∈(Builtin.zeroCells z n).toList,v.oneCell'=true:=by
 intro v hv
 simp only [Builtin.zeroCells,Array.toList_map,List.mem_map] at hv
 obtain ⟨j,_,rfl⟩:=hv
 have hlt:=Nat.mod_lt j hz
 rw [getElem!_pos z (j % z.size) hlt]
 exact h _ (by simp)
theorem z76 (xs:List AV):flatAV xs=flat xs:=rfl
theorem zc4 {s y : Operand} {i : TypeInfo} {e : TypeId} {zv : Value} (h : AppOk P o s y i e zv) {b : Option Addr} {n cap L : Nat} {x : Value} {old ys : List AV} {olds news : List Value} {ag : Bool} {S2 : St} (hG : Good us w K S2)
    (hs : a.eval s = .slice b n cap) (hx : a.eval y = x) (he : Elems P us w i.size ys x news) (hold : (Builtin.firstCells i.size n (.slice b n cap)).run P w.drew = .ok olds.toArray w.drew)
    (hrx : Rels us w K old olds) (hol : olds.length = n * i.size) (hone : ∀ y ∈ olds, y.oneCell' = true) (hg : cap < n + ys.length) (hmax : n + ys.length ≤ maxGrow)
    (hfree : K.lm L = none) (hL : S2.store[L]? = some (old ++ flat ys)) (hst : st.store.length ≤ L ∧ L < st'.store.length) :
    Goes P o a us w K (.rsl L 0 (n + ys.length) (n + ys.length) i.size ag) st st' S2 := by
  intro next Q hn
  unfold Oper.wp
  have hrun := zcj (o := o) (a := a) (w := w) h (fun ts ty t u d h4 h5 h6 h7 => by
    rw [hx]; exact zfy (us := us) h.info h.zero h.bytes hs he (by rw [hs]; exact hold) hg hmax ts ty t u d h4 h5 h6 h7)
  rw [hrun]
  have hge := grownCap_ge w (n + ys.length) cap e
  have hnl : news.length = ys.length * i.size := by rw [← he.rels.len, z15 ys he.each]
  have hlen : (olds ++ news).length = (n + ys.length) * i.size := by rw [List.length_append, hol, hnl, Nat.add_mul]
  generalize hgc : grownCap w (n + ys.length) cap e = nc at hge
  have hcs : (olds ++ news ++ (Builtin.zeroCells zv.cells (nc - (n + ys.length))).toList).toArray.size = nc * i.size := by
    simp only [List.size_toArray, List.length_append, Array.length_toList, size_zeroCells, h.zsize, hol, hnl, ← Nat.add_mul]
    congr 1; omega
  have hzone : ∀ v ∈ (Builtin.zeroCells zv.cells (nc - (n + ys.length))).toList, v.oneCell' = true := z5o _ (by rw [h.zsize]; exact h.pos) h.zone _
  generalize hce : (olds ++ news ++ (Builtin.zeroCells zv.cells (nc - (n + ys.length))).toList).toArray = cells at hcs
  have hpre : cells.toList.take (old ++ flat ys).length = olds ++ news := by
    have e1 : (old ++ flat ys).length = (olds ++ news).length := by rw [List.length_append, List.length_append, hrx.len, he.rels.len]
    rw [e1, ← hce, List.toList_toArray, List.take_left]
  have h0 : (old ++ flat ys).length ≤ cells.size := by
    have e1 : (old ++ flat ys).length = (olds ++ news).length := by rw [List.length_append, List.length_append, hrx.len, he.rels.len]
    rw [e1, hlen, hcs]; exact Nat.mul_le_mul_right _ hge
  have hone' : ∀ v ∈ cells.toList, v.oneCell' = true := by
    intro v hv
    rw [← hce, List.toList_toArray] at hv
    simp only [List.mem_append] at hv
    rcases hv with (hv | hv) | hv
    · exact hone v hv
    · exact he.one v hv
    · exact hzone v hv
  obtain ⟨hG2, hX2⟩ := hG.drew
  have hLS : L < S2.store.length := (List.getElem?_eq_some_iff.1 hL).1
  have hx1 := z9u hG2 (.cells cells e) us (fun _ _ => rfl) (K.newL L w.drew.heap.size) rfl rfl
    (fun l' c h => by simp only [Kx.newL]; split; · next e => subst e; rw [hfree] at h; exact absurd h (by simp)
                      · exact h)
    (fun l' c h => by simp only [Kx.newL] at h; split at h; · exact .inr (by simp at h ⊢; omega)
                      · exact .inl ⟨l', h⟩)
  have hg1 := z7g hG2 cells e L (old ++ flat ys) hLS hfree hL (by rw [hpre]; exact (hrx.append he.rels.ofNil).mono hX2.usle hX2.kle) h0 hone'
  refine hn _ us _ (K.newL L w.drew.heap.size) (.rsl _ L 0 _ _ i.size ag w.heap.size nc (by simp [Kx.newL]) (.inr ⟨hge, nc * i.size, ⟨cells, e, heap_alloc_new w.drew _, hcs⟩, by omega⟩)) (hX2.trans hx1) hg1 ⟨fun l' c h => ?_, fun t h => .inl h⟩
  simp only [Kx.newL] at h
  split at h
  · next e => subst e; exact .inr hst
  · exact .inl h
theorem zht {s y:Operand} {i:TypeInfo} {e:TypeId} {zv:Value} {ag:Bool} (h:AppOk P o s y i e zv) {ys:List AV} (hE:EnvRel us w K env a)(hG:Good us w K S)(hst:st.store=S.store)(hst':st'.store=S'.store)(hys:elemsOf i.size S (aval env y)=some ys)
  (hfree: ∀l,st.store.length≤l→l<st'.store.length→K.lm l=none) (hv:appendmAV i.size ag (aval env s) ys S=some (r,S')):Goes P o a us w K r st st' S':=by
 have h1:=ze hE s
 have h2:=ze hE y
 obtain ⟨news,he⟩:=zhg (P:=P) hG hys h2
 have hnl:news.length=ys.length*i.size:=by rw [←he.rels.len,z15 ys he.each]
 have hfl:(flat ys).length=news.length:=he.rels.len
 generalize aval env s=as at hv h1
 unfold appendmAV at hv
 split at hv
 ·have h3:=h1.v_inv
  cases ys with
  |nil=>
   simp only [sI_,Prod.mk.injEq] at hv
   obtain ⟨rfl,rfl⟩:=hv
   exact z9r h hG h3 rfl he (Nat.le_refl _) (.v K _ rfl)
  |cons y0 l=>
   simp only [newM] at hv
   split at hv
   ·next hc=>
    simp only [sI_,Prod.mk.injEq] at hv
    obtain ⟨rfl,rfl⟩:=hv
    have:=zc4 (st:=st) (st':=st') (L:=S.store.length) (old:=[]) (olds:=[]) (ag:=ag) (S2:=⟨S.store++ [flatAV (y0::l)],S.tips⟩) h (hG.push _) h3 rfl he (by simp [Builtin.firstCells]) .nil (by simp) (by simp) (by simp) (by simpa using hc)
     (hfree _ (by rw [hst];omega) (by rw [hst'];simp)) (by simp [z76]) ⟨by rw [hst];omega,by rw [hst'];simp⟩
    simpa using this
   ·simp at hv
 ·rename_i z' xs
  split at hv
  ·next hz=>
   subst hz
   obtain ⟨c,p,cap,vs,h3,h4⟩:=h1.lst_inv
   have hvl:vs.length=xs.length*i.size:=by rw [←h4.rels.len,z15 xs h4.each]
   have hold:(Builtin.firstCells i.size xs.length (.slice (some ⟨c,p,none⟩) xs.length cap)).run P w.drew=.ok vs.toArray w.drew:=
    run_firstCells_some w.drew i.size xs.length ⟨c,p,none⟩ xs.length cap vs hvl (fun j v hj=>by
     obtain ⟨hj1,rfl⟩:=List.getElem?_eq_some_iff.1 hj
     rw [Addr.add_lit]
     exact h4.cells j hj1)
   cases ys with
   |nil=>
    simp only [sI_,Prod.mk.injEq] at hv
    obtain ⟨rfl,rfl⟩:=hv
    exact z9r h hG h3 rfl he h4.fits h4.rel
   |cons y0 l=>
    simp only [newM] at hv
    split at hv
    ·next hc=>
     simp only [sI_,Prod.mk.injEq] at hv
     obtain ⟨rfl,rfl⟩:=hv
     have hcap:cap=xs.length:=h4.tag
     have:=zc4 (st:=st) (st':=st') (L:=S.store.length) (old:=flat xs) (olds:=vs) (ag:=ag) (S2:=⟨S.store++ [flatAV (xs++y0::l)],S.tips⟩) h (hG.push _) h3 rfl he hold h4.rels.ofNil hvl h4.one (by simp;omega) (by simpa using hc)
      (hfree _ (by rw [hst];omega) (by rw [hst'];simp)) (by simp [z76,z5h]) ⟨by rw [hst];omega,by rw [hst'];simp⟩
     rw [List.length_append]
     exact this
    ·simp at hv
  ·simp at hv
 ·rename_i l q n c z' b0
  obtain ⟨b,cap,hb,h3,hcaps⟩:=h1.rsl_inv
  split at hv
  ·rename_i cs hcs
   split at hv
   ·next hcond=>
    obtain ⟨rfl,rfl,hnc,hq,hne0⟩:=hcond
    have hne:cs≠[]:=by intro h;subst h;simp at hne0
    have hcle:=hcaps.le
    obtain ⟨cur,ty,hheap,hsz,hrel,hone⟩:=hG.blk l b cs hb hcs
    have hu:=hG.live hb hcs hne
    have hold: ∀w2:World,w2.heap=w.heap→(Builtin.firstCells i.size n (.slice (some ⟨b,q,none⟩) n cap)).run P w2=.ok ((cur.toList.drop q).take (n*i.size)).toArray w2:=by
     intro w2 hw2
     refine run_firstCells_some w2 i.size n ⟨b,q,none⟩ n cap _ (by simp;omega) (fun j v hj=> ?_)
     obtain ⟨hj1,rfl⟩:=List.getElem?_eq_some_iff.1 hj
     rw [Addr.add_lit,cell_of_row w2 b (q+j) cur ty _ (by rw [hw2];exact hheap)]
     simp at hj1
     rw [Array.getElem?_eq_getElem (by omega)]
     simp
    have write:n+ys.length≤cap→q+(n+ys.length)*i.size≤cur.size→∀cs':List AV,∀cells:List Value,cells=cur.toList.take (q+n*i.size)++news++cur.toList.drop (q+n*i.size+news.length)→
      cs'.length≤cells.length→Rels us w K cs' (cells.take cs'.length)→
      (execOp a.eval o).run P w=.ok (.value (.slice (some ⟨b,q,none⟩) (n+ys.length) cap)) (w.setRow b cells.toArray)∧Ext us w K us (w.setRow b cells.toArray) K∧Good us (w.setRow b cells.toArray) K ⟨S.store.set l cs',S.tips⟩∧cells.length=cur.size:=by
     intro hfit hin cs' cells hcells hle hr'
     rw [Nat.add_mul,←hnl] at hin
     have hlen:cells.length=cur.size:=by rw [hcells];simp;omega
     have hst2:=run_storeCells_at P b (q+n*i.size) ty news 0 cur w hheap (by omega) he.one
     simp only [Nat.add_zero] at hst2
     rw [←hcells] at hst2
     have hone2: ∀v∈cells,v.oneCell'=true:=by
      intro v hv
      rw [hcells] at hv
      simp only [List.mem_append] at hv
      rcases hv with (hv|hv)|hv
      ·exact hone v (List.mem_of_mem_take hv)
      ·exact he.one v hv
      ·exact hone v (List.mem_of_mem_drop hv)
     refine ⟨zcj (o:=o) (a:=a) h (fun ts ty' t' u d h4 h5 h6 h7=> ?_),z8r hG hb hu ⟨cur,ty,hheap,by simpa using hlen.symm⟩,z95 hG hb hcs hne hheap hlen hle hr' hone2,hlen⟩
     rw [zej (us:=us) h.info h3 he hfit ts ty' t' u d h4 h5 h6 h7]
     simp only [Addr.add_lit,hst2,Result.andThen_ok]
    have hcurl:cur.toList.length=cur.size:=by simp
    have htk:(cur.toList.take (q+n*i.size)).length=q+n*i.size:=by simp;omega
    split at hv
    ·next hfit=>
     split at hv
     ·next hin=>
      simp only [sI_,Prod.mk.injEq] at hv
      obtain ⟨rfl,rfl⟩:=hv
      have hin':=hin
      rw [Nat.add_mul,←hnl] at hin'
      have hl2:(cs.take (q+n*i.size)++flatAV ys++cs.drop (q+n*i.size+(flatAV ys).length)).length=cs.length:=by simp [z76,hfl];omega
      obtain ⟨g1,g2,g3,g4⟩:=write (by omega) (by omega) (cs.take (q+n*i.size)++flatAV ys++cs.drop (q+n*i.size+(flatAV ys).length)) _ rfl (by rw [hl2];simp;omega) (by
       rw [hl2]
       have:=((hrel.take (q+n*i.size)).append he.rels.ofNil).append (hrel.drop (q+n*i.size+(flatAV ys).length))
       have e5:(cur.toList.take (q+n*i.size)++news++cur.toList.drop (q+n*i.size+news.length)).take cs.length=(cur.toList.take cs.length).take (q+n*i.size)++news++(cur.toList.take cs.length).drop (q+n*i.size+(flatAV ys).length):=by
        rw [z76,hfl,List.take_take,Nat.min_eq_left (by omega),List.take_append,List.length_append,htk,List.take_of_length_le (by rw [List.length_append,htk];omega),List.drop_take]
       rw [e5]
       exact this)
      intro next Q hn
      unfold Oper.wp
      rw [g1]
      refine hn _ us _ K (.rsl K l q _ c i.size _ b cap hb ?_) g2 g3 (.sameK _ _ _)
      rcases hcaps with e| ⟨e,M,hM,hM2⟩
      ·exact .inl e
      ·exact .inr ⟨e,M,(g2.kle.lm l b hb).2 M hM,hM2⟩
     ·simp at hv
    ·next hfit=>
     split at hv
     ·next hgr=>
      obtain ⟨rfl,hmax,hgt⟩:=hgr
      simp only [sI_,Prod.mk.injEq] at hv
      obtain ⟨rfl,rfl⟩:=hv
      simp only [Nat.zero_add] at hq htk write
      have hfr:=hfree S.store.length (by rw [hst];omega) (by rw [hst'];simp)
      have hl2:(cs.take (n*i.size)++flatAV ys).length=(n+ys.length)*i.size:=by simp [z76,hfl];rw [Nat.add_mul,←hnl];omega
      have hr2:Rels us w K (cs.take (n*i.size)++flatAV ys) (cur.toList.take (n*i.size)++news):=by
       have:=(hrel.take (n*i.size)).append (he.rels.ofNil (K:=K))
       rw [List.take_take,Nat.min_eq_left (by omega)] at this
       exact this
      by_cases hcap:n+ys.length≤cap
      ·rcases hcaps with e0| ⟨_,M,hM,hM2⟩
       ·omega
       ·obtain ⟨cur',ty',hh',hM3⟩:=hM
        rw [hheap] at hh'
        simp only [sI_,Obj.cells.injEq,and_true] at hh'
        obtain ⟨rfl,rfl⟩:=hh'
        have hin:(n+ys.length)*i.size≤cur.size:=Nat.le_trans (Nat.mul_le_mul_right _ hcap) (by omega)
        have hin':=hin
        rw [Nat.add_mul,←hnl] at hin'
        obtain ⟨g1,g2,g3,g4⟩:=write hcap hin (cs.take (n*i.size)++flatAV ys) _ rfl (by rw [hl2];simp;omega) (by
         rw [hl2,Nat.add_mul,←hnl]
         have e5:(cur.toList.take (n*i.size)++news++cur.toList.drop (n*i.size+news.length)).take (n*i.size+news.length)=cur.toList.take (n*i.size)++news:=by
          have e6:n*i.size+news.length=(cur.toList.take (n*i.size)++news).length:=by rw [List.length_append,htk]
          rw [e6,List.take_left]
         rw [e5]
         exact hr2)
        have hsl:S.store.length=(S.store.set l (cs.take (n*i.size)++flatAV ys)).length:=by simp
        obtain ⟨k1,k2⟩:=g3.rename (l:=l) (c:=b) (cs:=cs.take (n*i.size)++flatAV ys) hb (by simp [hG.lmlt l b hb]) (by simpa using hfr)
        simp only [List.length_set,List.set_set] at k1 k2
        intro next Q hn
        unfold Oper.wp
        rw [g1]
        refine hn _ us _ _ (.rsl _ S.store.length 0 _ _ i.size _ b cap (by simp [Kx.newL]) (.inr ⟨hcap,M,(g2.kle.lm l b hb).2 M ⟨cur,ty,hheap,hM3⟩,hM2⟩)) (g2.trans (Ext.ofRename k2 hb)) k1 ⟨fun l' c' h=> ?_,fun t h=> .inl h⟩
        simp only [Kx.newL] at h
        split at h
        ·next e=>subst e;exact .inr ⟨by rw [hst];omega,by rw [hst'];simp⟩
        ·exact .inl h
      ·exact zc4 (old:=cs.take (n*i.size)) (olds:=cur.toList.take (n*i.size)) h ((hG.dead l).push _) h3 rfl he (by have:=hold w.drew rfl;rw [List.drop_zero] at this;exact this) (by
         have:=hrel.take (n*i.size)
         rw [List.take_take,Nat.min_eq_left (by omega)] at this
         exact this) htk (fun v hv=>hone v (List.mem_of_mem_take hv)) (by omega) hmax hfr (by
         show (S.store.set l []++ [cs.take (n*i.size)++flatAV ys])[S.store.length]? =_
         rw [List.getElem?_append_right (by simp)];simp [z76]) ⟨by rw [hst];omega,by rw [hst'];simp⟩
     ·simp at hv
   ·simp at hv
  ·simp at hv
 ·simp at hv
theorem zo3 {c0 : Call} {t u e : TypeId} {s y : Operand} {i : TypeInfo} {ag : Bool} {zero : Value} {ku : IntKind} {r : AV} (ho : o.op = .call c0) (hb : c0.callee = .builtin .append) (ha : c0.args = #[s, y]) (ht : c0.argTypes[0]? = some t) (hu : P.underlying t = some (.slice e)) (ht1 : c0.argTypes[1]? = some u) (hu1 : P.underlying u = some (.int ku))
    (hi : P.info? e = some i) (hzero : zeroT P e = some zero) (hok : zeroOk i.size ag zero = true) (hby : i.bytes ≤ 2 ^ 12) (hpos : 0 < i.size) (hE : EnvRel us w K env a) (hG : Good us w K S) (hv : growAV i.size ag (zcells zero) st (aval env s) (aval env y) = some (r, st')) {rest : List (List AV)} (hS : S.store = st'.store ++ rest)
    (hfree : K.lm st.store.length = none) : Goes P o a us w K r st st' S := by
  have h1 := ze hE s
  have h2 := ze hE y
  generalize aval env s = as at hv h1
  unfold growAV at hv
  split at hv
  · split at hv
    · simp at hv
    · next hne =>
      unfold makeAV at hv
      split at hv
      · rename_i l c hl hc
        have hlc : l = c := by rw [hl] at hc; simpa using hc
        subst hlc
        split at hv
        · next hbd =>
          simp only [sI_, Prod.mk.injEq] at hv
          obtain ⟨rfl, rfl⟩ := hv
          obtain ⟨kl, il, hxl, hl0, hl1⟩ := z8j hl h2
          have hs0 := h1.v_inv
          have hc0 : 0 < l := by
            rcases Nat.eq_zero_or_pos l with h | h
            · subst h; exact absurd hl hne
            · exact h
          simp only [zeroOk, Bool.and_eq_true, beq_iff_eq] at hok
          obtain ⟨⟨hzs, hst⟩, hag⟩ := hok
          have hz : i.zero = some zero := by simpa [zeroT, hi] using hzero
          have hzr : ∀ K' : Kx, Rels us w K' (zcells zero) zero.cells.toList := fun K' => z3j zero (z0k hst)
          have h0 := z7p (z := i.size) (zcells zero) zero.cells (hzr K) hzs l
          have hzone1 : ∀ x ∈ zero.cells.toList, x.oneCell' = true := (hzr K).one hst
          have hmax := hbd.2
          have hge := grownCap_ge w l 0 e
          have hrun : (execOp a.eval o).run P w = .ok (.value (.slice (some ⟨w.heap.size, 0, none⟩) l (grownCap w l 0 e)))
              (w.drew.alloc (.cells ((Builtin.zeroCells zero.cells l).toList ++ (Builtin.zeroCells zero.cells (grownCap w l 0 e - l)).toList).toArray e)) := by
            rw [zab] at hmax
            have hil : il = (l : Int) := by omega
            subst hil
            have hw1 : IntKind.i64.wrap (l : Int) = (l : Int) := z9y _ (by omega) (by omega)
            have hb2 : l * i.bytes ≤ 140737488355328 := by
              have h1 : l * i.bytes ≤ 4294967296 * 4096 := Nat.mul_le_mul hmax hby
              omega
            have hb3 : ¬ (281474976710656 < (l : Int) * (i.bytes : Int)) := by
              have : ((l * i.bytes : Nat) : Int) = (l : Int) * (i.bytes : Int) := by simp
              omega
            have hfit := growslice_fits (show 0 < l by omega) hb2
            have h48' : ¬ (281474976710656 < Builtin.nextslicecap l 0 * i.bytes) := by omega
            have h63' : ¬ (9223372036854775807 < (l : Int)) := by omega
            have hne1 : ¬ (l ≤ 0) := by omega
            have hne2 : l ≠ 0 := by omega
            have hng : ¬ ((l : Int) < 0) := by omega
            have hne3 : i.size ≠ 0 := by omega
            have hne4 : l * i.size ≠ 0 := Nat.mul_ne_zero hne2 hne3
            have happ : (Builtin.append_ c0.argTypes o.type #[.slice none 0 0, .int kl l]).run P w = .ok (.slice (some ⟨w.heap.size, 0, none⟩) l (grownCap w l 0 e))
                (w.drew.alloc (.cells ((Builtin.zeroCells zero.cells l).toList ++ (Builtin.zeroCells zero.cells (grownCap w l 0 e - l)).toList).toArray e)) := by
              simp [Builtin.append_, ht, ht1, run_underlying hu, run_underlying hu1, sizeOf, typeInfo, zeroValue, hi, hz, asInt, asIntOf, hw1, hng, hb3, hne1, hne2, hne3, h63', h48', Question.forced, newRow, grownCap, Builtin.firstCells]
              rw [if_neg hne4]
              congr 3
              apply Array.ext'
              simp
            simp [execOp, ho, resolve, hb, ha, invoke, builtin, hs0, hxl, happ]
          intro next Q hn
          unfold Oper.wp
          rw [hrun]
          generalize hgc : grownCap w l 0 e = nc at hge
          generalize hce : ((Builtin.zeroCells zero.cells l).toList ++ (Builtin.zeroCells zero.cells (nc - l)).toList).toArray = cells
          have hcs : cells.size = nc * i.size := by
            rw [← hce]
            simp only [List.size_toArray, List.length_append, Array.length_toList, size_zeroCells, hzs, ← Nat.add_mul]
            congr 1; omega
          have hz1 : (Builtin.zeroCells zero.cells l).toList = (List.range (l * i.size)).map fun j => zero.cells[j % zero.cells.size]! := by
            simp [Builtin.zeroCells, hzs]
          have hlen : ((List.replicate l (zcells zero)).flatten).length = l * i.size := by
            have := h0.len; simpa using this
          have hpre : cells.toList.take ((List.replicate l (zcells zero)).flatten).length = (Builtin.zeroCells zero.cells l).toList := by
            rw [hlen, ← hce, List.toList_toArray]
            have e6 : l * i.size = ((Builtin.zeroCells zero.cells l).toList).length := by rw [hz1]; simp
            rw [e6, List.take_left]
          have hone' : ∀ v ∈ cells.toList, v.oneCell' = true := by
            intro v hv
            rw [← hce, List.toList_toArray] at hv
            simp only [List.mem_append] at hv
            rcases hv with hv | hv
            · exact z5o _ (by rw [hzs]; exact hpos) hzone1 _ v hv
            · exact z5o _ (by rw [hzs]; exact hpos) hzone1 _ v hv
          obtain ⟨hG2, hX2⟩ := hG.drew
          have hL : S.store[st.store.length]? = some ((List.replicate l (zcells zero)).flatten) := by rw [hS]; simp
          have hLS : st.store.length < S.store.length := (List.getElem?_eq_some_iff.1 hL).1
          have hx1 := z9u hG2 (.cells cells e) us (fun _ _ => rfl) (K.newL st.store.length w.drew.heap.size) rfl rfl
            (fun l' c h => by simp only [Kx.newL]; split; · next e => subst e; rw [hfree] at h; exact absurd h (by simp)
                              · exact h)
            (fun l' c h => by simp only [Kx.newL] at h; split at h; · exact .inr (by simp at h ⊢; omega)
                              · exact .inl ⟨l', h⟩)
          have hg1 := z7g hG2 cells e st.store.length ((List.replicate l (zcells zero)).flatten) hLS hfree hL (by rw [hpre, hz1]; exact h0.mono hX2.usle hX2.kle) (by rw [hlen, hcs]; exact Nat.mul_le_mul_right _ hge) hone'
          refine hn _ us _ (K.newL st.store.length w.drew.heap.size) (.rsl _ st.store.length 0 _ _ i.size ag w.heap.size nc (by simp [Kx.newL]) (.inr ⟨hge, nc * i.size, ⟨cells, e, heap_alloc_new w.drew _, hcs⟩, by omega⟩)) (hX2.trans hx1) hg1 ⟨fun l' c h => ?_, fun t h => .inl h⟩
          simp only [Kx.newL] at h
          split at h
          · next e => subst e; exact .inr ⟨Nat.le_refl _, by simp⟩
          · exact .inl h
        · simp at hv
      · simp at hv
  · simp at hv
end
end Go.Ev
namespace Go.Ev
open Go
section
variable {us us1:Us} {w w1:World} {K K1:Kx} {st st1 S:St}
theorem z5s (n:Nat): ∀xs:List AV,(shVs n xs).length=xs.length
 | []=>rfl
 |a::r=>by simp [shVs,z5s n r]
theorem z8d (n:Nat): ∀(xs:List AV) (i:Nat) (h:i<(shVs n xs).length),(shVs n xs)[i]=shV n (xs[i]'(by rw [z5s] at h;exact h))
 | [],i,h=>by simp [shVs] at h
 |a::r,0,h=>by simp [shVs]
 |a::r,i+1,h=>by simp [shVs];exact z8d n r i (by simpa [shVs] using h)
theorem zba (n:Nat): ∀s:List (List AV),(shStore n s).length=s.length
 | []=>rfl
 |a::r=>by simp [shStore,zba n r]
theorem zbb (n:Nat): ∀(s:List (List AV)) (i:Nat),(shStore n s)[i]? =(s[i]?).map (shVs n)
 | [],i=>by simp [shStore]
 |a::r,0=>by simp [shStore]
 |a::r,i+1=>by simp [shStore];exact zbb n r i
theorem Rel.shift {a x} {n:Nat} (h:Rel us w K a x): ∀{K':Kx},(∀l c,K.lm l=some c→K'.lm (n+l)=some c)→Rel us w K' (shV n a) x:=by
 induction h with
 |any K x=>intro K' _;simp only [shV];exact .any _ x
 |v K x h=>intro K' _;simp only [shV];exact .v _ x h
 |ptr K l o c h=>intro K' e;simp only [shV];exact .ptr _ (n+l) o c (e l c h)
 |eptr K e o c p m vs hu1 hn hc h1 hl hr _=>intro K' _;simp only [shV];exact .eptr _ e o c p m vs hu1 hn hc h1 hl hr
 |lst K g z xs c p m cap vs hu1 hn hc h1 hz hcap hl hr ht _=>intro K' _;simp only [shV];exact .lst _ .any z xs c p m cap vs hu1 hn hc h1 hz hcap hl hr trivial
 |rsl K l o m c z a b cap h hx=>intro K' e;simp only [shV];exact .rsl _ (n+l) o m c z a b cap (e l b h) hx
 |fn K f a b va vb ha hb _ _ iha ihb=>
  intro K' e
  simp only [shV]
  exact .fn _ f _ _ va vb (by rw [z5s];exact ha) (by rw [z5s];exact hb) (fun i h h'=>by rw [z8d];exact iha i _ h' e) (fun i h h'=>by rw [z8d];exact ihb i _ h' e)
 |ifc K t a x _ ih=>intro K' e;simp only [shV];exact .ifc _ t _ x (ih e)
 |agg K cs vs hl _ ih=>intro K' e;simp only [shV];exact .agg _ _ vs (by rw [z5s];exact hl) (fun i h h'=>by rw [z8d];exact ih i _ h' e)
 |tup K cs vs hl _ ih=>intro K' e;simp only [shV];exact .tup _ _ vs (by rw [z5s];exact hl) (fun i h h'=>by rw [z8d];exact ih i _ h' e)
theorem Rels.shift {as vs} {n:Nat} (h:Rels us w K as vs) {K':Kx} (e: ∀l c,K.lm l=some c→K'.lm (n+l)=some c):Rels us w K' (shVs n as) vs:=
 ⟨by rw [z5s];exact h.len,fun i h1 h2=>by rw [z8d];exact (h.rel i _ h2).shift e⟩
def Kx.join (K K1:Kx) (N m:Nat):Kx:={K with lm:=fun l=>if N≤l∧l<N+m then K1.lm (l-N) else K.lm l}
theorem zp0 {N:Nat} (hN:N=st.store.length)(hG:Good us w K S)(hX:Ext us w .nil us1 w1 K1)(hG1:Good us1 w1 K1 st1) {rest:List (List AV)} (hS:S.store=(st.store++shStore N st1.store)++rest)
  (hfree: ∀l,N≤l→l<(st.store++shStore N st1.store).length→K.lm l=none):
  (∀l c,K1.lm l=some c→(K.join K1 N st1.store.length).lm (N+l)=some c)∧Ext us w K us1 w1 (K.join K1 N st1.store.length)∧Good us1 w1 (K.join K1 N st1.store.length) S∧
  Fresh st ⟨st.store++shStore N st1.store,st.tips⟩ K (K.join K1 N st1.store.length):=by
 have hold: ∀c,c<w.heap.size→w1.heap[c]? =w.heap[c]? ∧us1 c=us c:=fun c hc=>hX.frame c hc (fun l h=>by simp [Kx.nil] at h) (fun l h=>by simp [Kx.nil] at h)
 have hnew: ∀l c,K1.lm l=some c→w.heap.size≤c:=fun l c h=>by
  rcases hX.lmNew l c h with ⟨_,h⟩ |h
  ·simp [Kx.nil] at h
  ·exact h
 have hlen:(st.store++shStore N st1.store).length=N+st1.store.length:=by rw [List.length_append,zba,hN]
 have hsub: ∀l c,K1.lm l=some c→(K.join K1 N st1.store.length).lm (N+l)=some c:=by
  intro l c h
  have:=hG1.lmlt l c h
  simp only [Kx.join]
  rw [if_pos ⟨by omega,by omega⟩,Nat.add_sub_cancel_left];exact h
 have hup: ∀l c,K.lm l=some c→(K.join K1 N st1.store.length).lm l=some c:=by
  intro l c h
  simp only [Kx.join]
  split
  ·next e=>rw [hfree l e.1 (by rw [hlen];exact e.2)] at h;simp at h
  ·exact h
 have inv: ∀l c,(K.join K1 N st1.store.length).lm l=some c→(∃j,l=N+j∧j<st1.store.length∧K1.lm j=some c)∨(¬(N≤l∧l<N+st1.store.length)∧K.lm l=some c):=by
  intro l c h
  simp only [Kx.join] at h
  split at h
  ·next e=>exact .inl ⟨l-N,by omega,by omega,h⟩
  ·next e=>exact .inr ⟨e,h⟩
 have hent: ∀j,j<st1.store.length→S.store[N+j]? =(st1.store[j]?).map (shVs N):=by
  intro j hj
  rw [hS,List.getElem?_append_left (by rw [hlen];omega),List.getElem?_append_right (by omega),←hN,Nat.add_sub_cancel_left,zbb]
 have hdead: ∀j,j<st1.store.length→st1.store[j]? =some []→S.store[N+j]? =some []:=by
  intro j hj h
  rw [hent j hj,h];rfl
 have hkle:KLe us w K us1 w1 (K.join K1 N st1.store.length):=by
  refine ⟨fun l c h=>⟨hup l c h,fun n hn=> ?_⟩,fun t m h=>⟨m,h,Nat.le_refl _,fun _ c hc=>⟨hc,(hold c (hG.tkltH hc)).2,fun n hn=>hX.sz c n hn⟩⟩⟩
  obtain ⟨cur,ty,h1,h2⟩:=hn
  exact ⟨cur,ty,(hold c (hG.lmltH h)).1.trans h1,h2⟩
 have hX2:Ext us w K us1 w1 (K.join K1 N st1.store.length):=
  ⟨hX.os,hX.tape,hX.output,hX.size,hX.sz,hX.usle,hkle,fun c hc _ _=>hold c hc,fun c hc h _=>(hold c hc).2.trans h,fun l c h=>by
   rcases inv l c h with ⟨j,_,_,h1⟩ | ⟨_,h1⟩
   ·exact .inr (hnew j c h1)
   ·exact .inl ⟨l,h1⟩,fun _ _ h=> .inl h⟩
 refine ⟨hsub,hX2,⟨hG.T,fun l c h=> ?_,fun l c cs h hs=> ?_,fun l1 l2 c h1 h2=> ?_,hG.tkinj,hG.tklt,fun t c h=> ?_,hG1.uslt,fun l c h=> ?_,fun l t c h ht=> ?_⟩,⟨fun l c h=> ?_,fun t h=> .inl h⟩⟩
 ·rcases inv l c h with ⟨j,rfl,hj,h1⟩ | ⟨_,h1⟩
  ·rw [hS,List.length_append,hlen];omega
  ·exact hG.lmlt l c h1
 ·rcases inv l c h with ⟨j,rfl,hj,h1⟩ | ⟨_,h1⟩
  ·rw [hent j hj] at hs
   obtain ⟨cs1,h2,rfl⟩:=Option.map_eq_some_iff.1 hs
   obtain ⟨cur,ty,g1,g0,g2,g3⟩:=hG1.blk j c cs1 h1 h2
   exact ⟨cur,ty,g1,by rw [z5s];exact g0,by rw [z5s];exact g2.shift hsub,g3⟩
  ·exact (hG.blk l c cs h1 hs).mono hX.usle hkle (hold c (hG.lmltH h1)).1
 ·rcases inv l1 c h1 with ⟨j,rfl,hj,g1⟩ | ⟨_,g1⟩ <;>rcases inv l2 c h2 with ⟨i,rfl,hi,g2⟩ | ⟨_,g2⟩
  ·rcases hG1.inj j i c g1 g2 with e|e|e
   ·exact .inl (by rw [e])
   ·exact .inr (.inl (hdead j hj e))
   ·exact .inr (.inr (hdead i hi e))
  ·have:=hnew j c g1;have:=hG.lmltH g2;omega
  ·have:=hnew i c g2;have:=hG.lmltH g1;omega
  ·exact hG.inj l1 l2 c g1 g2
 ·obtain ⟨n,hn⟩:=hG.tkus t c h
  exact ⟨n,(hold c (hG.tkltH h)).2.trans hn⟩
 ·rcases inv l c h with ⟨j,rfl,hj,h1⟩ | ⟨_,h1⟩
  ·rcases hG1.disj j c h1 with e|e
   ·exact .inl (hdead j hj e)
   ·exact .inr e
  ·rcases hG.disj l c h1 with e|e
   ·exact .inl e
   ·exact .inr ((hold c (hG.lmltH h1)).2.trans e)
 ·rcases inv l c h with ⟨j,rfl,hj,h1⟩ | ⟨_,h1⟩
  ·have h5:K.tk t=some c:=ht
   have:=hnew j c h1;have:=hG.tkltH h5;omega
  ·exact hG.lmtk l t c h1 ht
 ·rcases inv l c h with ⟨j,rfl,hj,h1⟩ | ⟨_,h1⟩
  ·exact .inr ⟨by omega,by simp only [hlen];omega⟩
  ·exact .inl h1
theorem zmj {N m c e:Nat} {t:Nat} {K2:Kx} (hK2:K2=K.join K1 N m)(hG:Good us w K S)(hX:Ext us w .nil us1 w1 K1)(hG1:Good us1 w1 K1 st1)(hX2:Ext us w K us1 w1 K2)(hG2:Good us1 w1 K2 S) {st':List (List AV)} (hF2:Fresh st ⟨st',st.tips⟩ K K2)
  (htk:K1.tk t=some c) {n:Nat} (hus:us1 c=some n) {rest:List Nat} (hS:S.tips=(st.tips++ [e])++rest) (hfree:K.tk st.tips.length=none):
  Ext us w K us1 w1 {K2 with tk:=fun u=>if u=st.tips.length then some c else K2.tk u}∧Good us1 w1 {K2 with tk:=fun u=>if u=st.tips.length then some c else K2.tk u} S∧
  Fresh st ⟨st',st.tips++ [e]⟩ K {K2 with tk:=fun u=>if u=st.tips.length then some c else K2.tk u}∧KLe us1 w1 K2 us1 w1 {K2 with tk:=fun u=>if u=st.tips.length then some c else K2.tk u}:=by
 have hc:w.heap.size≤c:=by
  rcases hX.tkNew t c htk with h|h
  ·simp [Kx.nil] at h
  ·exact h
 have hk2:K2.tk st.tips.length=none:=by rw [hK2];exact hfree
 have hk2': ∀u d,K2.tk u=some d→K.tk u=some d:=fun u d h=>by rw [hK2] at h;exact h
 have hle:KLe us1 w1 K2 us1 w1 {K2 with tk:=fun u=>if u=st.tips.length then some c else K2.tk u}:=
  ⟨fun _ _ h=>⟨h,fun _ h=>h⟩,fun u m h=>⟨m,h,Nat.le_refl _,fun _ d hd=>⟨by
   show (if u=st.tips.length then some c else K2.tk u)=some d
   by_cases e:u=st.tips.length
   ·rw [e,hk2] at hd;simp at hd
   ·rw [if_neg e];exact hd,rfl,fun _ h=>h⟩⟩⟩
 have hlm: ∀l d,K2.lm l=some d→(∃j,K1.lm j=some d)∨K.lm l=some d:=by
  intro l d h
  rw [hK2] at h
  simp only [Kx.join] at h
  split at h
  ·exact .inl ⟨_,h⟩
  ·exact .inr h
 refine ⟨⟨hX2.os,hX2.tape,hX2.output,hX2.size,hX2.sz,hX2.usle,hX2.kle.trans hle,hX2.frame,hX2.usNone,hX2.lmNew,fun u d h=> ?_⟩,
  ⟨hG2.T,hG2.lmlt,fun l d cs h hs=>(hG2.blk l d cs h hs).mono (.refl _ _) hle rfl,hG2.inj,fun u v d h1 h2=> ?_,fun u d h=> ?_,fun u d h=> ?_,hG2.uslt,hG2.disj,fun l u d h1 h2=> ?_⟩,
  ⟨hF2.lm,fun u h=> ?_⟩,hle⟩
 ·have h':(if u=st.tips.length then some c else K2.tk u)=some d:=h
  split at h'
  ·simp only [sI_] at h'
   subst h';exact .inr hc
  ·exact hX2.tkNew u d h'
 ·have h1':(if u=st.tips.length then some c else K2.tk u)=some d:=h1
  have h2':(if v=st.tips.length then some c else K2.tk v)=some d:=h2
  split at h1'<;>split at h2'
  ·next e1 e2=>rw [e1,e2]
  ·simp only [sI_] at h1'
   have:=hG.tkltH (hk2' v d h2');omega
  ·simp only [sI_] at h2'
   have:=hG.tkltH (hk2' u d h1');omega
  ·exact hG2.tkinj u v d h1' h2'
 ·have h':(if u=st.tips.length then some c else K2.tk u)=some d:=h
  split at h'
  ·next e1=>rw [e1,hS];simp
  ·exact hG2.tklt u d h'
 ·have h':(if u=st.tips.length then some c else K2.tk u)=some d:=h
  split at h'
  ·simp only [sI_] at h'
   subst h';exact ⟨n,hus⟩
  ·exact hG2.tkus u d h'
 ·have h2':(if u=st.tips.length then some c else K2.tk u)=some d:=h2
  split at h2'
  ·simp only [sI_] at h2'
   subst h2'
   rcases hlm l c h1 with ⟨j,hj⟩ |hj
   ·exact hG1.lmtk j t c hj htk
   ·have:=hG.lmltH hj;omega
  ·exact hG2.lmtk l u d h1 h2'
 ·have h':(if u=st.tips.length then some c else K2.tk u).isSome=true:=h
  split at h'
  ·next e1=>exact .inr ⟨by omega,by rw [e1];simp⟩
  ·rcases hF2.tk u h' with h|h
   ·exact .inl h
   ·simp only at h;omega
end
end Go.Ev
namespace Go.Ev
open Go
section
variable {us us':Us} {w:World} {K:Kx} {st:St}
theorem z6h (l:Nat)(cs:List AV): ∀xs:List AV,(frzVs l cs xs).length=xs.length
 | []=>rfl
 |a::r=>by simp [frzVs,z6h l cs r]
theorem z9s (l:Nat)(cs:List AV): ∀(xs:List AV) (i:Nat) (h:i<(frzVs l cs xs).length),(frzVs l cs xs)[i]=frzV l cs (xs[i]'(by rw [z6h] at h;exact h))
 | [],i,h=>by simp [frzVs] at h
 |a::r,0,h=>by simp [frzVs]
 |a::r,i+1,h=>by simp [frzVs];exact z9s l cs r i (by simpa [frzVs] using h)
def FrzOk (us:Us) (w:World) (K:Kx) (l:Nat) (cs:List AV) (us':Us):Prop:=
 ∀c,K.lm l=some c→∃cur ty,w.heap[c]? =some (.cells cur ty (0,0))∧cs.length≤cur.size∧Rels us w K cs (cur.toList.take cs.length)∧(∀x∈cur.toList,x.oneCell'=true)∧us' c=some cur.size
theorem Rel.frz {a x} {l:Nat} {cs:List AV} (hu:UsLe us w us' w)(h:Rel us w K a x):KLe us w K us' w K→FrzOk us w K l cs us'→Rel us' w K (frzV l cs a) x:=by
 induction h with
 |any K x=>intro _ _;simp only [frzV];exact .any _ x
 |v K x h=>intro _ _;simp only [frzV];exact .v _ x h
 |ptr K l o c h=>intro hk _;simp only [frzV];exact (Rel.ptr K l o c h).mono hu hk
 |eptr K e o c p n vs hu1 hn hc h1 hl hr _=>intro hk _;simp only [frzV];exact (Rel.eptr K e o c p n vs hu1 hn hc h1 hl hr).mono hu hk
 |lst K g z xs c p n cap vs hu1 hn hc h1 hz hcap hl hr ht _=>intro hk _;simp only [frzV];exact (Rel.lst K g z xs c p n cap vs hu1 hn hc h1 hz hcap hl hr ht).mono hu hk
 |fn K f a b va vb ha hb hra hrb _ _=>intro hk _;simp only [frzV];exact (Rel.fn K f a b va vb ha hb hra hrb).mono hu hk
 |ifc K t a x h _=>intro hk _;simp only [frzV];exact (Rel.ifc K t a x h).mono hu hk
 |agg K xs vs hl _ ih=>intro hk hf;simp only [frzV];exact .agg _ _ vs (by rw [z6h];exact hl) (fun i h h'=>by rw [z9s];exact ih i _ h' hk hf)
 |tup K xs vs hl _ ih=>intro hk hf;simp only [frzV];exact .tup _ _ vs (by rw [z6h];exact hl) (fun i h h'=>by rw [z9s];exact ih i _ h' hk hf)
 |rsl K l' o n c z b d cap h hx=>
  intro hk hf
  simp only [frzV]
  split
  ·next hc=>
   obtain ⟨rfl,h1,h2,h3⟩:=hc
   obtain ⟨cur,ty,g1,g0,g2,g3,g4⟩:=hf d h
   have hcle:c≤cap:=Caps.le hx
   have hr:=((g2.drop o).pubs).mono hu (KLe.nil _ _ _ _ .nil)
   obtain ⟨q1,q2⟩:=z74 b z n (pubs (cs.drop o)) ((cur.toList.take cs.length).drop o) h2 (by rw [z2a];simp;omega) hr
   have hn:(group b z n (pubs (cs.drop o))).length=n:=z53 _ _ _ _
   have hvl:(((cur.toList.take cs.length).drop o).take (n*z)).length=n*z:=by simp;omega
   have:=Rel.lst (us:=us') (w:=w) K .any z (group b z n (pubs (cs.drop o))) d o cur.size cap (((cur.toList.take cs.length).drop o).take (n*z))
    g4 (by rw [hvl];omega) (fun i hi=>by
     have hi':o+i<(cur.toList.take cs.length).length:=by rw [hvl] at hi;simp;omega
     have:=z41 g1 cs.length (o+i) hi'
     rw [Nat.zero_add] at this
     rw [this]
     simp) (fun x hx=>g3 x (List.mem_of_mem_take (List.mem_of_mem_drop (List.mem_of_mem_take hx)))) q2 (by rw [hn];omega) q1.len q1.rel trivial
   rw [hn] at this
   exact this
  ·exact (Rel.rsl K l' o n c z b d cap h hx).mono hu hk
theorem Rels.frz {xs:List AV} {vs:List Value} {l:Nat} {cs:List AV} (hu:UsLe us w us' w)(h:Rels us w K xs vs)(hk:KLe us w K us' w K)(hf:FrzOk us w K l cs us'):Rels us' w K (frzVs l cs xs) vs:=
 ⟨by rw [z6h];exact h.len,fun i h1 h2=>by rw [z9s];exact (h.rel i _ h2).frz hu hk hf⟩
theorem frzEnv_get (l:Nat)(cs:List AV): ∀(e:Env) (t:Tmp),(frzEnv l cs e).get t=frzV l cs (e.get t)
 | [],t=>by simp [frzEnv,Env.get,frzV]
 |(i,a)::r,t=>by
  simp only [frzEnv,Env.get]
  split
  ·rfl
  ·exact frzEnv_get l cs r t
theorem zar (l:Nat)(cs:List AV): ∀(s:List (List AV)) (i:Nat),(frzStore l cs s)[i]? =(s[i]?).map (frzVs l cs)
 | [],i=>by simp [frzStore]
 |a::r,0=>by simp [frzStore]
 |a::r,i+1=>by simp [frzStore];exact zar l cs r i
theorem z5j (l:Nat)(cs:List AV): ∀s:List (List AV),(frzStore l cs s).length=s.length
 | []=>rfl
 |a::r=>by simp [frzStore,z5j l cs r]
theorem zfj {env:Env} {a:Act} {l:Nat} (hG:Good us w K st)(hE:EnvRel us w K env a):
  ∃us',Good us' w K (frzL l env st).2∧EnvRel us' w K (frzL l env st).1 a∧Ext us w K us' w K∧(frzL l env st).2.store.length=st.store.length∧(frzL l env st).2.tips=st.tips:=by
 unfold frzL
 split
 ·rename_i c0 cs0 hs
  generalize hcs:c0::cs0=cs at*
  have hne:cs≠[]:=by rw [←hcs];simp
  obtain ⟨us',hu1,hu2,hf,hu3⟩: ∃us':Us,(∀b,us' b=us b∨K.lm l=some b)∧(∀b n,us b=some n→us' b=some n)∧FrzOk us w K l cs us'∧(∀b n,us' b=some n→b<w.heap.size):=by
   cases hl:K.lm l with
   |none=>exact ⟨us,fun _=> .inl rfl,fun _ _ h=>h,fun c h=>by rw [hl] at h;simp at h,hG.uslt⟩
   |some c=>
    obtain ⟨cur,ty,g1,g0,g2,g3⟩:=hG.blk l c cs hl hs
    have hlive:=hG.live hl hs hne
    refine ⟨us.new c cur.size,fun b=> ?_,fun b n h=> ?_,fun c' h=> ?_,fun b n h=> ?_⟩
    ·by_cases e:b=c
     ·subst e;exact .inr rfl
     ·exact .inl (by simp [Us.new,e])
    ·have:b≠c:=by intro e;subst e;rw [hlive] at h;simp at h
     simp [Us.new,this,h]
    ·rw [hl] at h
     simp only [sI_] at h
     subst h
     exact ⟨cur,ty,g1,g0,g2,g3,by simp [Us.new]⟩
    ·simp only [Us.new] at h
     split at h
     ·next e=>subst e;exact (Array.getElem?_eq_some_iff.1 g1).1
     ·exact hG.uslt b n h
  have hule:UsLe us w us' w:=fun b n h=>⟨n,hu2 b n h,Nat.le_refl _,fun _ _=>rfl⟩
  have hk:KLe us w K us' w K:=⟨fun _ _ h=>⟨h,fun _ h=>h⟩,fun t m h=>⟨m,h,Nat.le_refl _,fun _ b hb=>⟨hb,(hu1 b).resolve_right (fun e=>hG.lmtk l t b e hb),fun _ h=>h⟩⟩⟩
  have hX:Ext us w K us' w K:=⟨rfl,rfl,rfl,Nat.le_refl _,fun _ _ h=>h,hule,hk,fun b _ h _=>⟨rfl,(hu1 b).resolve_right (h l)⟩,fun b _ h hb=>((hu1 b).resolve_right (hb l)).trans h,fun l _ h=> .inl ⟨l,h⟩,fun _ _ h=> .inl h⟩
  have hget: ∀l' b,K.lm l'=some b→((frzStore l cs st.store).set l [])[l']? =if l'=l then some [] else (st.store[l']?).map (frzVs l cs):=by
   intro l' b h
   have hlt:=hG.lmlt l' b h
   by_cases e:l'=l
   ·subst e;rw [if_pos rfl,List.getElem?_set_self (by rw [z5j];exact hlt)]
   ·rw [if_neg e,List.getElem?_set_ne (fun h=>e h.symm),zar]
  have hdead: ∀l' b,K.lm l'=some b→st.store[l']? =some []→((frzStore l cs st.store).set l [])[l']? =some []:=by
   intro l' b h hd
   rw [hget l' b h]
   split
   ·rfl
   ·rw [hd];rfl
  refine ⟨us',⟨hG.T,fun l' b h=> ?_,fun l' b cs' h hs'=> ?_,fun l1 l2 b h1 h2=> ?_,hG.tkinj,hG.tklt,fun t b h=> ?_,hu3,fun l' b h=> ?_,hG.lmtk⟩,fun t=> ?_,hX,by simp [z5j],rfl⟩
  ·simp only [List.length_set,z5j];exact hG.lmlt l' b h
  ·simp only [hget l' b h] at hs'
   split at hs'
   ·simp only [sI_] at hs'
    subst hs'
    obtain ⟨cur,ty,g1,_,_,g3⟩:=hG.blk l' b _ h (List.getElem?_eq_getElem (hG.lmlt l' b h))
    exact ⟨cur,ty,g1,Nat.zero_le _,by simpa using Rels.nil,g3⟩
   ·obtain ⟨cs2,h2,rfl⟩:=Option.map_eq_some_iff.1 hs'
    obtain ⟨cur,ty,g1,g0,g2,g3⟩:=hG.blk l' b cs2 h h2
    exact ⟨cur,ty,g1,by rw [z6h];exact g0,by rw [z6h];exact g2.frz hule hk hf,g3⟩
  ·rcases hG.inj l1 l2 b h1 h2 with e|e|e
   ·exact .inl e
   ·exact .inr (.inl (hdead l1 b h1 e))
   ·exact .inr (.inr (hdead l2 b h2 e))
  ·obtain ⟨n,hn⟩:=hG.tkus t b h
   exact ⟨n,hu2 b n hn⟩
  ·by_cases e:l'=l
   ·subst e;exact .inl (by rw [hget l' b h,if_pos rfl])
   ·rcases hG.disj l' b h with h2|h2
    ·exact .inl (hdead l' b h h2)
    ·rcases hu1 b with h3|h3
     ·exact .inr (h3.trans h2)
     ·rcases hG.inj l' l b h h3 with h4|h4|h4
      ·exact absurd h4 e
      ·exact .inl (hdead l' b h h4)
      ·rw [hs] at h4;simp at h4;exact absurd h4 hne
  ·rw [frzEnv_get];exact (hE t).frz hule hk hf
 ·exact ⟨us,hG,hE,.refl _ _ _,rfl,rfl⟩
theorem zde {a:Act}: ∀(ls:List Nat) {us:Us} {env:Env} {st:St},Good us w K st→EnvRel us w K env a→
  ∃us',Good us' w K (frzLs ls env st).2∧EnvRel us' w K (frzLs ls env st).1 a∧Ext us w K us' w K∧(frzLs ls env st).2.store.length=st.store.length∧(frzLs ls env st).2.tips=st.tips
 | [],us,env,st,hG,hE=>⟨us,hG,hE,.refl _ _ _,rfl,rfl⟩
 |l::r,us,env,st,hG,hE=>by
  obtain ⟨us1,h1,h2,h3,h4,h5⟩:=zfj (l:=l) hG hE
  obtain ⟨us2,g1,g2,g3,g4,g5⟩:=zde r h1 h2
  exact ⟨us2,g1,g2,h3.trans g3,g4.trans h4,g5.trans h5⟩
theorem zag {a:Act}: ∀(ts:List Tmp) {us:Us} {env:Env} {st:St},Good us w K st→EnvRel us w K env a→
  ∃us',Good us' w K (frzAV ts env st).2∧EnvRel us' w K (frzAV ts env st).1 a∧Ext us w K us' w K∧(frzAV ts env st).2.store.length=st.store.length∧(frzAV ts env st).2.tips=st.tips
 | [],us,env,st,hG,hE=>⟨us,hG,hE,.refl _ _ _,rfl,rfl⟩
 |t::r,us,env,st,hG,hE=>by
  obtain ⟨us1,h1,h2,h3,h4,h5⟩:=zde (frzT t env st) hG hE
  obtain ⟨us2,g1,g2,g3,g4,g5⟩:=zag r h1 h2
  exact ⟨us2,g1,g2,h3.trans g3,g4.trans h4,g5.trans h5⟩
theorem zif (t:Tmp)(env:Env)(st:St):(frzP1 t env st).2.store.length=st.store.length∧(frzP1 t env st).2.tips=st.tips:=by
 unfold frzP1
 split
 ·split
  ·simp
  ·exact ⟨rfl,rfl⟩
 ·exact ⟨rfl,rfl⟩
theorem z8q: ∀(ts:List Tmp) (env:Env) (st:St),(frzPs ts env st).2.store.length=st.store.length∧(frzPs ts env st).2.tips=st.tips
 | [],_,_=>⟨rfl,rfl⟩
 |t::r,env,st=>by
  have h1:=zif t env st
  have h2:=z8q r (frzP1 t env st).1 (frzP1 t env st).2
  exact ⟨h2.1.trans h1.1,h2.2.trans h1.2⟩
theorem zig {env:Env} {a:Act} {t:Tmp} (hG:Good us w K st)(hE:EnvRel us w K env a):
  ∃us',Good us' w K (frzP1 t env st).2∧EnvRel us' w K (frzP1 t env st).1 a∧Ext us w K us' w K:=by
 unfold frzP1
 split
 ·rename_i l o hget
  split
  ·rename_i c0 cs0 hs
   generalize hcs:c0::cs0=cs at*
   have hne:cs≠[]:=by rw [←hcs];simp
   have hp:=hE t
   rw [hget] at hp
   obtain ⟨c,hc,hx⟩:=hp.ptr_inv
   obtain ⟨cur,ty,g1,g0,g2,g3⟩:=hG.blk l c cs hc hs
   have hlive:=hG.live hc hs hne
   have hclt:c<w.heap.size:=(Array.getElem?_eq_some_iff.1 g1).1
   obtain ⟨us',hu1,hu2,hu3,hu4⟩: ∃us':Us,(∀b,us' b=us b∨K.lm l=some b)∧(∀b n,us b=some n→us' b=some n)∧us' c=some cur.size∧(∀b n,us' b=some n→b<w.heap.size):=by
    refine ⟨us.new c cur.size,fun b=> ?_,fun b n h=> ?_,by simp [Us.new],fun b n h=> ?_⟩
    ·by_cases e:b=c
     ·subst e;exact .inr hc
     ·exact .inl (by simp [Us.new,e])
    ·have:b≠c:=by intro e;subst e;rw [hlive] at h;simp at h
     simp [Us.new,this,h]
    ·simp only [Us.new] at h
     split at h
     ·next e=>subst e;exact hclt
     ·exact hG.uslt b n h
   have hule:UsLe us w us' w:=fun b n h=>⟨n,hu2 b n h,Nat.le_refl _,fun _ _=>rfl⟩
   have hk:KLe us w K us' w K:=⟨fun _ _ h=>⟨h,fun _ h=>h⟩,fun t m h=>⟨m,h,Nat.le_refl _,fun _ b hb=>⟨hb,(hu1 b).resolve_right (fun e=>hG.lmtk l t b e hb),fun _ h=>h⟩⟩⟩
   have hX:Ext us w K us' w K:=⟨rfl,rfl,rfl,Nat.le_refl _,fun _ _ h=>h,hule,hk,fun b _ h _=>⟨rfl,(hu1 b).resolve_right (h l)⟩,fun b _ h hb=>((hu1 b).resolve_right (hb l)).trans h,fun l _ h=> .inl ⟨l,h⟩,fun _ _ h=> .inl h⟩
   have hget2: ∀l' b,K.lm l'=some b→(st.store.set l [])[l']? =if l'=l then some [] else st.store[l']? :=by
    intro l' b h
    by_cases e:l'=l
    ·subst e;rw [if_pos rfl,List.getElem?_set_self (hG.lmlt _ _ h)]
    ·rw [if_neg e,List.getElem?_set_ne (fun h=>e h.symm)]
   have hdead: ∀l' b,K.lm l'=some b→st.store[l']? =some []→(st.store.set l [])[l']? =some []:=by
    intro l' b h hd
    rw [hget2 l' b h]
    split
    ·rfl
    ·exact hd
   refine ⟨us',⟨hG.T,fun l' b h=> ?_,fun l' b cs' h hs'=> ?_,fun l1 l2 b h1 h2=> ?_,hG.tkinj,hG.tklt,fun t b h=> ?_,hu4,fun l' b h=> ?_,hG.lmtk⟩,fun t'=> ?_,hX⟩
   ·simp only [List.length_set];exact hG.lmlt l' b h
   ·simp only [hget2 l' b h] at hs'
    split at hs'
    ·simp only [sI_] at hs'
     subst hs'
     obtain ⟨cur',ty',q1,_,_,q3⟩:=hG.blk l' b _ h (List.getElem?_eq_getElem (hG.lmlt l' b h))
     exact ⟨cur',ty',q1,Nat.zero_le _,by simpa using Rels.nil,q3⟩
    ·exact (hG.blk l' b cs' h hs').mono hule hk rfl
   ·rcases hG.inj l1 l2 b h1 h2 with e|e|e
    ·exact .inl e
    ·exact .inr (.inl (hdead l1 b h1 e))
    ·exact .inr (.inr (hdead l2 b h2 e))
   ·obtain ⟨n,hn⟩:=hG.tkus t b h
    exact ⟨n,hu2 b n hn⟩
   ·by_cases e:l'=l
    ·subst e;exact .inl (by rw [hget2 l' b h,if_pos rfl])
    ·rcases hG.disj l' b h with h2|h2
     ·exact .inl (hdead l' b h h2)
     ·rcases hu1 b with h3|h3
      ·exact .inr (h3.trans h2)
      ·rcases hG.inj l' l b h h3 with h4|h4|h4
       ·exact absurd h4 e
       ·exact .inl (hdead l' b h h4)
       ·rw [hs] at h4;simp at h4;exact absurd h4 hne
   ·show Rel us' w K (if t=t' then _ else _) _
    split
    ·next e=>
     subst e
     rw [hx]
     have hr2:=(g2.pubs).mono hule (KLe.nil _ _ _ _ .nil)
     have hl:(AV.agg (pubs cs)).cells.length=(cur.toList.take cs.length).length:=by
      show (pubs cs).length=_
      rw [z2a];simp;omega
     have:=Rel.eptr (us:=us') (w:=w) K (.agg (pubs cs)) o c 0 cur.size (cur.toList.take cs.length) hu3 (by simp;omega) (z41 g1 cs.length) (fun x hx=>g3 x (List.mem_of_mem_take hx)) hl (fun i h h'=>hr2.rel i h h')
     rw [Nat.zero_add] at this
     exact this
    ·exact (hE t').mono hule hk
  ·exact ⟨us,hG,hE,.refl _ _ _⟩
 ·exact ⟨us,hG,hE,.refl _ _ _⟩
theorem zaf {a:Act}: ∀(ts:List Tmp) {us:Us} {env:Env} {st:St},Good us w K st→EnvRel us w K env a→
  ∃us',Good us' w K (frzPs ts env st).2∧EnvRel us' w K (frzPs ts env st).1 a∧Ext us w K us' w K
 | [],us,env,st,hG,hE=>⟨us,hG,hE,.refl _ _ _⟩
 |t::r,us,env,st,hG,hE=>by
  obtain ⟨us1,h1,h2,h3⟩:=zig (t:=t) hG hE
  obtain ⟨us2,g1,g2,g3⟩:=zaf r h1 h2
  exact ⟨us2,g1,g2,h3.trans g3⟩
theorem zfi (l:Nat)(env:Env)(st:St):(frzL l env st).2.store.length=st.store.length∧(frzL l env st).2.tips=st.tips:=by
 unfold frzL
 split
 ·simp [z5j]
 ·exact ⟨rfl,rfl⟩
theorem zdd: ∀(ls:List Nat) (env:Env) (st:St),(frzLs ls env st).2.store.length=st.store.length∧(frzLs ls env st).2.tips=st.tips
 | [],_,_=>⟨rfl,rfl⟩
 |l::r,env,st=>by
  have h1:=zfi l env st
  have h2:=zdd r (frzL l env st).1 (frzL l env st).2
  exact ⟨h2.1.trans h1.1,h2.2.trans h1.2⟩
theorem zdf: ∀(ts:List Tmp) (env:Env) (st:St),(frzAV ts env st).2.store.length=st.store.length∧(frzAV ts env st).2.tips=st.tips
 | [],_,_=>⟨rfl,rfl⟩
 |t::r,env,st=>by
  have h1:=zdd (frzT t env st) env st
  have h2:=zdf r (frzLs (frzT t env st) env st).1 (frzLs (frzT t env st) env st).2
  exact ⟨h2.1.trans h1.1,h2.2.trans h1.2⟩
theorem zmw (l:Nat)(st:St)(as:List AV): ∀i (h:i<(as.map (frzA l st)).length),(as.map (frzA l st))[i]=frzA l st (as[i]'(by simpa using h)):=fun i h=>by simp
theorem zmv (l:Nat)(e e':Env)(st:St):(frzL l e st).2=(frzL l e' st).2:=by
 unfold frzL;split<;>rfl
theorem zmu (l:Nat)(e:Env)(st:St)(t:Tmp):(frzL l e st).1.get t=frzA l st (e.get t):=by
 unfold frzL frzA
 split
 ·simp only [frzEnv_get]
 ·rfl
theorem zbo: ∀(as:List AV) (n i:Nat) (h:i<as.length),(params n as).get (n+i)=as[i]
 | [],n,i,h=>by simp at h
 |a::r,n,0,h=>by simp [params,Env.get]
 |a::r,n,i+1,h=>by
  simp only [params,Env.get,List.getElem_cons_succ]
  rw [if_neg (by omega),show n+(i+1)=n+1+i by omega]
  exact zbo r (n+1) i (by simpa using h)
theorem zcz: ∀(as:List AV) (n t:Nat),(t<n∨n+as.length≤t)→(params n as).get t=.any
 | [],n,t,h=>rfl
 |a::r,n,t,h=>by
  simp only [params,Env.get]
  simp only [List.length_cons] at h
  rw [if_neg (by omega)]
  exact zcz r (n+1) t (by omega)
theorem z83: ∀(ls:List Nat) {us:Us} {st:St} {as:List AV} {vs:List Value},Good us w K st→Rels us w K as vs→
  ∃us',Good us' w K (frzArgs ls as st).2∧Rels us' w K (frzArgs ls as st).1 vs∧Ext us w K us' w K∧(frzArgs ls as st).2.store.length=st.store.length∧(frzArgs ls as st).2.tips=st.tips
 | [],us,st,as,vs,hG,hr=>⟨us,hG,hr,.refl _ _ _,rfl,rfl⟩
 |l::r,us,st,as,vs,hG,hr=>by
  have hE:EnvRel us w K (params 0 as) ⟨vs.toArray,[]⟩:=by
   intro t
   by_cases h:t<as.length
   ·have h1:=zbo as 0 t h
    rw [Nat.zero_add] at h1
    rw [h1]
    have h2:t<vs.length:=by rw [←hr.len];exact h
    have:(vs.toArray.getD t undef)=vs[t]:=by simp [Array.getD,h2]
    rw [this]
    exact hr.rel t h h2
   ·rw [zcz as 0 t (.inr (by omega))];exact .any _ _
  obtain ⟨us1,h1,h2,h3,h4,h5⟩:=zfj (l:=l) hG hE
  have hr':Rels us1 w K (as.map (frzA l st)) vs:=by
   refine ⟨by rw [List.length_map];exact hr.len,fun i hi hi'=> ?_⟩
   have h6:=h2 i
   have hi2:i<as.length:=by simpa using hi
   have h7:=zbo as 0 i hi2
   rw [Nat.zero_add] at h7
   rw [zmu,h7] at h6
   have:(vs.toArray.getD i undef)=vs[i]:=by simp [Array.getD,hi']
   simp only at h6
   rw [this] at h6
   rw [zmw]
   exact h6
  rw [zmv l (params 0 as) []] at h1 h4 h5
  obtain ⟨us2,g1,g2,g3,g4,g5⟩:=z83 r h1 hr'
  exact ⟨us2,g1,g2,h3.trans g3,g4.trans h4,g5.trans h5⟩
theorem zas: ∀(ls:List Nat) (as:List AV) (st:St),(frzArgs ls as st).2.store.length=st.store.length∧(frzArgs ls as st).2.tips=st.tips
 | [],_,_=>⟨rfl,rfl⟩
 |l::r,as,st=>by
  have h1:=zfi l [] st
  have h2:=zas r (as.map (frzA l st)) (frzL l [] st).2
  exact ⟨h2.1.trans h1.1,h2.2.trans h1.2⟩
end
end Go.Ev
namespace Go.Ev
open Go
section
variable {P:Program} {us:Us} {w:World} {K:Kx} {st st' S S':St}
variable {o:Oper} {env:Env} {a:Act} {r:AV}
theorem zez (P:Program) {l q c:Nat} {cs xs:List AV} {vs:List Value} (hG:Good us w K S)(hc:K.lm l=some c)(hcs:S.store[l]? =some cs)(hne:cs≠[])(hb:q+xs.length≤cs.length)(hcells:Rels us w K xs vs)(hone2: ∀v∈vs,v.oneCell'=true):
  ∃w',(storeCells ⟨c,q,none⟩ vs).run P w=.ok () w'∧Ext us w K us w' K∧Good us w' K ⟨S.store.set l (putCells cs q xs),S.tips⟩:=by
 obtain ⟨cur,ty,hheap,hle,hrel,hone⟩:=hG.blk l c cs hc hcs
 have e1:vs.length=xs.length:=hcells.len.symm
 have hrun:=run_storeCells_at P c q ty vs 0 cur w hheap (by omega) hone2
 simp only [Nat.add_zero] at hrun
 have hput:putCells cs q xs=cs.take q++xs++cs.drop (q+xs.length):=zbm cs q xs (by omega)
 have hpl:(putCells cs q xs).length=cs.length:=z7x cs q xs
 have hr':Rels us w K (putCells cs q xs) ((cur.toList.take q++vs++cur.toList.drop (q+vs.length)).take (putCells cs q xs).length):=by
  rw [hpl,hput]
  have:=((hrel.take q).append hcells).append (hrel.drop (q+xs.length))
  have e5:(cur.toList.take q++vs++cur.toList.drop (q+vs.length)).take cs.length=(cur.toList.take cs.length).take q++vs++(cur.toList.take cs.length).drop (q+xs.length):=by
   have hq:(cur.toList.take q).length=q:=by simp;omega
   rw [e1,List.take_take,Nat.min_eq_left (by omega),List.take_append,List.length_append,hq,e1,List.take_of_length_le (by rw [List.length_append,hq,e1];omega),List.drop_take]
  rw [e5]
  exact this
 have h1': ∀z∈cur.toList.take q++vs++cur.toList.drop (q+vs.length),z.oneCell'=true:=by
  intro z hz
  simp only [List.mem_append] at hz
  rcases hz with (hz|hz)|hz
  ·exact hone z (List.mem_of_mem_take hz)
  ·exact hone2 z hz
  ·exact hone z (List.mem_of_mem_drop hz)
 have hsz:(cur.toList.take q++vs++cur.toList.drop (q+vs.length)).length=cur.size:=by
  simp [e1];omega
 exact ⟨_,hrun,z8r hG hc (hG.live hc hcs hne) ⟨cur,ty,hheap,by simpa using hsz.symm⟩,z95 hG hc hcs hne hheap hsz (by rw [hpl,hsz];exact hle) hr' h1'⟩
theorem zlm {c:Call} {x:Operand} {t e:TypeId} {i:TypeInfo} {ag:Bool} {zero:Value} (ho:o.op=.call c)(hb:c.callee=.builtin .clear)(ha:c.args= #[x])(ht:c.argTypes[0]? =some t)(hu:P.underlying t=some (.slice e))(hi:P.info? e=some i)(hz:zeroT P e=some zero)
  (hok:zeroOk i.size ag zero=true) (hpos:0<i.size) (hE:EnvRel us w K env a) (hG:Good us w K S) (hv:clearAV i.size (zcells zero) S (aval env x)=some S'):Goes P o a us w K (.v (.tuple #[])) st st' S':=by
 have h1:=ze hE x
 generalize aval env x=ax at hv h1
 have hzi:i.zero=some zero:=by simpa [zeroT,hi] using hz
 simp only [zeroOk,Bool.and_eq_true,beq_iff_eq] at hok
 obtain ⟨⟨hzs,hst⟩,_⟩:=hok
 have hstep: ∀w',(Builtin.clear_ c.argTypes o.type #[a.eval x]).run P w=.ok (.tuple #[]) w'→(execOp a.eval o).run P w=.ok (.value (.tuple #[])) w':=by
  intro w' h
  simp [execOp,ho,resolve,hb,ha,invoke,builtin,h]
 unfold clearAV at hv
 split at hv
 ·rename_i l q n cp z' b
  obtain ⟨d,cap,hc,hx,_⟩:=h1.rsl_inv
  split at hv
  ·split at hv
   ·next hn0=>
    simp only [sI_] at hv;subst hv
    intro next Q hn
    unfold Oper.wp
    rw [hstep w (by rw [hx,hn0];simp [Builtin.clear_,ht,run_underlying hu])]
    exact hn _ us w K (.v K _ rfl) (.refl _ _ _) hG (.sameK _ _ _)
   ·next hn0=>
    simp only [storeAV] at hv
    split at hv
    ·next hcond=>
     split at hv
     ·rename_i cs hcs
      split at hv
      ·next hbd=>
       simp only [sI_] at hv;subst hv
       have hzr:Rels us w K (zcells zero) zero.cells.toList:=z3j zero (z0k hst)
       have h0:=z7p (z:=i.size) (zcells zero) zero.cells hzr hzs n
       have hl:((List.replicate n (zcells zero)).flatten).length=n*i.size:=hcond.2.1
       have hne:cs≠[]:=by
        intro h;subst h
        have:0<n*i.size:=Nat.mul_pos (by omega) hpos
        simp at hbd;omega
       have hone: ∀v∈(List.range (n*i.size)).map fun j=>zero.cells[j % zero.cells.size]!,v.oneCell'=true:=by
        intro v hv
        obtain ⟨j,hj,rfl⟩:=List.mem_map.1 hv
        have hlt:=Nat.mod_lt j (show 0<zero.cells.size by omega)
        rw [getElem!_pos zero.cells (j % zero.cells.size) hlt]
        exact hzr.one hst _ (by simp)
       obtain ⟨w',g1,g2,g3⟩:=zez P (q:=q) hG hc hcs hne (by rw [hl];exact hbd) h0 hone
       intro next Q hn
       unfold Oper.wp
       have hzc:(Builtin.zeroCells zero.cells n).toList=(List.range (n*i.size)).map fun j=>zero.cells[j % zero.cells.size]! :=by
        simp [Builtin.zeroCells,hzs]
       rw [hstep w' (by
        rw [hx]
        simp [Builtin.clear_,ht,run_underlying hu,hn0,zeroValue,typeInfo,hi,hzi,hzc,g1])]
       exact hn _ us w' K (.v K _ rfl) g2 g3 (.sameK _ _ _)
      ·simp at hv
     ·simp at hv
    ·simp at hv
  ·simp at hv
 ·simp only [sI_] at hv;subst hv
  have hx:=h1.v_inv
  intro next Q hn
  unfold Oper.wp
  rw [hstep w (by rw [hx];simp [Builtin.clear_,ht,run_underlying hu])]
  exact hn _ us w K (.v K _ rfl) (.refl _ _ _) hG (.sameK _ _ _)
 ·simp at hv
theorem zdl (P:Program) {z k:Nat} {A:AV} {x:Value} {ys:List AV} (hG:Good us w K S)(h:elemsOf z S A=some ys)(hr:Rel us w K A x)(hk:k≤ys.length):
  ∃news,(Builtin.lenOf x).run P w=.ok ys.length w∧(Builtin.firstCells z k x).run P w=.ok news.toArray w∧Rels us w .nil (flat (ys.take k)) news∧(∀v∈news,v.oneCell'=true)∧(flat (ys.take k)).length=k*z:=by
 have each: ∀ys':List AV,(∀y∈ys',y.cells.length=z)→k≤ys'.length→(flat (ys'.take k)).length=k*z:=by
  intro ys' h1 h2
  rw [z15 _ fun y hy=>h1 y (List.mem_of_mem_take hy),List.length_take,Nat.min_eq_left h2]
 unfold elemsOf at h
 split at h
 ·simp only [sI_] at h
  subst h
  rw [hr.v_inv]
  have:k=0:=by simpa using hk
  subst this
  exact ⟨[],by simp [Builtin.lenOf],by simp [Builtin.firstCells],.nil,by simp,by simp [flat]⟩
 ·rename_i g z' xs
  split at h
  ·next hz=>
   subst hz
   simp only [sI_] at h
   subst h
   obtain ⟨c,p,cap,vs,rfl,h1⟩:=hr.lst_inv
   have hl:vs.length=xs.length*z':=by rw [←h1.rels.len,z15 xs h1.each]
   have hkz:k*z'≤vs.length:=by rw [hl];exact Nat.mul_le_mul_right _ hk
   have hft:flat (xs.take k)=(flat xs).take (k*z'):=by
    have e:flat xs=flat (xs.take k)++flat (xs.drop k):=by
     unfold flat;rw [←List.flatMap_append,List.take_append_drop]
    rw [e,List.take_left' (each xs h1.each hk)]
   refine ⟨vs.take (k*z'),by simp [Builtin.lenOf],?_,by rw [hft];exact h1.rels.take _,fun v hv=>h1.one v (List.mem_of_mem_take hv),each xs h1.each hk⟩
   refine run_firstCells_some _ z' k ⟨c,p,none⟩ xs.length cap (vs.take (k*z')) (by simp;omega) (fun j v hj=> ?_)
   obtain ⟨hj1,rfl⟩:=List.getElem?_eq_some_iff.1 hj
   rw [Addr.add_lit]
   have hj2:j<vs.length:=by simp at hj1;omega
   rw [List.getElem_take]
   exact h1.cells j hj2
  ·simp at h
 ·rename_i l q n cp z' b
  split at h
  ·next hz=>
   obtain ⟨rfl,hb⟩:=hz
   obtain ⟨c,cap,hc,rfl,_⟩:=hr.rsl_inv
   cases hl:S.store[l]? with
   |none=>simp [hl] at h
   |some cs=>
    simp only [hl,Option.bind_some] at h
    split at h
    ·next hbd=>
     simp only [sI_] at h
     subst h
     obtain ⟨cur,ty,h1,h0,h2,h3⟩:=hG.blk l c cs hc hl
     have h4:=z74 (us:=us) (w:=w) b z' n (pubs (cs.drop q)) ((cur.toList.take cs.length).drop q) hb (by rw [z2a];simp;omega) (h2.drop q).pubs
     have hgl:=z53 b z' n (pubs (cs.drop q))
     rw [hgl] at hk
     have hkn:k*z'≤n*z':=Nat.mul_le_mul_right _ hk
     have hft:flat ((group b z' n (pubs (cs.drop q))).take k)=(flat (group b z' n (pubs (cs.drop q)))).take (k*z'):=by
      have e:flat (group b z' n (pubs (cs.drop q)))=flat ((group b z' n (pubs (cs.drop q))).take k)++flat ((group b z' n (pubs (cs.drop q))).drop k):=by
       unfold flat;rw [←List.flatMap_append,List.take_append_drop]
      rw [e,List.take_left' (each _ h4.2 (by rw [hgl];exact hk))]
     refine ⟨((((cur.toList.take cs.length).drop q).take (n*z')).take (k*z')),by simp [Builtin.lenOf,z53],?_,by rw [hft];exact h4.1.take _,fun y hy=>h3 y (List.mem_of_mem_take (List.mem_of_mem_drop (List.mem_of_mem_take (List.mem_of_mem_take hy)))),each _ h4.2 (by rw [hgl];exact hk)⟩
     refine run_firstCells_some _ z' k ⟨c,q,none⟩ n cap _ (by simp;omega) (fun j v hj=> ?_)
     obtain ⟨hj1,rfl⟩:=List.getElem?_eq_some_iff.1 hj
     rw [Addr.add_lit]
     try rw [World.cell?_drew]
     rw [cell_of_row _ c (q+j) cur ty _ h1]
     simp at hj1
     rw [Array.getElem?_eq_getElem (by omega)]
     simp
    ·simp at h
  ·simp at h
 ·simp at h
theorem zo5 {c:Call} {x y:Operand} {t e:TypeId} {z:Nat} {ys:List AV} (ho:o.op=.call c)(hb:c.callee=.builtin .copy)(ha:c.args= #[x,y])(ht:c.argTypes[0]? =some t)(hu:P.underlying t=some (.slice e))(hz:sizeT P e=some z)(hz0:0<z)
  (hE:EnvRel us w K env a) (hG:Good us w K S) (hys:elemsOf z S (aval env y)=some ys) (hv:copyAV z S ys (aval env x)=some (r,S')):Goes P o a us w K r st st' S':=by
 have h1:=ze hE x
 have h2:=ze hE y
 generalize aval env x=ax at hv h1
 generalize aval env y=ay at hys h2
 have hstep: ∀v w',(Builtin.copy_ c.argTypes o.type #[a.eval x,a.eval y]).run P w=.ok v w'→(execOp a.eval o).run P w=.ok (.value v) w':=by
  intro v w' h
  simp [execOp,ho,resolve,hb,ha,invoke,builtin,h]
 unfold copyAV at hv
 split at hv
 ·rename_i l q n cp z' b
  obtain ⟨d,cap,hc,hx,_⟩:=h1.rsl_inv
  split at hv
  ·split at hv
   ·rename_i cs hcs
    split at hv
    ·next hbd=>
     simp only [sI_,Prod.mk.injEq] at hv
     obtain ⟨rfl,rfl⟩:=hv
     have hk:Nat.min ys.length n≤ys.length:=Nat.min_le_left _ _
     obtain ⟨news,g1,g2,g3,g4,g5⟩:=zdl P hG hys h2 hk
     have hne:cs≠[]:=by intro h;subst h;simp at hbd
     obtain ⟨w',p1,p2,p3⟩:=zez P (q:=q) (xs:=flat (ys.take (Nat.min ys.length n))) hG hc hcs hne (by rw [g5];exact hbd.2) (g3.mono (.refl _ _) (KLe.nil _ _ _ _ _)) g4
     intro next Q hn
     unfold Oper.wp
     rw [hstep (goInt (Nat.min ys.length n)) w' (by
      rw [hx]
      simp [Builtin.copy_,ht,run_underlying hu,z5r hz,g1,g2,p1])]
     exact hn _ us w' K (.v K _ rfl) p2 p3 (.sameK _ _ _)
    ·simp at hv
   ·simp at hv
  ·simp at hv
 ·simp only [sI_,Prod.mk.injEq] at hv
  obtain ⟨rfl,rfl⟩:=hv
  have hx:=h1.v_inv
  obtain ⟨news,g1,g2,g3,g4,g5⟩:=zdl P (k:=0) hG hys h2 (Nat.zero_le _)
  intro next Q hn
  unfold Oper.wp
  rw [hstep (goInt 0) w (by
   rw [hx]
   simp [Builtin.copy_,ht,run_underlying hu,z5r hz,g1,g2])]
  exact hn _ us w K (.v K _ rfl) (.refl _ _ _) hG (.sameK _ _ _)
 ·simp at hv
theorem rt_cap {x:Operand} {e:TypeId} {c:Call} (ho:o.op=.call c)(hb:c.callee=.builtin .cap)(ha:c.args.toList=[x])(hty:(c.argTypes[0]?).bind P.underlying=some (.slice e))(hE:EnvRel us w K env a)(hG:Good us w K st)
  (hv:valAV env (.cap x)=some r):RunsTo P (execOp a.eval o) us w K st r:=by
 simp only [valAV] at hv
 have h1:=ze hE x
 have ha':c.args= #[x]:=by rw [←Array.toArray_toList (xs:=c.args),ha]
 have run: ∀b n cap,a.eval x=.slice b n cap→(execOp a.eval o).run P w=.ok (.value (.int .i64 cap)) w:=by
  intro b n cap h
  cases h0:c.argTypes[0]? with
  |none=>simp [h0] at hty
  |some t0=>
   simp only [h0,Option.bind_some] at hty
   simp [execOp,ho,resolve,hb,ha',invoke,builtin,Builtin.cap_,h0,run_underlying hty,h,goInt]
 generalize aval env x=ax at hv h1
 unfold capAV at hv
 split at hv
 ·simp only [sI_] at hv;subst hv
  exact ⟨_,us,w,run _ _ _ h1.v_inv,.v K _ rfl,.refl _ _ _,hG⟩
 ·rename_i z xs
  simp only [sI_] at hv;subst hv
  obtain ⟨d,p,cap,vs,hx,h2⟩:=h1.lst_inv
  have hc:cap=xs.length:=h2.tag
  subst hc
  exact ⟨_,us,w,run _ _ _ hx,.v K _ rfl,.refl _ _ _,hG⟩
 ·simp at hv
end
end Go.Ev
