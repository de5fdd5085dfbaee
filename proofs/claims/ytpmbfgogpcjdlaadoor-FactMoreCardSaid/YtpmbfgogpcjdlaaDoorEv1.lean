/- What is proved: a checked way to run the functions of this program on values (the evaluator), and that each of its operations does what the model says. It holds for every program of the model. -/
import GoSem.Dispatch
import Derived.Laws.AppendOwn
import Derived.Laws.Entries
import Derived.Laws.IdiomCopy
import Derived.Below
import Derived.Orders
import Derived.Laws.StructEq
import Derived.Laws.NewBlocks
set_option linter.all false
namespace Go.Ev

inductive Tag where
  | any
  | full
  | own (t e : Nat)
  deriving DecidableEq, Inhabited

inductive AV where
  | any
  | v (x : Value)
  | ptr (l o : Nat)
  | eptr (e : AV) (o : Nat)
  | lst (g : Tag) (z : Nat) (xs : List AV)
  | rsl (l o n c z : Nat) (a : Bool)
  | obj (m : Bool) (l : Nat)
  | fn (f : Fn) (first caps : List AV)
  | ifc (t : TypeId) (x : AV)
  | agg (cs : List AV)
  | tup (cs : List AV)
  deriving Inhabited

structure St where
  store : List (List AV)
  tips : List Nat
  deriving Inhabited

abbrev Env := List (Nat × AV)

def Env.get : Env → Nat → AV
  | [], _ => .any
  | (i, a) :: r, t => if i = t then a else Env.get r t

/-- Not a struct or an array. -/
def plainV : Value → Bool
  | .agg _ => false
  | _ => true

def ofVal : Value → AV
  | .agg cs => if cs.toList.all plainV = true then .agg (cs.toList.map .v) else .any
  | x => .v x

def aval (env : Env) : Operand → AV
  | .tmp t => env.get t
  | .const x => ofVal x
  | .global _ => .any
  | .func f => .fn (.func f) [] []

def avals (env : Env) : List Operand → List AV
  | [] => []
  | x :: r => aval env x :: avals env r

def AV.cells : AV → List AV
  | .agg cs => cs
  | a => [a]

def AV.shaped : AV → Bool
  | .any => false
  | _ => true

/-- A cell can hold it. -/
def storable : AV → Bool
  | .any => false
  | .obj _ _ => false
  | .tup _ => false
  | .agg _ => false
  | .v (.tuple _) => false
  | .v (.agg _) => false
  | _ => true

mutual
/-- No slice in it may be grown in place. -/
def untip : AV → AV
  | .any => .any
  | .v x => .v x
  | .ptr l o => .ptr l o
  | .eptr e o => .eptr e o
  | .lst _ z xs => .lst .any z xs
  | .rsl l o n c z a => .rsl l o n c z a
  | .obj m l => .obj m l
  | .fn f a b => .fn f (untips a) (untips b)
  | .ifc t x => .ifc t (untip x)
  | .agg cs => .agg (untips cs)
  | .tup cs => .tup (untips cs)
def untips : List AV → List AV
  | [] => []
  | a :: r => untip a :: untips r
end

mutual
def pub : AV → AV
  | .any => .any
  | .v x => .v x
  | .ptr _ _ => .any
  | .eptr e o => .eptr e o
  | .lst _ z xs => .lst .any z xs
  | .rsl _ _ _ _ _ _ => .any
  | .obj _ _ => .any
  | .fn f a b => .fn f (pubs a) (pubs b)
  | .ifc t x => .ifc t (pub x)
  | .agg cs => .agg (pubs cs)
  | .tup cs => .tup (pubs cs)
def pubs : List AV → List AV
  | [] => []
  | a :: r => pub a :: pubs r
end

/-! ## The operations, with all that the types say of them laid in. -/

inductive IK where
  | move (x : Operand)
  | pick (c a b : Operand)
  | alloc (zs : List AV)
  | box (x : Operand)
  | build (zs : List AV) (ps : List (Nat × Nat × Operand))
  | lit (z : Nat) (ag : Bool) (zero : AV) (n : Nat) (ps : List (Nat × Operand))
  | litm (z : Nat) (ag : Bool) (zero : AV) (n : Nat) (ps : List (Nat × Operand))
  | load (s : Nat) (ag : Bool) (a : Operand)
  | store (s : Nat) (a x : Operand)
  | bin (op : BinOp) (q : Option Nat) (x y : Operand)
  | not (x : Operand)
  | neg (x : Operand)
  | conv (k : IntKind) (x : Operand)
  | nil (x : Operand)
  | iface (t : TypeId) (x : Operand)
  | assert (t : TypeId) (zero : AV) (ok : Bool) (x : Operand)
  | func (f : Fn) (a b : List Operand)
  | make (z : Nat) (ag : Bool) (zs : List AV) (l c : Operand)
  | slice (z : Nat) (x : Operand) (lo hi mx : Option Operand)
  | slicea (n z : Nat) (ag : Bool) (x : Operand) (lo hi mx : Option Operand)
  | fieldAddr (o : Nat) (x : Operand)
  | indexS (z : Nat) (x i : Operand)
  | indexA (n z : Nat) (x i : Operand)
  | extract (i : Nat) (x : Operand)
  | len (x : Operand)
  | min (x y : Operand)
  | max (x y : Operand)
  | min3 (x y z : Operand)
  | append (z : Nat) (r : Bool) (s y : Operand)
  | appendm (z : Nat) (ag : Bool) (s y : Operand)
  | field (o s : Nat) (ag : Bool) (x : Operand)
  | indexV (n z : Nat) (ag : Bool) (x i : Operand)
  | indexStr (x i : Operand)
  | die
  | loadp (ts : List Tmp) (s : Nat) (ag : Bool) (a : Operand)
  | storeq (ts : List Tmp) (s : Nat) (a x : Operand)
  | indexG (g n z : Nat) (tab : List Nat) (i : Operand)
  | call (p : Bool) (f : FuncId) (args : List Operand)
  | callv (p : Bool) (f : Operand) (args : List Operand)
  | callk (f : FuncId) (args : List Operand)
  | calll (f : FuncId) (args : List Operand)
  | callz (f : FuncId) (args : List Operand)
  | callr (f : FuncId) (args : List Operand)
  | invoke (tab : List (TypeId × FuncId)) (x : Operand) (args : List Operand)
  | clear (z : Nat) (zs : List AV) (x : Operand)
  | copy (z : Nat) (x y : Operand)
  | cap (x : Operand)
  | compl (x : Operand)
  | grow (z : Nat) (ag : Bool) (zs : List AV) (s n : Operand)
  | lenStr (x : Operand)
  | sliceStr (x : Operand) (lo hi : Option Operand)
  | toBytes (x : Operand)
  | toStr (x : Operand)
  | range (x : Operand)
  | next (x : Operand)
  | makeMap
  | mapPut (m k x : Operand)
  | mapGet (zero : AV) (ok : Bool) (m k : Operand)
  | mapDel (m k : Operand)
  | mapLen (m : Operand)
  | mapClear (m : Operand)
  deriving Inhabited

structure IOp where
  d : Option Tmp
  g : Option (Tmp × Bool)
  k : IK
  deriving Inhabited

inductive IC where
  | skip
  | ops (l : List IOp)
  | frz (ts : List Tmp)
  | frzp (ts : List Tmp)
  | lost (l : List IOp)
  | seq (a b : IC)
  | cond (c : Operand) (a b : IC)
  | block (id : Nat) (a : IC)
  | loop (gc : Bool) (keep : List Tmp) (a : IC)
  | exit (id : Nat)
  | ret
  deriving Inhabited

/-! ## What they do. -/

def readCells (ag : Bool) (s o : Nat) (cs : List AV) : Option AV :=
  if ag then (if o + s ≤ cs.length then some (.agg ((cs.drop o).take s)) else none) else cs[o]?

def putCells (cs : List AV) (o : Nat) : List AV → List AV
  | [] => cs
  | x :: r => putCells (cs.set o x) (o + 1) r

def loadAV (s : Nat) (ag : Bool) (st : St) : AV → Option AV
  | .ptr l o => (st.store[l]?).bind (readCells ag s o)
  | .eptr e o => readCells ag s o e.cells
  | _ => none

def storeAV (s : Nat) (st : St) : AV → AV → Option St
  | .ptr l o, x =>
    if x.shaped = true ∧ x.cells.length = s ∧ x.cells.all storable = true then
      match st.store[l]? with
      | some cs => if o + s ≤ cs.length then some ⟨st.store.set l (putCells cs o x.cells), st.tips⟩ else none
      | none => none
    else none
  | _, _ => none

def intOp (op : BinOp) (k : IntKind) (a b : Int) : Option AV :=
  match op with
  | .add => some (.v (.int k (k.wrap (a + b))))
  | .sub => some (.v (.int k (k.wrap (a - b))))
  | .mul => some (.v (.int k (k.wrap (a * b))))
  | .quo => if b = 0 then none else some (.v (.int k (k.wrap (a.tdiv b))))
  | .rem => if b = 0 then none else some (.v (.int k (a.tmod b)))
  | .and => some (.v (.int k (k.wrap (BitVec.ofInt k.bits a &&& BitVec.ofInt k.bits b).toNat)))
  | .or => some (.v (.int k (k.wrap (BitVec.ofInt k.bits a ||| BitVec.ofInt k.bits b).toNat)))
  | .xor => some (.v (.int k (k.wrap (BitVec.ofInt k.bits a ^^^ BitVec.ofInt k.bits b).toNat)))
  | .andNot => some (.v (.int k (k.wrap (BitVec.ofInt k.bits a &&& ~~~BitVec.ofInt k.bits b).toNat)))
  | .eql => some (.v (.bool (a == b)))
  | .neq => some (.v (.bool (a != b)))
  | .lss => some (.v (.bool (decide (a < b))))
  | .leq => some (.v (.bool (decide (a ≤ b))))
  | .gtr => some (.v (.bool (decide (a > b))))
  | .geq => some (.v (.bool (decide (a ≥ b))))
  | .shl => if b < 0 then none else some (.v (.int k (k.wrap (a * 2 ^ (min b.toNat k.bits)))))
  | .shr => if b < 0 then none else some (.v (.int k (a.fdiv (2 ^ (min b.toNat k.bits)))))

def isShift : BinOp → Bool
  | .shl | .shr => true
  | _ => false

def cellEq : AV → AV → Option Bool
  | .v (.int k a), .v (.int k' b) => if k = k' then some (a == b) else none
  | _, _ => none

def cellsEq : List AV → List AV → Option Bool
  | [], [] => some true
  | x :: xs, y :: ys =>
    match cellEq x y, cellsEq xs ys with
    | some a, some b => some (a && b)
    | _, _ => none
  | _, _ => none

def boolOp (op : BinOp) (b : Bool) : Option AV :=
  match op with
  | .eql => some (.v (.bool b))
  | .neq => some (.v (.bool !b))
  | _ => none

def strOp (op : BinOp) (a b : ByteArray) : Option AV :=
  match op with
  | .eql => some (.v (.bool (a.data.toList == b.data.toList)))
  | .neq => some (.v (.bool !(a.data.toList == b.data.toList)))
  | .add => if a.size + b.size ≤ 4294967296 then some (.v (.string (a ++ b))) else none
  | _ => none

def binAV (op : BinOp) (q : Option Nat) : AV → AV → Option AV
  | .v (.int k a), .v (.int k' b) => if isShift op = true ∨ k = k' then intOp op k a b else none
  | .v (.bool a), .v (.bool b) => if q = some 1 then boolOp op (a == b) else none
  | .v (.string a), .v (.string b) => strOp op a b
  | .lst _ _ _, .v (.slice none _ _) => if q = some 0 then boolOp op false else none
  | .rsl _ _ _ _ _ _, .v (.slice none _ _) => if q = some 0 then boolOp op false else none
  | .v (.slice none _ _), .v (.slice none _ _) => if q = some 0 then boolOp op true else none
  | .agg xs, .agg ys =>
    match q, cellsEq xs ys with
    | some (n + 2), some b => if xs.length = n then boolOp op b else none
    | _, _ => none
  | _, _ => none

def goI (n : Nat) : AV := .v (.int .i64 n)

def lenAV : AV → Option AV
  | .lst _ _ xs => some (goI xs.length)
  | .rsl _ _ n _ _ _ => some (goI n)
  | .v (.slice _ n _) => some (goI n)
  | _ => none

def indexSAV (z : Nat) : AV → AV → Option AV
  | .lst _ z' xs, .v (.int _ i) => if z = z' ∧ 0 ≤ i then (xs[i.toNat]?).map (.eptr · 0) else none
  | .rsl l o n _ z' _, .v (.int _ i) => if z = z' ∧ 0 ≤ i ∧ i < n then some (.ptr l (o + i.toNat * z)) else none
  | _, _ => none

def indexAAV (n z : Nat) : AV → AV → Option AV
  | .ptr l o, .v (.int _ i) => if 0 ≤ i ∧ i < n then some (.ptr l (o + i.toNat * z)) else none
  | .eptr a o, .v (.int _ i) => if 0 ≤ i ∧ i < n then some (.eptr a (o + i.toNat * z)) else none
  | _, _ => none

def fieldAddrAV (f : Nat) : AV → Option AV
  | .ptr l o => some (.ptr l (o + f))
  | .eptr e o => some (.eptr e (o + f))
  | _ => none

def maxGrow : Nat := 2 ^ 32

def appendAV (z : Nat) (s : AV) (ys : List AV) (st : St) : Option (AV × St) :=
  match s with
  | .v (.slice none 0 0) =>
    match ys with
    | [] => some (.v (.slice none 0 0), st)
    | y :: r => if (y :: r).length ≤ maxGrow then some (.lst (.own st.tips.length (y :: r).length) z (y :: r), ⟨st.store, st.tips ++ [(y :: r).length]⟩) else none
  | .lst g z' xs =>
    if z' = z then
      match ys with
      | [] => some (.lst g z xs, st)
      | y :: r =>
        if xs.length + (y :: r).length ≤ maxGrow then
          match g with
          | .full => some (.lst (.own st.tips.length (xs.length + (y :: r).length)) z (xs ++ y :: r), ⟨st.store, st.tips ++ [xs.length + (y :: r).length]⟩)
          | .own t e => if st.tips[t]? = some e then some (.lst (.own t (e + (y :: r).length)) z (xs ++ y :: r), ⟨st.store, st.tips.set t (e + (y :: r).length)⟩) else none
          | .any => none
        else none
    else none
  | _ => none

def cell1 : AV → AV
  | .agg _ => .any
  | x => x

def group (a : Bool) (z : Nat) : Nat → List AV → List AV
  | 0, _ => []
  | n + 1, cs => (if a then .agg (cs.take z) else cell1 (cs.headD .any)) :: group a z n (cs.drop z)

def elemsOf (z : Nat) (st : St) : AV → Option (List AV)
  | .v (.slice none 0 0) => some []
  | .lst _ z' xs => if z' = z then some xs else none
  | .rsl l o n _ z' a => if z' = z ∧ (a = true ∨ z = 1) then (st.store[l]?).bind fun cs => if o + n * z ≤ cs.length then some (group a z n (pubs (cs.drop o))) else none else none
  | _ => none

/-- Known to all but slices of the store, which stay. -/
def pubR : AV → AV
  | .rsl l o n c z a => .rsl l o n c z a
  | x => pub x
def pubE : AV → AV
  | .rsl l o n c z a => .rsl l o n c z a
  | x => cell1 (pub x)
/-- Elements that go to a slice that may be written: slices of the store stay what they are. -/
def elemsM (z : Nat) (st : St) : AV → Option (List AV)
  | .rsl l o n c z' a =>
    if z' = 1 ∧ z = 1 ∧ a = false then (st.store[l]?).bind fun cs => if o + n ≤ cs.length then some (((cs.drop o).take n).map pubE) else none
    else elemsOf z st (.rsl l o n c z' a)
  | y => elemsOf z st y

def flatAV (xs : List AV) : List AV := xs.flatMap AV.cells

/-- A slice that may be written: a new block, whose first elements are known. -/
def newM (z : Nat) (ag : Bool) (xs : List AV) (st : St) : Option (AV × St) :=
  if xs.length ≤ maxGrow then some (.rsl st.store.length 0 xs.length xs.length z ag, ⟨st.store ++ [flatAV xs], st.tips⟩) else none

/-- An append to a slice that may be written. If it may move, the old block is let go. -/
def appendmAV (z : Nat) (ag : Bool) (s : AV) (ys : List AV) (st : St) : Option (AV × St) :=
  match s with
  | .v (.slice none 0 0) =>
    match ys with
    | [] => some (.v (.slice none 0 0), st)
    | y :: r => newM z ag (y :: r) st
  | .lst .full z' xs =>
    if z' = z then
      match ys with
      | [] => some (.lst .full z xs, st)
      | y :: r => newM z ag (xs ++ y :: r) st
    else none
  | .rsl l o n c z' a =>
    match st.store[l]? with
    | some cs =>
      if z' = z ∧ a = ag ∧ n ≤ c ∧ o + n * z ≤ cs.length ∧ 0 < cs.length then
        if n + ys.length ≤ c then
          if o + (n + ys.length) * z ≤ cs.length then some (.rsl l o (n + ys.length) c z a, ⟨st.store.set l (cs.take (o + n * z) ++ flatAV ys ++ cs.drop (o + n * z + (flatAV ys).length)), st.tips⟩) else none
        else if o = 0 ∧ n + ys.length ≤ maxGrow ∧ c < n + ys.length then
          some (.rsl st.store.length 0 (n + ys.length) (n + ys.length) z a, ⟨st.store.set l [] ++ [cs.take (n * z) ++ flatAV ys], st.tips⟩)
        else none
      else none
    | none => none
  | _ => none

def natOf : AV → Option Nat
  | .v (.int _ i) => if 0 ≤ i then some i.toNat else none
  | _ => none

def natOr (d : Nat) : Option AV → Option Nat
  | none => some d
  | some a => natOf a

def tagSlice (g : Tag) (l h n : Nat) : Tag :=
  match g with
  | .any => .any
  | .full => if h = n ∧ l < h then .full else .any
  | .own t e => if h = n ∧ l = 0 ∧ 0 < h then .own t e else .any

def sliceAV (y : Nat) (s : AV) (lo hi mx : Option AV) : Option AV :=
  match s with
  | .lst g z xs =>
    if y = z then
    match natOr 0 lo, natOr xs.length hi, mx with
    | some l, some h, none => if l ≤ h ∧ h ≤ xs.length then some (.lst (tagSlice g l h xs.length) z ((xs.take h).drop l)) else none
    | some l, some h, some m =>
      match natOf m with
      | some m => if l ≤ h ∧ h ≤ xs.length ∧ m = h ∧ hi.isSome = true then some (.lst .full z ((xs.take h).drop l)) else none
      | none => none
    | _, _, _ => none
    else none
  | .rsl l o n c z a =>
    match natOr 0 lo, natOr n hi, natOr c mx with
    | some x, some h, some m => if y = z ∧ x ≤ h ∧ h ≤ m ∧ m ≤ c ∧ (mx.isSome = true → hi.isSome = true) ∧ (mx.isSome = true ∨ x < m ∨ x = 0) then some (.rsl l (if m = x then o else o + x * z) (h - x) (m - x) z a) else none
    | _, _, _ => none
  | .v (.slice none 0 0) =>
    match natOr 0 lo, natOr 0 hi, natOr 0 mx with
    | some 0, some 0, some 0 => if mx.isSome = true → hi.isSome = true then some (.v (.slice none 0 0)) else none
    | _, _, _ => none
  | _ => none

def sliceaAV (n z : Nat) (ag : Bool) (x : AV) (lo hi mx : Option AV) : Option AV :=
  match x with
  | .ptr l o =>
    match natOr 0 lo, natOr n hi, natOr n mx with
    | some a, some h, some m => if a ≤ h ∧ h ≤ m ∧ m ≤ n ∧ (mx.isSome = true → hi.isSome = true) then some (.rsl l (if m = a then o else o + a * z) (h - a) (m - a) z ag) else none
    | _, _, _ => none
  | _ => none

def minAV : AV → AV → Option AV
  | .v (.int k a), .v (.int _ b) => some (.v (.int k (if b < a then b else a)))
  | _, _ => none

def maxAV : AV → AV → Option AV
  | .v (.int k a), .v (.int _ b) => some (.v (.int k (if b > a then b else a)))
  | _, _ => none

def setParts : List AV → List (Nat × Nat × AV) → Option (List AV)
  | cs, [] => some cs
  | cs, (o, s, x) :: r => if x.shaped = true ∧ x.cells.length = s ∧ o + s ≤ cs.length then setParts (putCells cs o x.cells) r else none

def isAgg : AV → Bool
  | .agg _ => true
  | _ => false

def setElems (z : Nat) (ag : Bool) : List AV → List (Nat × AV) → Option (List AV)
  | xs, [] => some xs
  | xs, (i, x) :: r => if x.shaped = true ∧ x.cells.length = z ∧ isAgg x = ag ∧ x.cells.all storable = true ∧ i < xs.length then setElems z ag (xs.set i (pub x)) r else none

def setElemsR (z : Nat) (ag : Bool) : List AV → List (Nat × AV) → Option (List AV)
  | xs, [] => some xs
  | xs, (i, x) :: r => if x.shaped = true ∧ x.cells.length = z ∧ isAgg x = ag ∧ x.cells.all storable = true ∧ i < xs.length then setElemsR z ag (xs.set i (pubR x)) r else none

def makeAV (z : Nat) (ag : Bool) (zs : List AV) (st : St) (l c : AV) : Option (AV × St) :=
  match natOf l, natOf c with
  | some l, some c => if l ≤ c ∧ c ≤ maxGrow then some (.rsl st.store.length 0 l c z ag, ⟨st.store ++ [(List.replicate c zs).flatten], st.tips⟩) else none
  | _, _ => none

/-- So many zeros are appended to nil. -/
def growAV (z : Nat) (ag : Bool) (zs : List AV) (st : St) (s n : AV) : Option (AV × St) :=
  match s with
  | .v (.slice none 0 0) => if natOf n = some 0 then none else makeAV z ag zs st n n
  | _ => none

def assertAV (t : TypeId) (zero : AV) (ok : Bool) : AV → Option AV
  | .ifc u y => if u = t then some (if ok then .tup [y, .v (.bool true)] else y) else if ok then some (.tup [zero, .v (.bool false)]) else none
  | .v .nilIface => if ok then some (.tup [zero, .v (.bool false)]) else none
  | _ => none

def withO (env : Env) (ps : List (Nat × Operand)) : List (Nat × AV) := ps.map fun (i, x) => (i, aval env x)
def withO2 (env : Env) (ps : List (Nat × Nat × Operand)) : List (Nat × Nat × AV) := ps.map fun (i, s, x) => (i, s, aval env x)

abbrev CallF := FuncId → List AV → St → Option (AV × St)

def fieldAV (o s : Nat) (ag : Bool) : AV → Option AV
  | .agg cs => readCells ag s o cs
  | _ => none

def indexVAV (n z : Nat) (ag : Bool) : AV → AV → Option AV
  | .agg cs, .v (.int _ i) => if 0 ≤ i ∧ i < n then readCells ag z (i.toNat * z) cs else none
  | _, _ => none

/-- A table of bytes. -/
def bytesAV (tab : List Nat) : AV := .agg (tab.map fun (b : Nat) => .v (.int .u8 (b : Int)))

def indexStrAV : AV → AV → Option AV
  | .v (.string s), .v (.int _ i) => if 0 ≤ i then (s[i.toNat]?).map fun b => .v (.int .u8 b.toNat) else none
  | _, _ => none

def lenStrAV : AV → Option AV
  | .v (.string s) => some (goI s.size)
  | _ => none

def sliceStrAV (x : AV) (lo hi : Option AV) : Option AV :=
  match x with
  | .v (.string s) =>
    match natOr 0 lo, natOr s.size hi with
    | some l, some h => if l ≤ h ∧ h ≤ s.size then some (.v (.string (s.extract l h))) else none
    | _, _ => none
  | _ => none

def byteAV (b : UInt8) : AV := .v (.int .u8 b.toNat)

def toBytesAV : AV → Option AV
  | .v (.string s) => some (.lst .any 1 (s.data.toList.map byteAV))
  | _ => none

def bytesL : List AV → Option (List UInt8)
  | [] => some []
  | .v (.int .u8 n) :: r =>
    match bytesL r with
    | some bs => some (UInt8.ofNat n.toNat :: bs)
    | none => none
  | _ => none

def toStrAV : AV → Option AV
  | .lst _ 1 xs =>
    match bytesL xs with
    | some bs => some (.v (.string ⟨bs.toArray⟩))
    | none => none
  | .v (.slice none 0 0) => some (.v (.string .empty))
  | _ => none

def capAV : AV → Option AV
  | .v (.slice none 0 0) => some (goI 0)
  | .lst .full _ xs => some (goI xs.length)
  | _ => none

/-- The operations whose value hangs on their operands alone. -/
def valAV (env : Env) : IK → Option AV
  | .move x => some (aval env x)
  | .pick c a b =>
    match aval env c with
    | .v (.bool c) => some (if c then aval env a else aval env b)
    | _ => none
  | .build zs ps =>
    match setParts zs (withO2 env ps) with
    | some cs => some (.agg cs)
    | none => none
  | .lit z ag zero n ps =>
    match setElems z ag (List.replicate n zero) (withO env ps) with
    | some xs => some (.lst .full z xs)
    | none => none
  | .bin op q x y => binAV op q (aval env x) (aval env y)
  | .not x =>
    match aval env x with
    | .v (.bool b) => some (.v (.bool !b))
    | _ => none
  | .neg x =>
    match aval env x with
    | .v (.int k n) => some (.v (.int k (k.wrap (0 - n))))
    | _ => none
  | .conv k x =>
    match aval env x with
    | .v (.int _ n) => some (.v (.int k (k.wrap n)))
    | _ => none
  | .nil x =>
    match aval env x with
    | .ptr l o => some (.ptr l o)
    | .eptr e o => some (.eptr e o)
    | _ => none
  | .iface t x => some (.ifc t (aval env x))
  | .assert t zero ok x => assertAV t zero ok (aval env x)
  | .func f a b => some (.fn f (avals env a) (avals env b))
  | .slice z x lo hi mx => sliceAV z (aval env x) (lo.map (aval env)) (hi.map (aval env)) (mx.map (aval env))
  | .slicea n z ag x lo hi mx => sliceaAV n z ag (aval env x) (lo.map (aval env)) (hi.map (aval env)) (mx.map (aval env))
  | .fieldAddr f x => fieldAddrAV f (aval env x)
  | .indexS z x i => indexSAV z (aval env x) (aval env i)
  | .indexA n z x i => indexAAV n z (aval env x) (aval env i)
  | .extract i x =>
    match aval env x with
    | .tup cs => cs[i]?
    | _ => none
  | .len x => lenAV (aval env x)
  | .cap x => capAV (aval env x)
  | .compl x =>
    match aval env x with
    | .v (.int k n) => binAV .xor none (.v (.int k (if k.signed then -1 else k.max))) (.v (.int k n))
    | _ => none
  | .min x y => minAV (aval env x) (aval env y)
  | .max x y => maxAV (aval env x) (aval env y)
  | .min3 x y z =>
    match minAV (aval env x) (aval env y) with
    | some a => minAV a (aval env z)
    | none => none
  | .field o s ag x => fieldAV o s ag (aval env x)
  | .indexV n z ag x i => indexVAV n z ag (aval env x) (aval env i)
  | .indexStr x i => indexStrAV (aval env x) (aval env i)
  | .lenStr x => lenStrAV (aval env x)
  | .sliceStr x lo hi => sliceStrAV (aval env x) (lo.map (aval env)) (hi.map (aval env))
  | .toBytes x => toBytesAV (aval env x)
  | .toStr x => toStrAV (aval env x)
  | .indexG _ n z tab i => indexAAV n z (.eptr (bytesAV tab) 0) (aval env i)
  | _ => none

def only (x : Option AV) (st : St) : Option (AV × St) :=
  match x with
  | some a => some (a, st)
  | none => none

mutual
/-- A callee's value, whose blocks are named anew, from n on. -/
def shV (n : Nat) : AV → AV
  | .any => .any
  | .v x => .v x
  | .ptr l o => .ptr (n + l) o
  | .eptr e o => .eptr e o
  | .lst _ z xs => .lst .any z xs
  | .rsl l o k c z a => .rsl (n + l) o k c z a
  | .obj m l => .obj m (n + l)
  | .fn f a b => .fn f (shVs n a) (shVs n b)
  | .ifc t x => .ifc t (shV n x)
  | .agg cs => .agg (shVs n cs)
  | .tup cs => .tup (shVs n cs)
def shVs (n : Nat) : List AV → List AV
  | [] => []
  | a :: r => shV n a :: shVs n r
end

def shStore (n : Nat) : List (List AV) → List (List AV)
  | [] => []
  | a :: r => shVs n a :: shStore n r

/-- What a callee has answered, when what it has laid is kept: a list that ends where its tip is keeps a tip. -/
def ownTop (st1 : St) : AV → Bool
  | .lst (.own t e) _ xs => st1.tips[t]? == some e && xs.length == e
  | _ => false
def keepR (n T : Nat) (st1 : St) (r : AV) : AV :=
  match r with
  | .lst (.own t e) z xs => if ownTop st1 (.lst (.own t e) z xs) = true then .lst (.own T e) z xs else .lst .any z xs
  | .lst .full z xs => .lst .full z xs
  | r => shV n r
def keepT (st1 : St) (r : AV) : List Nat :=
  match r with
  | .lst (.own t e) z xs => if ownTop st1 (.lst (.own t e) z xs) = true then [e] else []
  | _ => []

/-- What a callee has answered, when a slice that it has laid, and that fills what is seen of it, is written no more: a list with a tip. -/
def lockR (st1 : St) (r : AV) : AV × St :=
  match r with
  | .rsl l 0 n c z a =>
    match st1.store[l]? with
    | some (x :: cs) => if n * z ≤ (x :: cs).length ∧ (a = true ∨ z = 1) ∧ n = c then (.lst (.own 0 n) z (group a z n (pubs (x :: cs))), ⟨[], [n]⟩) else (r, st1)
    | _ => (r, st1)
  | r => (r, st1)

/-- Numbers and bools, which hang on no memory. -/
def plainR : AV → Bool
  | .v _ => true
  | .tup xs => xs.all fun | .v _ => true | _ => false
  | _ => false

/-- Does a pointer lead to none of the blocks that some slots lead to; to one of them? -/
def offB (env : Env) (ts : List Tmp) : AV → Bool
  | .ptr l _ => ts.all fun t => match env.get t with | .ptr l' _ => l' != l | _ => true
  | _ => false
def onB (env : Env) (ts : List Tmp) : AV → Bool
  | .ptr l _ => ts.any fun t => match env.get t with | .ptr l' _ => l' == l | _ => false
  | .eptr _ _ => true
  | _ => false

/-- Does a store lay what lies there? -/
def plainEq : AV → AV → Bool
  | .v (.int k n), .v (.int k' n') => decide (k = k' ∧ n = n')
  | .v (.bool a), .v (.bool b) => a == b
  | _, _ => false
def cellsAre : List AV → List AV → Bool
  | [], [] => true
  | a :: r, b :: s => plainEq a b && cellsAre r s
  | _, _ => false
def sameSt (st : St) : AV → AV → Bool
  | .ptr l o, x => match st.store[l]? with
    | some cs => cellsAre ((cs.drop o).take x.cells.length) x.cells
    | none => false
  | _, _ => false

/-- Is it a slice of the store? -/
def isRsl : AV → Bool
  | .rsl _ _ _ _ _ _ => true
  | _ => false

/-! Slices that are written no more: from here on they are lists. -/

mutual
/-- The slices of block l in it are lists; 'cs' is what lies there. -/
def frzV (l : Nat) (cs : List AV) : AV → AV
  | .rsl l' o n c z a => if l' = l ∧ o + n * z ≤ cs.length ∧ (a = true ∨ z = 1) ∧ n ≤ c then .lst .any z (group a z n (pubs (cs.drop o))) else .rsl l' o n c z a
  | .agg xs => .agg (frzVs l cs xs)
  | .tup xs => .tup (frzVs l cs xs)
  | .any => .any
  | .v x => .v x
  | .ptr l o => .ptr l o
  | .obj m l' => .obj m l'
  | .eptr e o => .eptr e o
  | .lst g z xs => .lst g z xs
  | .fn f a b => .fn f a b
  | .ifc t x => .ifc t x
def frzVs (l : Nat) (cs : List AV) : List AV → List AV
  | [] => []
  | a :: r => frzV l cs a :: frzVs l cs r
end

def frzEnv (l : Nat) (cs : List AV) : Env → Env
  | [] => []
  | (t, a) :: r => (t, frzV l cs a) :: frzEnv l cs r

def frzStore (l : Nat) (cs : List AV) : List (List AV) → List (List AV)
  | [] => []
  | a :: r => frzVs l cs a :: frzStore l cs r

def frzL (l : Nat) (env : Env) (st : St) : Env × St :=
  match st.store[l]? with
  | some (c :: cs) => (frzEnv l (c :: cs) env, ⟨(frzStore l (c :: cs) st.store).set l [], st.tips⟩)
  | _ => (env, st)

/-- The blocks of the slices in some values. -/
def rslsOf : List AV → List Nat
  | [] => []
  | .rsl l _ _ _ _ _ :: r => l :: rslsOf r
  | .agg xs :: r => (xs.filterMap fun | .rsl l _ _ _ _ _ => some l | _ => none) ++ rslsOf r
  | _ :: r => rslsOf r

def frzA (l : Nat) (st : St) (a : AV) : AV :=
  match st.store[l]? with
  | some (c :: cs) => frzV l (c :: cs) a
  | _ => a

/-- Arguments, and the state, when the slices of some blocks are lists. -/
def frzArgs : List Nat → List AV → St → List AV × St
  | [], xs, st => (xs, st)
  | l :: r, xs, st => frzArgs r (xs.map (frzA l st)) (frzL l [] st).2

def frzT (t : Tmp) (env : Env) (st : St) : List Nat :=
  match env.get t with
  | .ptr l _ => match st.store[l]? with
    | some cs => rslsOf cs
    | none => []
  | a => rslsOf [a]

def frzLs : List Nat → Env → St → Env × St
  | [], env, st => (env, st)
  | l :: r, env, st => frzLs r (frzL l env st).1 (frzL l env st).2

/-- A table of rows: the rows first. -/
def frzD (t : Tmp) (env : Env) (st : St) : List Nat :=
  match env.get t with
  | .rsl l _ _ _ _ _ => match st.store[l]? with
    | some cs => rslsOf cs ++ [l]
    | none => []
  | _ => []
def frzW (t : Tmp) (env : Env) (st : St) : List Nat := if t < 250000 then frzT t env st else frzD (t - 250000) env st

def frzAV : List Tmp → Env → St → Env × St
  | [], env, st => (env, st)
  | t :: r, env, st => frzAV r (frzLs (frzW t env st) env st).1 (frzLs (frzW t env st) env st).2

/-- A variable that is written no more: a slot that points to it points to what it holds. -/
def frzP1 (t : Tmp) (env : Env) (st : St) : Env × St :=
  match env.get t with
  | .ptr l o => match st.store[l]? with
    | some (c :: cs) => ((t, .eptr (.agg (pubs (c :: cs))) o) :: env, ⟨st.store.set l [], st.tips⟩)
    | _ => (env, st)
  | _ => (env, st)
def frzPs : List Tmp → Env → St → Env × St
  | [], env, st => (env, st)
  | t :: r, env, st => frzPs r (frzP1 t env st).1 (frzP1 t env st).2

/-- All cells of a slice are set to zero. -/
def clearAV (z : Nat) (zs : List AV) (st : St) : AV → Option St
  | .rsl l o n _ z' _ => if z' = z then (if n = 0 then some st else storeAV (n * z) st (.ptr l o) (.agg (List.replicate n zs).flatten)) else none
  | .v (.slice none _ _) => some st
  | _ => none

/-- The first elements of a slice are written over. -/
def copyAV (z : Nat) (st : St) (ys : List AV) : AV → Option (AV × St)
  | .rsl l o n _ z' _ =>
    if z' = z then
      match st.store[l]? with
      | some cs => if 0 < cs.length ∧ o + Nat.min ys.length n * z ≤ cs.length then some (goI (Nat.min ys.length n), ⟨st.store.set l (putCells cs o (flatAV (ys.take (Nat.min ys.length n)))), st.tips⟩) else if n = 0 then some (goI 0, st) else none
      | none => none
    else none
  | .v (.slice none 0 0) => some (goI 0, st)
  | _ => none

/-! Maps with integers for keys, and what a range over a string keeps: objects of the store. A map lies as a mark, then key and element in turn. -/

def mapHd : AV := .tup []

/-- The element of a key, and how many cells lie ahead of the key. -/
def findKV (k : IntKind) (i : Int) : List AV → Nat → Option (Option (Nat × AV))
  | [], _ => some none
  | .v (.int k' j) :: v :: r, n => if k = k' then (if i = j then some (some (n, v)) else findKV k i r (n + 2)) else none
  | _, _ => none

def mapCells (st : St) : AV → Option (Nat × List AV)
  | .obj true l => match st.store[l]? with
    | some (.tup [] :: kvs) => some (l, kvs)
    | _ => none
  | _ => none

def findIn (k : AV) (kvs : List AV) : Option (Option (Nat × AV)) :=
  match k with
  | .v (.int kk i) => findKV kk i kvs 0
  | _ => none

def mapPutAV (st : St) (m k x : AV) : Option St :=
  match mapCells st m with
  | some (l, kvs) =>
    if x.shaped = true then
      match findIn k kvs with
      | some (some (n, _)) => some ⟨st.store.set l (mapHd :: kvs.set (n + 1) (pub x)), st.tips⟩
      | some none => some ⟨st.store.set l (mapHd :: (kvs ++ [k, pub x])), st.tips⟩
      | none => none
    else none
  | none => none

def mapGetAV (zero : AV) (ok : Bool) (st : St) (m k : AV) : Option AV :=
  match mapCells st m with
  | some (_, kvs) =>
    match findIn k kvs with
    | some (some (_, v)) => some (if ok then .tup [v, .v (.bool true)] else v)
    | some none => some (if ok then .tup [zero, .v (.bool false)] else zero)
    | none => none
  | none => none

def mapDelAV (st : St) (m k : AV) : Option St :=
  match mapCells st m with
  | some (l, kvs) =>
    match findIn k kvs with
    | some (some (n, _)) => some ⟨st.store.set l (mapHd :: (kvs.take n ++ kvs.drop (n + 2))), st.tips⟩
    | some none => some st
    | none => none
  | none => none

def mapLenAV (st : St) (m : AV) : Option AV :=
  match mapCells st m with
  | some (_, kvs) => some (goI (kvs.length / 2))
  | none => none

def mapClearAV (st : St) (m : AV) : Option St :=
  match mapCells st m with
  | some (l, _) => some ⟨st.store.set l [mapHd], st.tips⟩
  | none => none

def iterAV (s : ByteArray) (pos : Nat) : AV := .tup [.v (.string s), .v (.int .i64 pos)]

def rangeAV (st : St) : AV → Option (AV × St)
  | .v (.string s) => some (.obj false st.store.length, ⟨st.store ++ [[iterAV s 0]], st.tips⟩)
  | _ => none

def nextAV (st : St) : AV → Option (AV × St)
  | .obj false l => match st.store[l]? with
    | some [.tup [.v (.string s), .v (.int .i64 pos)]] =>
      if 0 ≤ pos ∧ pos.toNat < s.size then
        some (.tup [.v (.bool true), .v (.int .i64 pos), .v (.int .i32 (Utf8.decode s pos.toNat).1)], ⟨st.store.set l [iterAV s (pos.toNat + (Utf8.decode s pos.toNat).2)], st.tips⟩)
      else if 0 ≤ pos then some (.tup [.v (.bool false)], st) else none
    | _ => none
  | _ => none

def findT (t : TypeId) : List (TypeId × FuncId) → Option FuncId
  | [] => none
  | (u, f) :: r => if u = t then some f else findT t r

section
variable (pure : FuncId → Bool) (call : CallF)

def opAV (env : Env) (st : St) : IK → Option (AV × St)
  | .alloc zs => some (.ptr st.store.length 0, ⟨st.store ++ [zs], st.tips⟩)
  | .box x => if (aval env x).shaped = true ∧ (aval env x).cells.all storable = true then some (.ptr st.store.length 0, ⟨st.store ++ [(aval env x).cells], st.tips⟩) else none
  | .load s ag a => only (loadAV s ag st (aval env a)) st
  | .store s a x =>
    match storeAV s st (aval env a) (aval env x) with
    | some st => some (.v (.tuple #[]), st)
    | none => none
  | .loadp ts s ag a => if onB env ts (aval env a) = true then only (loadAV s ag st (aval env a)) st else none
  | .storeq ts s a x =>
    if offB env ts (aval env a) = true ∨ sameSt st (aval env a) (aval env x) = true then
      match storeAV s st (aval env a) (aval env x) with
      | some st => some (.v (.tuple #[]), st)
      | none => none
    else none
  | .make z ag zs l c => makeAV z ag zs st (aval env l) (aval env c)
  | .grow z ag zs s n => growAV z ag zs st (aval env s) (aval env n)
  | .litm z ag zero n ps =>
    match setElemsR z ag (List.replicate n zero) (withO env ps) with
    | some xs => newM z ag xs st
    | none => none
  | .append z r s y =>
    if r = true ∨ isRsl (aval env y) = false then
      match elemsOf z st (aval env y) with
      | some ys => appendAV z (aval env s) ys st
      | none => none
    else none
  | .appendm z ag s y =>
    match elemsM z st (aval env y) with
    | some ys => appendmAV z ag (aval env s) ys st
    | none => none
  | .call p f args => if p = pure f then call f (avals env args) st else none
  | .callk f args =>
    if pure f = false then
      match call f (pubs (avals env args)) ⟨[], []⟩ with
      | some (r, st1) => some (keepR st.store.length st.tips.length st1 r, ⟨st.store ++ shStore st.store.length st1.store, st.tips ++ keepT st1 r⟩)
      | none => none
    else none
  | .calll f args =>
    if pure f = false then
      match call f (pubs (avals env args)) ⟨[], []⟩ with
      | some (r, st1) => some (keepR st.store.length st.tips.length (lockR st1 r).2 (lockR st1 r).1, ⟨st.store ++ shStore st.store.length (lockR st1 r).2.store, st.tips ++ keepT (lockR st1 r).2 (lockR st1 r).1⟩)
      | none => none
    else none
  | .callz f args =>
    if pure f = true then
      match call f (frzArgs (rslsOf (avals env args)) (avals env args) st).1 (frzArgs (rslsOf (avals env args)) (avals env args) st).2 with
      | some (r, st2) => if st2.tips = (frzArgs (rslsOf (avals env args)) (avals env args) st).2.tips then some (r, (frzArgs (rslsOf (avals env args)) (avals env args) st).2) else none
      | none => none
    else none
  | .callr f args =>
    if pure f = true then
      match call f (frzArgs (rslsOf (avals env args)) (avals env args) st).1 (frzArgs (rslsOf (avals env args)) (avals env args) st).2 with
      | some (r, st2) => if st2.tips = (frzArgs (rslsOf (avals env args)) (avals env args) st).2.tips ∧ plainR r = true then some (r, st) else none
      | none => none
    else none
  | .invoke tab x args =>
    match aval env x with
    | .ifc t y =>
      match findT t tab with
      | some f => if pure f = false then call f (y :: avals env args) st else none
      | none => none
    | _ => none
  | .clear z zs x =>
    match clearAV z zs st (aval env x) with
    | some st => some (.v (.tuple #[]), st)
    | none => none
  | .copy z x y =>
    match elemsOf z st (aval env y) with
    | some ys => copyAV z st ys (aval env x)
    | none => none
  | .callv p f args =>
    match aval env f with
    | .fn (.func f) first caps => if p = pure f then call f (first ++ avals env args ++ caps) st else none
    | _ => none
  | .range x => rangeAV st (aval env x)
  | .next x => nextAV st (aval env x)
  | .makeMap => some (.obj true st.store.length, ⟨st.store ++ [[mapHd]], st.tips⟩)
  | .mapPut m k x =>
    match mapPutAV st (aval env m) (aval env k) (aval env x) with
    | some st => some (.v (.tuple #[]), st)
    | none => none
  | .mapGet zero ok m k => only (mapGetAV zero ok st (aval env m) (aval env k)) st
  | .mapDel m k =>
    match mapDelAV st (aval env m) (aval env k) with
    | some st => some (.v (.tuple #[]), st)
    | none => none
  | .mapLen m => only (mapLenAV st (aval env m)) st
  | .mapClear m =>
    match mapClearAV st (aval env m) with
    | some st => some (.v (.tuple #[]), st)
    | none => none
  | k => only (valAV env k) st

def wantedAV (env : Env) : Option (Tmp × Bool) → Option Bool
  | none => some true
  | some (t, want) =>
    match env.get t with
    | .v (.bool b) => some (b == want)
    | .v _ => some false
    | _ => none

def setD (env : Env) (d : Option Tmp) (a : AV) : Env :=
  match d with
  | some d => (d, a) :: env
  | none => env

def opsAV : List IOp → Env → St → Option (Env × St)
  | [], env, st => some (env, st)
  | o :: r, env, st =>
    match wantedAV env o.g with
    | some true =>
      match opAV pure call env st o.k with
      | some (a, st) => opsAV r (setD env o.d a) st
      | none => none
    | some false => opsAV r (setD env o.d (.v (.tuple #[]))) st
    | none => none

inductive X where
  | normal
  | exit (id : Nat)
  | ret
  deriving DecidableEq

def canon (env : Env) : List Tmp → Env
  | [] => []
  | t :: r => (t, env.get t) :: canon env r

/-! At a loop's head: what was laid in the store since the loop began, and is named no more, is let go; the tips that are still held are numbered anew. -/

mutual
def okRef (n : Nat) : AV → Bool
  | .ptr l _ => decide (l < n)
  | .rsl l _ _ _ _ _ => decide (l < n)
  | .obj _ l => decide (l < n)
  | .fn _ a b => okRefs n a && okRefs n b
  | .ifc _ x => okRef n x
  | .agg cs => okRefs n cs
  | .tup cs => okRefs n cs
  | .any => true
  | .v _ => true
  | .eptr _ _ => true
  | .lst _ _ _ => true
def okRefs (n : Nat) : List AV → Bool
  | [] => true
  | a :: r => okRef n a && okRefs n r
end

def okEnv (n : Nat) : Env → Bool
  | [] => true
  | (_, a) :: r => okRef n a && okEnv n r

def okStore (n : Nat) : List (List AV) → Bool
  | [] => true
  | a :: r => okRefs n a && okStore n r

def cutSt (n : Nat) (env : Env) (st : St) : St :=
  if okEnv n env = true ∧ okStore n (st.store.take n) = true then ⟨st.store.take n, st.tips⟩ else st

/-- A value whose tip is numbered anew; 'acc': the tips that have been met, and how long what ends there is. -/
def ren1 (n : Nat) (tips : List Nat) (acc : List (Nat × Nat)) : AV → AV × List (Nat × Nat)
  | .lst (.own t e) z xs =>
    if t < n then (.lst (.own t e) z xs, acc)
    else if tips[t]? = some e ∧ acc.all (fun p => p.1 != t) = true then (.lst (.own (n + acc.length) xs.length) z xs, acc ++ [(t, xs.length)])
    else (.lst .any z xs, acc)
  | .lst .any z xs => (.lst .any z xs, acc)
  | .lst .full z xs => (.lst .full z xs, acc)
  | .v x => (.v x, acc)
  | .ptr l o => (.ptr l o, acc)
  | .rsl l o k c z a => (.rsl l o k c z a, acc)
  | .obj m l => (.obj m l, acc)
  | .eptr e o => (.eptr e o, acc)
  | .any => (.any, acc)
  | .fn f a b => (.fn f (untips a) (untips b), acc)
  | .ifc t x => (.ifc t (untip x), acc)
  | .agg cs => (.agg (untips cs), acc)
  | .tup cs => (.tup (untips cs), acc)

def renEnv (n : Nat) (tips : List Nat) : List (Nat × Nat) → Env → Env × List (Nat × Nat)
  | acc, [] => ([], acc)
  | acc, (t, a) :: r => ((t, (ren1 n tips acc a).1) :: (renEnv n tips (ren1 n tips acc a).2 r).1, (renEnv n tips (ren1 n tips acc a).2 r).2)

def renCells (n : Nat) (tips : List Nat) : List (Nat × Nat) → List AV → List AV × List (Nat × Nat)
  | acc, [] => ([], acc)
  | acc, a :: r => ((ren1 n tips acc a).1 :: (renCells n tips (ren1 n tips acc a).2 r).1, (renCells n tips (ren1 n tips acc a).2 r).2)

def renStore (n : Nat) (tips : List Nat) : List (Nat × Nat) → List (List AV) → List (List AV) × List (Nat × Nat)
  | acc, [] => ([], acc)
  | acc, a :: r => ((renCells n tips acc a).1 :: (renStore n tips (renCells n tips acc a).2 r).1, (renStore n tips (renCells n tips acc a).2 r).2)

def renAll (n : Nat) (env : Env) (st : St) : Env × St :=
  ((renEnv n st.tips [] env).1, ⟨(renStore n st.tips (renEnv n st.tips [] env).2 st.store).1, st.tips.take n ++ (renStore n st.tips (renEnv n st.tips [] env).2 st.store).2.map (·.2)⟩)

/-! Where it is asked for, what is laid in the store since the loop began is named anew, and what is named no more is let go. -/

mutual
def refsV (n : Nat) (acc : List Nat) : AV → List Nat
  | .ptr l _ => if l < n ∨ acc.contains l = true then acc else acc ++ [l]
  | .rsl l _ _ _ _ _ => if l < n ∨ acc.contains l = true then acc else acc ++ [l]
  | .obj _ l => if l < n ∨ acc.contains l = true then acc else acc ++ [l]
  | .fn _ a b => refsL n (refsL n acc a) b
  | .ifc _ x => refsV n acc x
  | .agg cs => refsL n acc cs
  | .tup cs => refsL n acc cs
  | .any => acc
  | .v _ => acc
  | .eptr _ _ => acc
  | .lst _ _ _ => acc
def refsL (n : Nat) (acc : List Nat) : List AV → List Nat
  | [] => acc
  | a :: r => refsL n (refsV n acc a) r
end
def refsEnv (n : Nat) (acc : List Nat) : Env → List Nat
  | [] => acc
  | (_, a) :: r => refsEnv n (refsV n acc a) r
def refsStore (n : Nat) (acc : List Nat) : List (List AV) → List Nat
  | [] => acc
  | a :: r => refsStore n (refsL n acc a) r
/-- What the named blocks name, too. -/
def refsAt (n : Nat) (st : St) : List Nat → List Nat → List Nat
  | acc, [] => acc
  | acc, l :: r => refsAt n st (refsL n acc ((st.store[l]?).getD [])) r

def posOf (l : Nat) : List Nat → Option Nat
  | [] => none
  | x :: r => if x = l then some 0 else (posOf l r).map (· + 1)
def newName (n : Nat) (M : List Nat) (l : Nat) : Option Nat := if l < n then some l else (posOf l M).map (n + ·)

mutual
def mapL (n : Nat) (M : List Nat) : AV → AV
  | .ptr l o => match newName n M l with
    | some l' => .ptr l' o
    | none => .any
  | .rsl l o k c z a => match newName n M l with
    | some l' => .rsl l' o k c z a
    | none => .any
  | .obj m l => match newName n M l with
    | some l' => .obj m l'
    | none => .any
  | .fn f a b => .fn f (mapLs n M a) (mapLs n M b)
  | .ifc t x => .ifc t (mapL n M x)
  | .agg cs => .agg (mapLs n M cs)
  | .tup cs => .tup (mapLs n M cs)
  | .any => .any
  | .v x => .v x
  | .eptr e o => .eptr e o
  | .lst g z xs => .lst g z xs
def mapLs (n : Nat) (M : List Nat) : List AV → List AV
  | [] => []
  | a :: r => mapL n M a :: mapLs n M r
end
def mapEnv (n : Nat) (M : List Nat) : Env → Env
  | [] => []
  | (t, a) :: r => (t, mapL n M a) :: mapEnv n M r
def mapStore (n : Nat) (M : List Nat) : List (List AV) → List (List AV)
  | [] => []
  | a :: r => mapLs n M a :: mapStore n M r
def pickStore (st : St) : List Nat → List (List AV)
  | [] => []
  | l :: r => (st.store[l]?).getD [] :: pickStore st r
def namesOk (n : Nat) : List Nat → Bool
  | [] => true
  | l :: r => decide (n ≤ l) && !r.contains l && namesOk n r

def compactW (n : Nat) (M : List Nat) (env : Env) (st : St) : Env × St :=
  if namesOk n M = true then (mapEnv n M env, ⟨mapStore n M (st.store.take n) ++ mapStore n M (pickStore st M), st.tips⟩) else (env, st)
def compact (n : Nat) (env : Env) (st : St) : Env × St :=
  compactW n (refsAt n st (refsStore n (refsEnv n [] env) (st.store.take n)) (refsStore n (refsEnv n [] env) (st.store.take n))) env st

def hasKey : Env → Bool
  | [] => false
  | (t, _) :: r => if t = 3000000 then true else hasKey r

def gcAV (gc : Bool) (l n : Nat) (env : Env) (st : St) : Env × St :=
  if gc then (if hasKey env = true then renAll n (compact l env st).1 (compact l env st).2 else renAll n env (cutSt l env st)) else (env, st)

/-! A region that is forgotten: its registers are, and the tips are as they were ahead of it; blocks that hold lists are hidden meanwhile. -/

mutual
def noL : AV → Bool
  | .lst _ _ _ => false
  | .eptr _ _ => false
  | .fn _ a b => noLs a && noLs b
  | .ifc _ x => noL x
  | .agg cs => noLs cs
  | .tup cs => noLs cs
  | .any => true
  | .v _ => true
  | .ptr _ _ => true
  | .obj _ _ => true
  | .rsl _ _ _ _ _ _ => true
def noLs : List AV → Bool
  | [] => true
  | a :: r => noL a && noLs r
end
def visB (cs : List AV) : Bool := !cs.isEmpty && noLs cs
def visN (st : St) (l : Nat) : Bool :=
  match st.store[l]? with
  | some cs => visB cs
  | none => false
mutual
def visR (st : St) : AV → Bool
  | .ptr l _ => visN st l
  | .rsl l _ _ _ _ _ => visN st l
  | .obj _ l => visN st l
  | .fn _ a b => visRs st a && visRs st b
  | .ifc _ x => visR st x
  | .agg cs => visRs st cs
  | .tup cs => visRs st cs
  | .any => true
  | .v _ => true
  | .lst _ _ _ => true
  | .eptr _ _ => true
def visRs (st : St) : List AV → Bool
  | [] => true
  | a :: r => visR st a && visRs st r
end
def hideV (st : St) (a : AV) : AV := if visR st a = true then a else .any
def hideEnv (st : St) : Env → Env
  | [] => []
  | (t, a) :: r => (t, hideV st a) :: hideEnv st r
def hideC (st : St) (cs : List AV) : List AV := if visB cs = true then cs.map (hideV st) else []
def hideSt (st : St) : St := ⟨st.store.map (hideC st), st.tips⟩
def mergeS : List (List AV) → List (List AV) → List (List AV)
  | [], ys => ys
  | _ :: _, [] => []
  | x :: xs, y :: ys => (if visB x = true then y else x) :: mergeS xs ys
def noLB : List (List AV) → Bool
  | [] => true
  | a :: r => noLs a && noLB r
def forgot : List IOp → Env → Env
  | [], env => env
  | o :: r, env => setD (forgot r env) o.d .any

abbrev Out := Option (X × Env × St)

abbrev LoopF := (Env → St → Out) → Env → St → Out

def codeAV (loop : LoopF) : IC → Env → St → Out
  | .skip, env, st => some (.normal, env, st)
  | .ops l, env, st =>
    match opsAV pure call l env st with
    | some (env, st) => some (.normal, env, st)
    | none => none
  | .frz ts, env, st => some (.normal, (frzAV ts env st).1, (frzAV ts env st).2)
  | .frzp ts, env, st => some (.normal, (frzPs ts env st).1, (frzPs ts env st).2)
  | .lost l, env, st =>
    match opsAV pure call l (hideEnv st env) (hideSt st) with
    | some (_, st1) => if noLB st1.store = true then some (.normal, forgot l env, ⟨mergeS st.store st1.store, st.tips⟩) else none
    | none => none
  | .seq a b, env, st =>
    match codeAV loop a env st with
    | some (.normal, env, st) => codeAV loop b env st
    | r => r
  | .cond c a b, env, st =>
    match aval env c with
    | .v (.bool t) => if t then codeAV loop a env st else codeAV loop b env st
    | _ => none
  | .block i a, env, st =>
    match codeAV loop a env st with
    | some (.exit j, env, st) => if j = i then some (.normal, env, st) else some (.exit j, env, st)
    | r => r
  | .loop gc ks a, env, st => loop (fun env' st' => codeAV loop a (gcAV gc st.store.length st.tips.length (canon env' ks) st').1 (gcAV gc st.store.length st.tips.length (canon env' ks) st').2) env st
  | .exit i, env, st => some (.exit i, env, st)
  | .ret, env, st => some (.ret, env, st)
end

def loopAV (body : Env → St → Out) : Nat → Env → St → Out
  | 0, _, _ => none
  | n + 1, env, st =>
    match body env st with
    | some (.normal, env, st) => loopAV body n env st
    | r => r

/-- A function: its code, and where its results lie: a slot, or a variable's slot with its size. -/
structure IF where
  code : IC
  res : List (Tmp × Option (Nat × Bool))
  deriving Inhabited

def resAV (env : Env) (st : St) : List (Tmp × Option (Nat × Bool)) → Option (List AV)
  | [] => some []
  | (t, none) :: r =>
    match resAV env st r with
    | some xs => some (env.get t :: xs)
    | none => none
  | (t, some (s, ag)) :: r =>
    match loadAV s ag st (env.get t), resAV env st r with
    | some x, some xs => some (x :: xs)
    | _, _ => none

def tupAV : List AV → AV
  | [x] => x
  | xs => .tup xs

def params : Nat → List AV → Env
  | _, [] => []
  | i, a :: r => (i, a) :: params (i + 1) r

mutual
def fin (st : St) : AV → AV
  | .rsl l o n c z a =>
    match st.store[l]? with
    | some cs => if o + n * z ≤ cs.length ∧ (a = true ∨ z = 1) ∧ n ≤ c then .lst .any z (group a z n (pubs (cs.drop o))) else .any
    | none => .any
  | .agg cs => .agg (fins st cs)
  | .tup cs => .tup (fins st cs)
  | .any => .any
  | .v x => .v x
  | .ptr _ _ => .any
  | .obj _ _ => .any
  | .eptr e o => .eptr e o
  | .lst _ z xs => .lst .any z xs
  | .fn f a b => .fn f (pubs a) (pubs b)
  | .ifc t x => .ifc t (pub x)
def fins (st : St) : List AV → List AV
  | [] => []
  | a :: r => fin st a :: fins st r
end

/-- What leaves a callee that was called with no state: no slice in it may be grown in place. -/
def leave (st1 : St) (st : St) (r : AV) : AV × St := (fin st1 r, st)

def bodyAV (pure : FuncId → Bool) (call : CallF) (loop : LoopF) (fn : IF) (args : List AV) (st : St) : Option (AV × St) :=
  match codeAV pure call loop fn.code (params 0 args) st with
  | some (.normal, env, st) =>
    match resAV env st fn.res with
    | some r => some (tupAV r, st)
    | none => none
  | some (.ret, env, st) =>
    match resAV env st fn.res with
    | some r => some (tupAV r, st)
    | none => none
  | _ => none

/-- The functions of a program, and which of them are called with no state. -/
structure Lib where
  fns : FuncId → Option IF
  pure : FuncId → Bool
  prim : FuncId → List AV → St → Option (AV × St) := fun _ _ _ => none

/-- A function that is not run as code, but by what is proved of it. -/
def primAV (L : Lib) (f : FuncId) (args : List AV) (st : St) : Option (AV × St) :=
  match L.prim f args st with
  | some (r, st') => if L.pure f = false ∧ st.store.length ≤ st'.store.length ∧ st.tips.length ≤ st'.tips.length then some (r, st') else none
  | none => none

def enterAV (L : Lib) (call : CallF) (loop : LoopF) (f : FuncId) (args : List AV) (st : St) : Option (AV × St) :=
  match L.fns f with
  | some fn =>
    if L.pure f then
      match bodyAV L.pure call loop fn (pubs args) ⟨[], []⟩ with
      | some (r, st1) => some (leave st1 st r)
      | none => none
    else bodyAV L.pure call loop fn args st
  | none => primAV L f args st

def callAV (L : Lib) : Nat → CallF
  | 0 => fun _ _ _ => none
  | n + 1 => enterAV L (callAV L n) (fun b => loopAV b n)

/-! ## From the elaborated code. -/

def plainT (P : Program) (t : TypeId) : Bool :=
  match P.underlying t with
  | some (.int _) => true
  | _ => false

def sizeT (P : Program) (t : TypeId) : Option Nat := (P.info? t).map (·.size)

def isAggT (P : Program) (t : TypeId) : Option Bool :=
  match P.underlying t with
  | some (.struct _) => some true
  | some (.array _ _) => some true
  | some _ => some false
  | none => none

def zeroT (P : Program) (t : TypeId) : Option Value := (P.info? t).bind (·.zero)

/-- What '==' at a type goes by: a slice against nil; a bool; cell by cell. -/
def eqT (P : Program) (t : TypeId) : Option Nat :=
  match P.underlying t with
  | some (.slice _) => some 0
  | some .bool => some 1
  | some (.array n e) => if plainT P e && sizeT P e == some 1 && P.eqGuardType P.depth t == false then some (n + 2) else none
  | some (.struct fs) => if fs.toList.zipIdx.all (fun (f, i) => f.name != "_" && plainT P f.type && f.offset == i) && !P.stoodInHeld t && P.eqGuardType P.depth t == false then some (fs.size + 2) else none
  | _ => none

def zcells (v : Value) : List AV := v.cells.toList.map .v

/-- A zero value that fits its type: its cells as many as the type has, its form as the type's. -/
def zeroOk (z : Nat) (ag : Bool) (v : Value) : Bool := v.cells.size == z && (v.cells.toList.map AV.v).all storable && (match v with | .agg _ => ag | _ => !ag)

/-- How a function is compiled: whether its appends lay slices that may be written, and which callees are called with no state although what they lay is kept. -/
abbrev Mode := Bool × List FuncId × Bool × (Nat → List Nat)

/-- The methods of a name that take pointers, by the types of these. -/
def methodOf? (P : Program) (name : String) (t : TypeId) : Option FuncId :=
  match P.underlying t, P.info? t with
  | some (.pointer _), some i =>
    match i.methods.find? (·.name == name) with
    | some m => if m.path.isEmpty = true then (match m.func with | some (f, true) => some f | _ => none) else none
    | none => none
  | _, _ => none
def invokeTab (P : Program) (name : String) : List (TypeId × FuncId) := (List.range P.types.size).filterMap fun t => (methodOf? P name t).map fun f => (t, f)

/-- Bytes; integers. -/
def plainB (P : Program) (e : TypeId) : Bool :=
  match P.underlying e with
  | some (.int .u8) => true
  | _ => false
def intT (P : Program) (e : TypeId) : Bool :=
  match P.underlying e with
  | some (.int _) => true
  | _ => false

def compOp (P : Program) (pure : FuncId → Bool) (pv rs : Bool) (mt : Mode) (o : Op) : Option IK :=
  match o with
  | .move x | .assign x => some (.move x)
  | .pick c a b => some (.pick c a b)
  | .alloc t => (zeroT P t).bind fun v => if (zcells v).all storable = true then some (.alloc (zcells v)) else none
  | .box _ x => some (.box x)
  | .build t ps =>
    match zeroT P t, P.underlying t with
    | some zero, some (.struct fs) =>
      if (zcells zero).all storable = true then
      if fs.all (fun (f : Field) => (sizeT P f.type).isSome) then
        (ps.toList.mapM fun (p : Nat × Operand) => (fs[p.1]?).bind fun (f : Field) => (sizeT P f.type).map fun s => (f.offset, s, p.2)).map (.build (zcells zero))
      else none
      else none
    | some zero, some (.array _ e) => if (zcells zero).all storable = true then (sizeT P e).map fun s => .build (zcells zero) (ps.toList.map fun (p : Nat × Operand) => (p.1 * s, s, p.2)) else none
    | _, _ => none
  | .buildSlice t n ps =>
    match P.underlying t with
    | some (.slice e) =>
      match sizeT P e, isAggT P e, zeroT P e with
      | some z, some ag, some zero => if zeroOk z ag zero && decide (n * z ≤ 2 ^ 20) && decide (0 < z) then some (if mt.1 && mt.2.1.contains 9000000 then .litm z ag (ofVal zero) n ps.toList else .lit z ag (ofVal zero) n ps.toList) else none
      | _, _, _ => none
    | _ => none
  | .load t a =>
    match sizeT P t, isAggT P t with
    | some s, some ag => some (.load s ag a)
    | _, _ => none
  | .store t a x => (sizeT P t).bind fun s => if 0 < s then some (.store s a x) else none
  | .nilCheck x => some (.nil x)
  | .binOp op t x y _ => some (.bin op (eqT P t) x y)
  | .unOp .not _ x => some (.not x)
  | .unOp .neg _ x => some (.neg x)
  | .unOp .xor _ x => some (.compl x)
  | .convert s d x =>
    match P.underlying s, P.underlying d with
    | some _, some (.int k) => some (.conv k x)
    | some .string, some (.slice e) => if plainB P e = true then some (.toBytes x) else none
    | some (.slice e), some .string => if plainB P e = true then some (.toStr x) else none
    | _, _ => none
  | .range t x => match P.underlying t with
    | some .string => some (.range x)
    | _ => none
  | .next x str => if str = true then some (.next x) else none
  | .makeMap t none => match P.underlying t with
    | some (.map k _) => if intT P k = true then some .makeMap else none
    | _ => none
  | .mapUpdate t m k x => match P.underlying t with
    | some (.map kt _) => if intT P kt = true then some (.mapPut m k x) else none
    | _ => none
  | .lookup t m k ok => match P.underlying t with
    | some (.map kt e) => if intT P kt = true then (zeroT P e).map fun z => .mapGet (ofVal z) ok m k else none
    | _ => none
  | .makeInterface t x =>
    match P.underlying t with
    | some (.interface _) => none
    | some _ => some (.iface t x)
    | none => none
  | .makeFunc f a b => some (.func f a.toList b.toList)
  | .makeSlice t l c =>
    match P.underlying t with
    | some (.slice e) =>
      match P.info? e, isAggT P e, zeroT P e with
      | some i, some ag, some zero => if zeroOk i.size ag zero && decide (i.bytes ≤ 2 ^ 12) && decide (0 < i.size) then some (.make i.size ag (zcells zero) l c) else none
      | _, _, _ => none
    | _ => none
  | .slice t x lo hi mx =>
    match P.underlying t with
    | some (.slice e) => (sizeT P e).map fun z => .slice z x lo hi mx
    | some (.array n e) =>
      match sizeT P e, isAggT P e with
      | some z, some ag => some (.slicea n z ag x lo hi mx)
      | _, _ => none
    | some .string => match mx with
      | none => some (.sliceStr x lo hi)
      | some _ => none
    | _ => none
  | .fieldAddr t x f =>
    match P.underlying t with
    | some (.struct fs) =>
      match fs[f]? with
      | some f => if (sizeT P f.type).any (0 < ·) then some (.fieldAddr f.offset x) else none
      | none => none
    | _ => none
  | .field t x f =>
    match P.underlying t with
    | some (.struct fs) =>
      match fs[f]? with
      | some f =>
        match sizeT P f.type, isAggT P f.type with
        | some s, some ag => some (.field f.offset s ag x)
        | _, _ => none
      | none => none
    | _ => none
  | .indexAddr t x i =>
    match P.underlying t with
    | some (.slice e) => (sizeT P e).map fun z => .indexS z x i
    | some (.array n e) =>
      match x with
      | .global g => (sizeT P e).bind fun z => if mt.2.2.2 g ≠ [] then some (.indexG g n z (mt.2.2.2 g) i) else none
      | x => (sizeT P e).map fun z => .indexA n z x i
    | _ => none
  | .index t x i =>
    match P.underlying t with
    | some (.array n e) =>
      match sizeT P e, isAggT P e with
      | some z, some ag => some (.indexV n z ag x i)
      | _, _ => none
    | some .string => some (.indexStr x i)
    | _ => none
  | .typeAssert x _ t ok =>
    match P.underlying t with
    | some (.interface _) => none
    | some _ => (zeroT P t).map fun z => .assert t (ofVal z) ok x
    | none => none
  | .extract x i => some (.extract i x)
  | .panic _ => some .die
  | .call c =>
    match c.callee, c.args.toList with
    | .builtin .len, [x] =>
      match (c.argTypes[0]?).bind P.underlying with
      | some (.slice _) => some (.len x)
      | some .string => some (.lenStr x)
      | some (.map _ _) => some (.mapLen x)
      | _ => none
    | .builtin .delete, [x, k] =>
      match (c.argTypes[0]?).bind P.underlying with
      | some (.map kt _) => if intT P kt = true then some (.mapDel x k) else none
      | _ => none
    | .builtin .cap, [x] =>
      match (c.argTypes[0]?).bind P.underlying with
      | some (.slice _) => some (.cap x)
      | _ => none
    | .builtin .clear, [x] =>
      match (c.argTypes[0]?).bind P.underlying with
      | some (.slice e) =>
        match P.info? e, isAggT P e, zeroT P e with
        | some i, some ag, some zero => if zeroOk i.size ag zero && decide (0 < i.size) then some (.clear i.size (zcells zero) x) else none
        | _, _, _ => none
      | some (.map _ _) => some (.mapClear x)
      | _ => none
    | .builtin .copy, [x, y] =>
      match (c.argTypes[0]?).bind P.underlying with
      | some (.slice e) => (sizeT P e).bind fun z => if 0 < z then some (.copy z x y) else none
      | _ => none
    | .invoke x name, args => some (.invoke (invokeTab P name) x args)
    | .builtin .min, [x, y] => some (.min x y)
    | .builtin .max, [x, y] => some (.max x y)
    | .builtin .min, [x, y, z] => some (.min3 x y z)
    | .builtin .append, [x, y] =>
      match (c.argTypes[0]?).bind P.underlying, c.argTypes[1]? with
      | some (.slice e), some u =>
        match P.info? e, isAggT P e, zeroT P e, P.underlying u with
        | some i, some ag, some zero, some (.slice _) => if zeroOk i.size ag zero && decide (i.bytes ≤ 2 ^ 12) && decide (0 < i.size) then some (if mt.1 then .appendm i.size ag x y else .append i.size rs x y) else none
        | some i, some ag, some zero, some (.int _) => if mt.1 && zeroOk i.size ag zero && decide (i.bytes ≤ 2 ^ 12) && decide (0 < i.size) then some (.grow i.size ag (zcells zero) x y) else none
        | _, _, _, _ => none
      | _, _ => none
    | .value (.func f), args => some (if mt.2.1.contains f then (if pure f then .callz f args else .callk f args) else if mt.2.1.contains (f + 1000000) && !pure f then .calll f args else if mt.2.1.contains (f + 2000000) && pure f then .callr f args else .call (pure f) f args)
    | .value f, args => some (.callv pv f args)
    | _, _ => none
  | _ => none

/-- Which parts of the state an operation reads or lays anew, and which it turns: 1 the store, 2 the tips. -/
def uses : IK → Nat
  | .alloc _ | .box _ | .load _ _ _ | .make _ _ _ _ _ | .grow _ _ _ _ _ | .store _ _ _ | .storeq _ _ _ _ => 1
  | .append _ r _ _ => if r then 3 else 2
  | .appendm _ _ _ _ | .clear _ _ _ | .copy _ _ _ => 1
  | .litm _ _ _ _ _ => 1
  | .range _ | .next _ | .makeMap | .mapPut _ _ _ | .mapGet _ _ _ _ | .mapDel _ _ | .mapLen _ | .mapClear _ => 1
  | .callz _ _ | .callr _ _ | .invoke _ _ _ => 3
  | .call p _ _ => if p then 2 else 3
  | .callv p _ _ => if p then 2 else 3
  | .callk _ _ | .calll _ _ => 3
  | _ => 0

def turns : IK → Nat
  | .store _ _ _ => 1
  | .storeq _ _ _ _ => 1
  | .append _ _ _ _ => 2
  | .appendm _ _ _ _ | .clear _ _ _ | .copy _ _ _ => 1
  | .next _ | .mapPut _ _ _ | .mapDel _ _ | .mapClear _ => 1
  | .callz _ _ | .callr _ _ | .invoke _ _ _ => 3
  | .call p _ _ => if p then 0 else 3
  | .callv p _ _ => if p then 0 else 3
  | _ => 0

def compIOp (P : Program) (pure : FuncId → Bool) (pv rs : Bool) (mt : Mode) (nt : Nat) (ops : Array Oper) (o : Oper) : Option IOp :=
  match compOp P pure pv rs mt o.op with
  | some k =>
    if o.dst.all (· < nt) then
      match o.guard with
      | none => some ⟨o.dst, none, k⟩
      | some (j, want) =>
        match (ops[j]?).bind (·.dst) with
        | some t => some ⟨o.dst, some (t, want), k⟩
        | none => none
    else none
  | none => none

def opds : Operand → List Tmp
  | .tmp t => [t]
  | _ => []

def opdsO : Option Operand → List Tmp
  | some x => opds x
  | none => []

def opdsL : List Operand → List Tmp
  | [] => []
  | x :: r => opds x ++ opdsL r

/-- The slots that an operation looks at. -/
def ikOps : IK → List Tmp
  | .move x | .box x | .load _ _ x | .not x | .neg x | .compl x | .conv _ x | .nil x | .iface _ x | .assert _ _ _ x | .fieldAddr _ x | .extract _ x | .len x | .field _ _ _ x | .indexG _ _ _ _ x | .clear _ _ x | .cap x | .lenStr x | .toBytes x | .toStr x | .range x | .next x | .mapLen x | .mapClear x => opds x
  | .pick c a b | .min3 c a b => opds c ++ opds a ++ opds b
  | .alloc _ | .die | .makeMap => []
  | .mapPut m k x => opds m ++ opds k ++ opds x
  | .sliceStr x lo hi => opds x ++ opdsO lo ++ opdsO hi
  | .loadp ts _ _ a => opds a ++ ts
  | .storeq ts _ a x => opds a ++ opds x ++ ts
  | .build _ ps => opdsL (ps.map (·.2.2))
  | .lit _ _ _ _ ps => opdsL (ps.map (·.2))
  | .litm _ _ _ _ ps => opdsL (ps.map (·.2))
  | .store _ a x | .bin _ _ a x | .make _ _ _ a x | .grow _ _ _ a x | .indexS _ a x | .indexA _ _ a x | .min a x | .max a x | .append _ _ a x | .appendm _ _ a x | .indexV _ _ _ a x | .indexStr a x | .copy _ a x | .mapGet _ _ a x | .mapDel a x => opds a ++ opds x
  | .func _ a b => opdsL a ++ opdsL b
  | .slice _ x lo hi mx | .slicea _ _ _ x lo hi mx => opds x ++ opdsO lo ++ opdsO hi ++ opdsO mx
  | .call _ _ args | .callk _ args | .calll _ args | .callz _ args | .callr _ args => opdsL args
  | .callv _ f args | .invoke _ f args => opds f ++ opdsL args

def looks (o : IOp) : List Tmp := (match o.g with | some (t, _) => [t] | none => []) ++ ikOps o.k

/-- Two operations, 'a' the earlier one in the text, that must not change places. -/
def conf (a b : IOp) : Bool :=
  !((turns a.k &&& uses b.k == 0) && (turns b.k &&& uses a.k == 0) && a.d.all (fun d => !(looks b).contains d && b.d != some d) && b.d.all (fun d => !(looks a).contains d))

/-- Whatever order the edges allow comes to the same: of two operations that must not change places the later one waits for the earlier one. -/
def orderOk (ops : Array Oper) (ks : List IOp) : Bool :=
  let b := Region.before ops
  (List.range ops.size).all fun j =>
    ((ops[j]?).map fun o => o.after.all fun e => !Region.binds .any e || decide (e.on < j)).getD false &&
    (List.range j).all fun i =>
      match ks[i]?, ks[j]? with
      | some ki, some kj => (b.getD j 0).testBit i || !conf ki kj
      | _, _ => false

def compRegion (P : Program) (pure : FuncId → Bool) (mt : Mode) (nt : Nat) (ops : Array Oper) (draw : Bool) : Option (List IOp) :=
  match draw with
  | false => ops.toList.mapM (compIOp P pure mt.2.2.1 true mt nt ops)
  | true =>
    match ops.toList.mapM (compIOp P pure mt.2.2.1 false mt nt ops) with
    | some l => if orderOk ops l then some l else
      match ops.toList.mapM (compIOp P pure true false mt nt ops) with
      | some l => if orderOk ops l then some l else none
      | none => none
    | none => none

/-- The operations whose value hangs on their operands alone. -/
def isVal : IK → Bool
  | .alloc _ | .box _ | .load _ _ _ | .store _ _ _ | .make _ _ _ _ _ | .grow _ _ _ _ _ | .litm _ _ _ _ _ | .append _ _ _ _ | .appendm _ _ _ _ | .call _ _ _ | .callv _ _ _ | .callk _ _ | .calll _ _ | .loadp _ _ _ _ | .storeq _ _ _ _ | .callz _ _ | .callr _ _ | .invoke _ _ _ | .clear _ _ _ | .copy _ _ _ | .range _ | .next _ | .makeMap | .mapPut _ _ _ | .mapGet _ _ _ _ | .mapDel _ _ | .mapLen _ | .mapClear _ => false
  | _ => true

/-- Loads from blocks that some slots lead to and that the region's stores leave alone may change places with these. -/
def protOp (ts : List Tmp) (l : List IOp) (o : IOp) : IOp :=
  match o.k with
  | .load s ag (.tmp t) =>
    if ts.contains t || l.any fun o' => o'.d == some t && (match o'.k with | .indexA _ _ (.tmp r) _ => ts.contains r | .fieldAddr _ (.tmp r) => ts.contains r | .indexS _ _ _ => ts.contains 999999 | _ => false) then ⟨o.d, o.g, .loadp ts s ag (.tmp t)⟩ else o
  | .store s a x => ⟨o.d, o.g, .storeq ts s a x⟩
  | _ => o

def qOk (ts : List Tmp) (ks : List IOp) : Bool := ks.all fun o =>
  (match o.k with
  | .storeq ts' _ _ _ => ts' == ts
  | .loadp ts' _ _ _ => ts' == ts
  | .load _ _ _ => true
  | k => isVal k) && o.d.all fun d => !ts.contains d

def compRegionQ (P : Program) (pure : FuncId → Bool) (mt : Mode) (nt : Nat) (ts : List Tmp) (ops : Array Oper) (draw : Bool) : Option (List IOp) :=
  match ts with
  | [] => compRegion P pure mt nt ops draw
  | ts =>
    match ops.toList.mapM (compIOp P pure mt.2.2.1 false mt nt ops) with
    | some l => if qOk ts (l.map (protOp ts l)) = true ∧ orderOk ops (l.map (protOp ts l)) = true then some (l.map (protOp ts l)) else none
    | none => none

/-- Where 'keep' tells that a function's appends lay slices that may be written, and which slices are written no more from a region on. -/
def mutKey : Nat := 2000000
def mutRKey : Nat := 1700000
def frzKey : Nat := 1000000
def keptKey : Nat := 2000001
def pvKey : Nat := 2000002
def gcKey : Nat := 2000003
def glKey : Nat := 4000000
def qKey : Nat := 3000000
def scKey : Nat := 1500000
def kept (l : List (Nat × List Nat)) (b : Nat) : List Tmp := match l.find? (fun x => x.1 == b) with | some x => x.2 | none => []

/-! Gotos: 'goto l' is an exit with a number of its own; a scope with two labels is a loop: from the first label on, a goto to the second label runs what is behind that one. -/
def gKey : Nat := 7000000
def doneK : Nat := 14000000
def hasGoto : Code → Bool
  | .goto _ => true
  | .seq a b => hasGoto a || hasGoto b
  | .cond _ a b => hasGoto a || hasGoto b
  | .rangeFunc _ _ a b => hasGoto a || hasGoto b
  | .block _ c => hasGoto c
  | .loop c => hasGoto c
  | .scope c => hasGoto c
  | _ => false
def spine : Code → List Nat
  | .seq a b => spine a ++ spine b
  | .label l => [l]
  | _ => []
/-- What lies ahead of a label, and behind it. -/
def splitIC : Code → IC → Nat → Option (IC × IC)
  | .seq a b, .seq ia ib, l =>
    match splitIC a ia l with
    | some (p, q) => some (p, .seq q ib)
    | none =>
      match splitIC b ib l with
      | some (p, q) => some (.seq ia p, q)
      | none => none
  | .label l', .skip, l => if l' = l then some (.skip, .skip) else none
  | _, _, _ => none
def die1 : IC := .ops [⟨none, none, .die⟩]
def scIC (gc : Bool) (ks : List Tmp) (l1 l0 : Nat) (ia iq1 iq0 : IC) : IC :=
  .block doneK (.seq (.block (gKey + l0) (.seq (.block (gKey + l1) (.seq ia (.loop gc ks (.block (gKey + l1) (.seq (.block (gKey + l0) (.seq iq1 (.exit doneK))) (.seq iq0 (.exit doneK))))))) die1)) die1)
def scopeIC (gc : Bool) (keep : Nat → List Tmp) (x : Code) (ix : IC) : Option IC :=
  match spine x with
  | [l1, l0] =>
    match splitIC x ix l1, splitIC x ix l0 with
    | some (ia, iq1), some (_, iq0) => if l1 ≠ l0 ∧ l1 < gKey ∧ l0 < gKey then some (scIC gc (keep (2100000 + l1)) l1 l0 ia iq1 iq0) else none
    | _, _ => none
  | _ => none

def compC (P : Program) (pure : FuncId → Bool) (keep : Nat → List Tmp) (gc : Bool) (nt : Nat) : Nat → Code → Option IC
  | _, .skip => some .skip
  | _, .region id ops draw => (compRegionQ P pure (!(keep mutKey).isEmpty || !(keep (mutRKey + id)).isEmpty, keep keptKey, !(keep pvKey).isEmpty, fun g => keep (glKey + g)) nt (keep (qKey + id)) ops draw).map fun l => match keep (frzKey + id) with
    | [] => if (keep (scKey + id)).isEmpty then .ops l else .lost l
    | ts => if ts.headD 0 < 500000 then .seq (.frz ts) (.ops l) else if ts.headD 0 < 900000 then .seq (.frzp (ts.map (· - 500000))) (.ops l) else .seq (.frz (ts.map (· - 1000000))) (.seq (.frzp (ts.map (· - 1000000))) (.ops l))
  | b, .seq x y =>
    match compC P pure keep gc nt b x, compC P pure keep gc nt b y with
    | some x, some y => some (.seq x y)
    | _, _ => none
  | b, .cond c x y =>
    match compC P pure keep gc nt b x, compC P pure keep gc nt b y with
    | some x, some y => some (.cond c x y)
    | _, _ => none
  | _, .block i x => if i < gKey then (compC P pure keep gc nt i x).map (.block i) else none
  | b, .loop x => (compC P pure keep gc nt b x).map (.loop gc (keep b))
  | b, .scope x =>
    match compC P pure keep gc nt b x with
    | some ix => if hasGoto x = true then scopeIC gc keep x ix else some ix
    | none => none
  | _, .label _ => some .skip
  | _, .exit i => if i < gKey then some (.exit i) else none
  | _, .goto l => if l < gKey then some (.exit (gKey + l)) else none
  | _, .ret => some .ret
  | _, _ => none

def compRes (P : Program) : ResultVar → Option (Tmp × Option (Nat × Bool))
  | .tmp t => some (t, none)
  | .cell a t =>
    match sizeT P t, isAggT P t with
    | some s, some ag => some (a, some (s, ag))
    | _, _ => none

def compF (P : Program) (pure : FuncId → Bool) (keep : Nat → List Tmp) (f : FuncId) : Option IF :=
  match P.funcs[f]? with
  | some fn =>
    match fn.body with
    | some c =>
      match compC P pure keep (pure f || !(keep gcKey).isEmpty) fn.ntmps 0 c, fn.results.toList.mapM (compRes P) with
      | some c, some r => if fn.name == "runtime.NumGoroutine" then none else some ⟨c, r⟩
      | _, _ => none
    | none => none
  | none => none
end Go.Ev

namespace Go.Ev

/-- Where the names of the store and the tips lie, and how far each tip has come. -/
structure Kx where
  lm : Nat → Option Nat
  tk : Nat → Option Nat
  T : List Nat

def Kx.nil : Kx := ⟨fun _ => none, fun _ => none, []⟩

abbrev Us := Nat → Option Nat

def CellsAt (w : World) (c p : Nat) (vs : List Value) : Prop := ∀ i (h : i < vs.length), w.cell? ⟨c, p + i, none⟩ = some vs[i]

def Tagged (us : Us) (w : World) (K : Kx) (g : Tag) (c p n cap z : Nat) : Prop :=
  match g with
  | .any => True
  | .full => cap = n
  | .own t e => ∃ m, K.T[t]? = some m ∧ e ≤ m ∧ (e = m → p = 0 ∧ K.tk t = some c ∧ us c = some (n * z) ∧ n ≤ cap ∧ ∃ cur ty, w.heap[c]? = some (.cells cur ty (0, 0)) ∧ cap * z ≤ cur.size)

def flat (xs : List AV) : List AV := xs.flatMap AV.cells

/-- How many cells a block has. -/
def SizeAt (w : World) (c n : Nat) : Prop := ∃ cur ty, w.heap[c]? = some (.cells cur ty (0, 0)) ∧ cur.size = n

/-- How an object is named by a value: a map; what a range over a string keeps. -/
def objV (m : Bool) (c : Nat) : Value := bif m then .map (some c) else .pointer (some ⟨c, 0, none⟩)

/-- What a value of the evaluator's is in memory. -/
inductive Rel (us : Us) (w : World) : Kx → AV → Value → Prop
  | any (K x) : Rel us w K .any x
  | v (K x) (h : plainV x = true) : Rel us w K (.v x) x
  | ptr (K l o c) (h : K.lm l = some c) (hs : ∃ n, SizeAt w c n) : Rel us w K (.ptr l o) (.pointer (some ⟨c, o, none⟩))
  | eptr (K e o c p n) (vs : List Value) (hu : us c = some n) (hn : p + vs.length ≤ n) (hc : CellsAt w c p vs) (h1 : ∀ x ∈ vs, x.oneCell' = true)
      (hl : e.cells.length = vs.length) (hr : ∀ i (h : i < e.cells.length) (h' : i < vs.length), Rel us w .nil e.cells[i] vs[i]) :
      Rel us w K (.eptr e o) (.pointer (some ⟨c, p + o, none⟩))
  | lst (K g z xs c p n cap) (vs : List Value) (hu : us c = some n) (hn : p + vs.length ≤ n) (hc : CellsAt w c p vs) (h1 : ∀ x ∈ vs, x.oneCell' = true)
      (hz : ∀ x ∈ xs, x.cells.length = z) (hcap : xs.length ≤ cap) (hl : (flat xs).length = vs.length)
      (hr : ∀ i (h : i < (flat xs).length) (h' : i < vs.length), Rel us w .nil (flat xs)[i] vs[i])
      (ht : Tagged us w K g c p xs.length cap z) : Rel us w K (.lst g z xs) (.slice (some ⟨c, p, none⟩) xs.length cap)
  | rsl (K l o n c z a b cap) (h : K.lm l = some b) (hs : ∃ n, SizeAt w b n) (hx : cap = c ∨ (c ≤ cap ∧ ∃ m, SizeAt w b m ∧ o + cap * z ≤ m)) : Rel us w K (.rsl l o n c z a) (.slice (some ⟨b, o, none⟩) n cap)
  | obj (K m l c) (h : K.lm l = some c) : Rel us w K (.obj m l) (objV m c)
  | fn (K f a b) (va vb : List Value) (ha : a.length = va.length) (hb : b.length = vb.length)
      (hra : ∀ i (h : i < a.length) (h' : i < va.length), Rel us w K a[i] va[i])
      (hrb : ∀ i (h : i < b.length) (h' : i < vb.length), Rel us w K b[i] vb[i]) : Rel us w K (.fn f a b) (.func f va.toArray vb.toArray)
  | ifc (K t a x) (h : Rel us w K a x) : Rel us w K (.ifc t a) (.iface t x)
  | agg (K cs) (vs : List Value) (hl : cs.length = vs.length) (hr : ∀ i (h : i < cs.length) (h' : i < vs.length), Rel us w K cs[i] vs[i]) :
      Rel us w K (.agg cs) (.agg vs.toArray)
  | tup (K cs) (vs : List Value) (hl : cs.length = vs.length) (hr : ∀ i (h : i < cs.length) (h' : i < vs.length), Rel us w K cs[i] vs[i]) :
      Rel us w K (.tup cs) (.tuple vs.toArray)

structure Rels (us : Us) (w : World) (K : Kx) (as : List AV) (vs : List Value) : Prop where
  len : as.length = vs.length
  rel : ∀ i (h : i < as.length) (h' : i < vs.length), Rel us w K as[i] vs[i]

theorem Rels.nil {us w K} : Rels us w K [] [] := ⟨rfl, fun i h _ => absurd h (by simp)⟩

theorem Rels.cons {us w K a x as vs} (h : Rel us w K a x) (hs : Rels us w K as vs) : Rels us w K (a :: as) (x :: vs) := by
  refine ⟨by simp [hs.len], fun i h1 h2 => ?_⟩
  cases i with
  | zero => simpa using h
  | succ i => simpa using hs.rel i (by simpa using h1) (by simpa using h2)

theorem Rels.cons_inv {us w K a as vs} (hs : Rels us w K (a :: as) vs) : ∃ x r, vs = x :: r ∧ Rel us w K a x ∧ Rels us w K as r := by
  cases vs with
  | nil => exact absurd hs.len (by simp)
  | cons x r =>
    refine ⟨x, r, rfl, hs.rel 0 (by simp) (by simp), ⟨by simpa using hs.len, fun i h h' => ?_⟩⟩
    have := hs.rel (i + 1) (by simpa using h) (by simpa using h')
    simp only [List.getElem_cons_succ] at this
    exact this

theorem Rels.nil_inv {us w K vs} (hs : Rels us w K [] vs) : vs = [] := List.eq_nil_of_length_eq_zero hs.len.symm

theorem Rels.append {us w K as vs bs us'} (h : Rels us w K as vs) (h' : Rels us w K bs us') : Rels us w K (as ++ bs) (vs ++ us') := by
  induction as generalizing vs with
  | nil => rw [h.nil_inv]; simpa using h'
  | cons a r ih =>
    obtain ⟨x, r', rfl, h1, h2⟩ := h.cons_inv
    exact .cons h1 (ih h2)

theorem Rels.take {us w K as vs} (h : Rels us w K as vs) (n : Nat) : Rels us w K (as.take n) (vs.take n) :=
  ⟨by simp [h.len], fun i h1 h2 => by simpa using h.rel i (by simp at h1; omega) (by simp at h2; omega)⟩

theorem Rels.drop {us w K as vs} (h : Rels us w K as vs) (n : Nat) : Rels us w K (as.drop n) (vs.drop n) :=
  ⟨by simp [h.len], fun i h1 h2 => by simpa using h.rel (n + i) (by simp at h1; omega) (by simp at h2; omega)⟩

theorem Rels.get {us w K as vs} (h : Rels us w K as vs) {i : Nat} {a : AV} (ha : as[i]? = some a) : ∃ x, vs[i]? = some x ∧ Rel us w K a x := by
  obtain ⟨hi, rfl⟩ := List.getElem?_eq_some_iff.1 ha
  have hi' : i < vs.length := by rw [← h.len]; exact hi
  exact ⟨vs[i], List.getElem?_eq_getElem hi', h.rel i hi hi'⟩

theorem Rels.set {us w K as vs} (h : Rels us w K as vs) (i : Nat) {a x} (ha : Rel us w K a x) : Rels us w K (as.set i a) (vs.set i x) := by
  refine ⟨by simp [h.len], fun j h1 h2 => ?_⟩
  simp only [List.getElem_set]
  split
  · exact ha
  · exact h.rel j (by simpa using h1) (by simpa using h2)

theorem Rels.mk' {us w K as} {vs : List Value} (hl : as.length = vs.length) (hr : ∀ i (h : i < as.length) (h' : i < vs.length), Rel us w K as[i] vs[i]) : Rels us w K as vs := ⟨hl, hr⟩

/-! ## What is kept -/

def UsLe (us : Us) (w : World) (us' : Us) (w' : World) : Prop :=
  ∀ c n, us c = some n → ∃ n', us' c = some n' ∧ n ≤ n' ∧ ∀ i, i < n → w'.cell? ⟨c, i, none⟩ = w.cell? ⟨c, i, none⟩

structure KLe (us : Us) (w : World) (K : Kx) (us' : Us) (w' : World) (K' : Kx) : Prop where
  lm : ∀ l c, K.lm l = some c → K'.lm l = some c ∧ ∀ n, SizeAt w c n → SizeAt w' c n
  T : ∀ t m, K.T[t]? = some m → ∃ m', K'.T[t]? = some m' ∧ m ≤ m' ∧ (m' = m → ∀ c, K.tk t = some c → K'.tk t = some c ∧ us' c = us c ∧ ∀ n, SizeAt w c n → SizeAt w' c n)

theorem UsLe.refl (us w) : UsLe us w us w := fun _ n h => ⟨n, h, Nat.le_refl _, fun _ _ => rfl⟩

theorem UsLe.trans {us w us1 w1 us2 w2} (h : UsLe us w us1 w1) (h' : UsLe us1 w1 us2 w2) : UsLe us w us2 w2 := by
  intro c n hc
  obtain ⟨n1, h1, l1, c1⟩ := h c n hc
  obtain ⟨n2, h2, l2, c2⟩ := h' c n1 h1
  exact ⟨n2, h2, Nat.le_trans l1 l2, fun i hi => (c2 i (by omega)).trans (c1 i hi)⟩

theorem KLe.refl (us w K) : KLe us w K us w K := ⟨fun _ _ h => ⟨h, fun _ h => h⟩, fun _ m h => ⟨m, h, Nat.le_refl _, fun _ _ h => ⟨h, rfl, fun _ h => h⟩⟩⟩

theorem KLe.nil (us w us' w' K') : KLe us w .nil us' w' K' := ⟨fun _ _ h => by simp [Kx.nil] at h, fun _ _ h => by simp [Kx.nil] at h⟩

theorem KLe.trans {us w K us1 w1 K1 us2 w2 K2} (h : KLe us w K us1 w1 K1) (h' : KLe us1 w1 K1 us2 w2 K2) : KLe us w K us2 w2 K2 := by
  refine ⟨fun l c hl => ⟨(h'.lm l c (h.lm l c hl).1).1, fun n hn => (h'.lm l c (h.lm l c hl).1).2 n ((h.lm l c hl).2 n hn)⟩, fun t m hm => ?_⟩
  obtain ⟨m1, h1, l1, e1⟩ := h.T t m hm
  obtain ⟨m2, h2, l2, e2⟩ := h'.T t m1 h1
  refine ⟨m2, h2, Nat.le_trans l1 l2, fun e => ?_⟩
  have e3 : m1 = m := by omega
  have e4 : m2 = m1 := by omega
  intro c hc
  obtain ⟨k1, a1, b1⟩ := e1 e3 c hc
  obtain ⟨k2, a2, b2⟩ := e2 e4 c k1
  exact ⟨k2, a2.trans a1, fun n hn => b2 n (b1 n hn)⟩

theorem CellsAt.mono {us w us' w'} (hu : UsLe us w us' w') {c p n : Nat} {vs : List Value} (h : us c = some n) (hn : p + vs.length ≤ n) (hc : CellsAt w c p vs) : CellsAt w' c p vs := by
  obtain ⟨n', _, _, hcell⟩ := hu c n h
  intro i hi
  rw [hcell (p + i) (by omega)]
  exact hc i hi

theorem Tagged.mono {us w K us' w' K'} (hK : KLe us w K us' w' K') {g c p n cap z} (h : Tagged us w K g c p n cap z) : Tagged us' w' K' g c p n cap z := by
  cases g with
  | any => trivial
  | full => exact h
  | own t e =>
    obtain ⟨m, hm, he, htip⟩ := h
    obtain ⟨m', hm', hle, hsame⟩ := hK.T t m hm
    refine ⟨m', hm', by omega, fun e' => ?_⟩
    have e1 : m' = m := by omega
    obtain ⟨h1, h2, h3, h4, cur, ty, h5, h6⟩ := htip (by omega)
    obtain ⟨k1, k3, k4⟩ := hsame e1 c h2
    obtain ⟨cur', ty', h7, h8⟩ := k4 _ ⟨cur, ty, h5, rfl⟩
    exact ⟨h1, k1, k3.trans h3, h4, cur', ty', h7, by omega⟩

theorem Rel.mono {us w us' w'} (hu : UsLe us w us' w') {K a x} (h : Rel us w K a x) : ∀ {K'}, KLe us w K us' w' K' → Rel us' w' K' a x := by
  induction h with
  | any K x => intro K' _; exact .any K' x
  | v K x h => intro K' _; exact .v K' x h
  | ptr K l o c h hs => intro K' hK; exact .ptr K' l o c (hK.lm l c h).1 (hs.imp fun n hn => (hK.lm l c h).2 n hn)
  | obj K m l c h => intro K' hK; exact .obj K' m l c (hK.lm l c h).1
  | eptr K e o c p n vs hu1 hn hc h1 hl hr ih =>
    intro K' hK
    obtain ⟨n', hn1, hn2, _⟩ := hu c n hu1
    exact .eptr K' e o c p n' vs hn1 (by omega) (hc.mono hu hu1 hn) h1 hl (fun i h h' => ih i h h' (KLe.nil _ _ _ _ _))
  | lst K g z xs c p n cap vs hu1 hn hc h1 hz hcap hl hr ht ih =>
    intro K' hK
    obtain ⟨n', hn1, hn2, _⟩ := hu c n hu1
    exact .lst K' g z xs c p n' cap vs hn1 (by omega) (hc.mono hu hu1 hn) h1 hz hcap hl (fun i h h' => ih i h h' (KLe.nil _ _ _ _ _)) (ht.mono hK)
  | rsl K l o n c z a b cap h hs hx =>
    intro K' hK
    exact .rsl K' l o n c z a b cap (hK.lm l b h).1 (hs.imp fun n hn => (hK.lm l b h).2 n hn) (hx.imp (fun h => h) fun ⟨h1, m, h2, h3⟩ => ⟨h1, m, (hK.lm l b h).2 m h2, h3⟩)
  | fn K f a b va vb ha hb _ _ iha ihb => intro K' hK; exact .fn K' f a b va vb ha hb (fun i h h' => iha i h h' hK) (fun i h h' => ihb i h h' hK)
  | ifc K t a x _ ih => intro K' hK; exact .ifc K' t a x (ih hK)
  | agg K cs vs hl _ ih => intro K' hK; exact .agg K' cs vs hl (fun i h h' => ih i h h' hK)
  | tup K cs vs hl _ ih => intro K' hK; exact .tup K' cs vs hl (fun i h h' => ih i h h' hK)

theorem Rels.mono {us w us' w'} (hu : UsLe us w us' w') {K K' as vs} (h : Rels us w K as vs) (hK : KLe us w K us' w' K') : Rels us' w' K' as vs :=
  ⟨h.len, fun i h1 h2 => (h.rel i h1 h2).mono hu hK⟩

/-! ## The state -/

/-- The values that lie in a block of cells; in an object. -/
def CellVals (w : World) (c : Nat) (vs : List Value) : Prop := (∃ cur ty, w.heap[c]? = some (.cells cur ty (0, 0)) ∧ vs = cur.toList) ∧ ∀ x ∈ vs, x.oneCell' = true
def entryVals (es : Array MapEntry) : List Value := es.toList.flatMap fun e => [e.key, e.val]
def ObjVals (w : World) (c : Nat) (vs : List Value) : Prop :=
  (∃ s pos, w.heap[c]? = some (.stringIter s pos) ∧ vs = [.tuple #[.string s, .int .i64 (pos : Nat)]]) ∨
  (∃ es clock, w.heap[c]? = some (.map es clock) ∧ vs = .tuple #[] :: entryVals es)
structure BlkOk (us : Us) (w : World) (K : Kx) (c : Nat) (cs : List AV) : Prop where
  ex : ∃ vs, (CellVals w c vs ∨ (ObjVals w c vs ∧ (cs = [] ∨ cs.length = vs.length))) ∧ cs.length ≤ vs.length ∧ Rels us w K cs (vs.take cs.length)

structure Good (us : Us) (w : World) (K : Kx) (st : St) : Prop where
  T : K.T = st.tips
  lmlt : ∀ l c, K.lm l = some c → l < st.store.length
  blk : ∀ l c cs, K.lm l = some c → st.store[l]? = some cs → BlkOk us w K c cs
  inj : ∀ l l' c, K.lm l = some c → K.lm l' = some c → l = l' ∨ st.store[l]? = some [] ∨ st.store[l']? = some []
  tkinj : ∀ t t' c, K.tk t = some c → K.tk t' = some c → t = t'
  tklt : ∀ t c, K.tk t = some c → t < st.tips.length
  tkus : ∀ t c, K.tk t = some c → ∃ n, us c = some n
  uslt : ∀ c n, us c = some n → c < w.heap.size
  disj : ∀ l c, K.lm l = some c → st.store[l]? = some [] ∨ us c = none
  lmtk : ∀ l t c, K.lm l = some c → K.tk t ≠ some c

/-- What a run may do. -/
structure Ext (us : Us) (w : World) (K : Kx) (us' : Us) (w' : World) (K' : Kx) : Prop where
  os : w'.os = w.os
  tape : w'.tape = w.tape
  output : w'.output = w.output
  size : w.heap.size ≤ w'.heap.size
  sz : ∀ c n, SizeAt w c n → SizeAt w' c n
  usle : UsLe us w us' w'
  kle : KLe us w K us' w' K'
  frame : ∀ c, c < w.heap.size → (∀ l, K.lm l ≠ some c) → (∀ t, K.tk t ≠ some c) → w'.heap[c]? = w.heap[c]? ∧ us' c = us c
  usNone : ∀ c, c < w.heap.size → us c = none → (∀ l, K.lm l ≠ some c) → us' c = none
  lmNew : ∀ l c, K'.lm l = some c → (∃ l0, K.lm l0 = some c) ∨ w.heap.size ≤ c
  tkNew : ∀ t c, K'.tk t = some c → K.tk t = some c ∨ w.heap.size ≤ c

theorem Ext.refl (us w K) : Ext us w K us w K :=
  ⟨rfl, rfl, rfl, Nat.le_refl _, fun _ _ h => h, .refl _ _, .refl _ _ _, fun _ _ _ _ => ⟨rfl, rfl⟩, fun _ _ h _ => h, fun l _ h => .inl ⟨l, h⟩, fun _ _ h => .inl h⟩

theorem Ext.trans {us w K us1 w1 K1 us2 w2 K2} (h : Ext us w K us1 w1 K1) (h' : Ext us1 w1 K1 us2 w2 K2) : Ext us w K us2 w2 K2 where
  os := h'.os.trans h.os
  tape := h'.tape.trans h.tape
  output := h'.output.trans h.output
  size := Nat.le_trans h.size h'.size
  sz := fun c n hc => h'.sz c n (h.sz c n hc)
  usle := h.usle.trans h'.usle
  kle := h.kle.trans h'.kle
  frame := by
    intro c hc hl ht
    have a := h.frame c hc hl ht
    have b := h'.frame c (by have := h.size; omega)
      (fun l e => (h.lmNew l c e).elim (fun ⟨l0, e⟩ => hl l0 e) (fun e => by omega))
      (fun t e => (h.tkNew t c e).elim (ht t) (fun e => by omega))
    exact ⟨b.1.trans a.1, b.2.trans a.2⟩
  usNone := fun c hc hn hl => h'.usNone c (by have := h.size; omega) (h.usNone c hc hn hl) fun l e => (h.lmNew l c e).elim (fun ⟨l0, e⟩ => hl l0 e) fun e => by omega
  lmNew := by
    intro l c e
    rcases h'.lmNew l c e with ⟨l0, e⟩ | e
    · exact h.lmNew l0 c e
    · exact .inr (by have := h.size; omega)
  tkNew := by
    intro l c e
    rcases h'.tkNew l c e with e | e
    · exact h.tkNew l c e
    · exact .inr (by have := h.size; omega)

end Go.Ev

namespace Go.Ev
open Go

def EnvRel (us : Us) (w : World) (K : Kx) (env : Env) (a : Act) : Prop := ∀ t, Rel us w K (env.get t) (a.tmps.getD t undef)

section
variable {us : Us} {w : World} {K : Kx}

theorem Rel.v_inv {y x} (h : Rel us w K (.v y) x) : x = y := by cases h; rfl
theorem Rel.ptr_inv {l o x} (h : Rel us w K (.ptr l o) x) : ∃ c, K.lm l = some c ∧ x = .pointer (some ⟨c, o, none⟩) := by cases h with | ptr _ _ _ c h hs => exact ⟨c, h, rfl⟩
theorem Rel.ptr_inv' {l o x} (h : Rel us w K (.ptr l o) x) : ∃ c, K.lm l = some c ∧ x = .pointer (some ⟨c, o, none⟩) ∧ ∃ n, SizeAt w c n := by cases h with | ptr _ _ _ c h hs => exact ⟨c, h, rfl, hs⟩
theorem Rel.obj_inv {m l x} (h : Rel us w K (.obj m l) x) : ∃ c, K.lm l = some c ∧ x = objV m c := by cases h with | obj _ _ _ c h => exact ⟨c, h, rfl⟩
theorem Rel.agg_inv {cs x} (h : Rel us w K (.agg cs) x) : ∃ vs, x = .agg vs ∧ Rels us w K cs vs.toList := by
  cases h with | agg _ _ vs hl hr => exact ⟨vs.toArray, rfl, ⟨by simpa using hl, by simpa using hr⟩⟩
theorem Rel.tup_inv {cs x} (h : Rel us w K (.tup cs) x) : ∃ vs, x = .tuple vs ∧ Rels us w K cs vs.toList := by
  cases h with | tup _ _ vs hl hr => exact ⟨vs.toArray, rfl, ⟨by simpa using hl, by simpa using hr⟩⟩
theorem Rel.ifc_inv {t a x} (h : Rel us w K (.ifc t a) x) : ∃ y, x = .iface t y ∧ Rel us w K a y := by
  cases h with | ifc _ _ _ y h => exact ⟨y, rfl, h⟩
theorem Rel.fn_inv {f a b x} (h : Rel us w K (.fn f a b) x) : ∃ va vb : Array Value, x = .func f va vb ∧ Rels us w K a va.toList ∧ Rels us w K b vb.toList := by
  cases h with | fn _ _ _ _ va vb ha hb h1 h2 => exact ⟨va.toArray, vb.toArray, rfl, ⟨by simpa using ha, by simpa using h1⟩, ⟨by simpa using hb, by simpa using h2⟩⟩
theorem Rel.mkAgg {cs} {vs : Array Value} (h : Rels us w K cs vs.toList) : Rel us w K (.agg cs) (.agg vs) := by
  have := Rel.agg K cs vs.toList h.len h.rel; simpa using this
theorem Rel.mkTup {cs} {vs : Array Value} (h : Rels us w K cs vs.toList) : Rel us w K (.tup cs) (.tuple vs) := by
  have := Rel.tup K cs vs.toList h.len h.rel; simpa using this
theorem Rel.mkFn {f a b} {va vb : Array Value} (h : Rels us w K a va.toList) (h' : Rels us w K b vb.toList) : Rel us w K (.fn f a b) (.func f va vb) := by
  have := Rel.fn K f a b va.toList vb.toList h.len h'.len h.rel h'.rel; simpa using this

/-- A slice that is a list: its parts. -/
structure LstAt (us : Us) (w : World) (K : Kx) (g : Tag) (z : Nat) (xs : List AV) (c p cap : Nat) (vs : List Value) : Prop where
  lies : ∃ n, us c = some n ∧ p + vs.length ≤ n
  cells : CellsAt w c p vs
  one : ∀ x ∈ vs, x.oneCell' = true
  each : ∀ x ∈ xs, x.cells.length = z
  fits : xs.length ≤ cap
  rels : Rels us w .nil (flat xs) vs
  tag : Tagged us w K g c p xs.length cap z

theorem Rel.lst_inv {g z xs x} (h : Rel us w K (.lst g z xs) x) : ∃ c p cap vs, x = .slice (some ⟨c, p, none⟩) xs.length cap ∧ LstAt us w K g z xs c p cap vs := by
  cases h with | lst _ _ _ _ c p n cap vs hu hn hc h1 hz hcap hl hr ht => exact ⟨c, p, cap, vs, rfl, ⟨⟨n, hu, hn⟩, hc, h1, hz, hcap, ⟨hl, hr⟩, ht⟩⟩
theorem LstAt.rel {g z xs c p cap vs} (h : LstAt us w K g z xs c p cap vs) : Rel us w K (.lst g z xs) (.slice (some ⟨c, p, none⟩) xs.length cap) := by
  obtain ⟨n, h1, h2⟩ := h.lies
  exact .lst K g z xs c p n cap vs h1 h2 h.cells h.one h.each h.fits h.rels.len h.rels.rel h.tag
def Caps (w : World) (b o c z cap : Nat) : Prop := cap = c ∨ (c ≤ cap ∧ ∃ m, SizeAt w b m ∧ o + cap * z ≤ m)
theorem Caps.le {w b o c z cap} (h : Caps w b o c z cap) : c ≤ cap := by rcases h with h | h; · omega
                                                                         · exact h.1
theorem Rel.rsl_inv {l o n c z a x} (h : Rel us w K (.rsl l o n c z a) x) : ∃ b cap, K.lm l = some b ∧ x = .slice (some ⟨b, o, none⟩) n cap ∧ Caps w b o c z cap := by
  cases h with | rsl _ _ _ _ _ _ _ b cap h hs hx => exact ⟨b, cap, h, rfl, hx⟩
theorem Rel.rsl_size {l o n c z a x b} (h : Rel us w K (.rsl l o n c z a) x) (hl : K.lm l = some b) : ∃ n, SizeAt w b n := by
  cases h with | rsl _ _ _ _ _ _ _ b' cap h hs hx => rw [h] at hl; simp only [Option.some.injEq] at hl; subst hl; exact hs

structure EptrAt (us : Us) (w : World) (e : AV) (c p : Nat) (vs : List Value) : Prop where
  lies : ∃ n, us c = some n ∧ p + vs.length ≤ n
  cells : CellsAt w c p vs
  one : ∀ x ∈ vs, x.oneCell' = true
  rels : Rels us w .nil e.cells vs
theorem Rel.eptr_inv {e o x} (h : Rel us w K (.eptr e o) x) : ∃ c p vs, x = .pointer (some ⟨c, p + o, none⟩) ∧ EptrAt us w e c p vs := by
  cases h with | eptr _ _ _ c p n vs hu hn hc h1 hl hr => exact ⟨c, p, vs, rfl, ⟨⟨n, hu, hn⟩, hc, h1, ⟨hl, hr⟩⟩⟩
theorem EptrAt.rel {e c p vs} (h : EptrAt us w e c p vs) (o : Nat) : Rel us w K (.eptr e o) (.pointer (some ⟨c, p + o, none⟩)) := by
  obtain ⟨n, h1, h2⟩ := h.lies
  exact .eptr K e o c p n vs h1 h2 h.cells h.one h.rels.len h.rels.rel

theorem rels_v (l : List Value) (h : l.all plainV = true) : Rels us w K (l.map .v) l := by
  induction l with
  | nil => exact .nil
  | cons x r ih =>
    simp only [List.all_cons, Bool.and_eq_true] at h
    exact .cons (.v K x h.1) (ih h.2)

theorem rel_ofVal (x : Value) : Rel us w K (ofVal x) x := by
  cases x
  case agg cs =>
    simp only [ofVal]
    split
    · next h =>
      have := Rel.mkAgg (K := K) (us := us) (w := w) (cs := cs.toList.map .v) (vs := cs) (rels_v cs.toList h)
      exact this
    · exact .any K _
  all_goals exact .v K _ rfl

theorem aval_rel {env a} (h : EnvRel us w K env a) (x : Operand) : Rel us w K (aval env x) (a.eval x) := by
  cases x with
  | tmp t => exact h t
  | const v => exact rel_ofVal v
  | global g => exact .any K _
  | func f => exact Rel.mkFn (va := #[]) (vb := #[]) .nil .nil

theorem avals_rel {env a} (h : EnvRel us w K env a) (xs : List Operand) : Rels us w K (avals env xs) (xs.map a.eval) := by
  induction xs with
  | nil => exact .nil
  | cons x r ih => exact .cons (aval_rel h x) ih

/-! ## What a value is like without the state -/

theorem pubs_len (l : List AV) : (pubs l).length = l.length := by
  induction l with
  | nil => rfl
  | cons a r ih => simp [pubs, ih]
theorem pubs_get (l : List AV) (i : Nat) (h : i < (pubs l).length) : (pubs l)[i] = pub (l[i]'(by rw [pubs_len] at h; exact h)) := by
  induction l generalizing i with
  | nil => simp [pubs] at h
  | cons a r ih =>
    cases i with
    | zero => simp [pubs]
    | succ i => simp [pubs]; exact ih i (by simpa [pubs] using h)

theorem Rel.pub {a x} (h : Rel us w K a x) : Rel us w .nil (Ev.pub a) x := by
  induction h with
  | any K x => simp only [Ev.pub]; exact .any _ x
  | v K x h => simp only [Ev.pub]; exact .v _ x h
  | ptr K l o c h hs => simp only [Ev.pub]; exact .any _ _
  | obj K m l c h => simp only [Ev.pub]; exact .any _ _
  | eptr K e o c p n vs hu1 hn hc h1 hl hr _ => simp only [Ev.pub]; exact .eptr _ e o c p n vs hu1 hn hc h1 hl hr
  | lst K g z xs c p n cap vs hu1 hn hc h1 hz hcap hl hr ht _ => simp only [Ev.pub]; exact .lst _ .any z xs c p n cap vs hu1 hn hc h1 hz hcap hl hr trivial
  | rsl K l o n c z a b cap h hs hx => simp only [Ev.pub]; exact .any _ _
  | fn K f a b va vb ha hb _ _ iha ihb =>
    simp only [Ev.pub]
    exact .fn _ f _ _ va vb (by rw [pubs_len]; exact ha) (by rw [pubs_len]; exact hb) (fun i h h' => by rw [pubs_get]; exact iha i _ h') (fun i h h' => by rw [pubs_get]; exact ihb i _ h')
  | ifc K t a x _ ih => simp only [Ev.pub]; exact .ifc _ t _ x ih
  | agg K cs vs hl _ ih => simp only [Ev.pub]; exact .agg _ _ vs (by rw [pubs_len]; exact hl) (fun i h h' => by rw [pubs_get]; exact ih i _ h')
  | tup K cs vs hl _ ih => simp only [Ev.pub]; exact .tup _ _ vs (by rw [pubs_len]; exact hl) (fun i h h' => by rw [pubs_get]; exact ih i _ h')

theorem Rels.pubs {as vs} (h : Rels us w K as vs) : Rels us w .nil (Ev.pubs as) vs :=
  ⟨by rw [pubs_len]; exact h.len, fun i h1 h2 => by rw [pubs_get]; exact (h.rel i _ h2).pub⟩

theorem Rel.ofNil {a x} (h : Rel us w .nil a x) : Rel us w K a x := h.mono (.refl _ _) (.nil _ _ _ _ _)
theorem Rels.ofNil {as vs} (h : Rels us w .nil as vs) : Rels us w K as vs := ⟨h.len, fun i h1 h2 => (h.rel i h1 h2).ofNil⟩

theorem pub_cells (a : AV) : (Ev.pub a).cells = Ev.pubs a.cells := by cases a <;> simp [Ev.pub, AV.cells, Ev.pubs]

/-! ## Cells -/

theorem Rel.cells {a x} (h : Rel us w K a x) (hs : a.shaped = true) : Rels us w K a.cells x.cells.toList := by
  cases h with
  | any => simp [AV.shaped] at hs
  | agg _ _ vs hl hr => simp only [AV.cells, Value.cells]; exact ⟨by simpa using hl, by simpa using hr⟩
  | v _ x h =>
    have : x.cells = #[x] := by cases x <;> first | rfl | simp [plainV] at h
    rw [this]; exact .cons (.v _ x h) .nil
  | ptr _ _ _ _ h hz => exact .cons (.ptr _ _ _ _ h hz) .nil
  | obj _ m _ _ h => cases m <;> exact .cons (.obj _ _ _ _ h) .nil
  | eptr _ _ _ _ _ _ _ hu hn hc h1 hl hr => exact .cons (.eptr _ _ _ _ _ _ _ hu hn hc h1 hl hr) .nil
  | lst _ _ _ _ _ _ _ _ _ hu hn hc h1 hz hcap hl hr ht => exact .cons (.lst _ _ _ _ _ _ _ _ _ hu hn hc h1 hz hcap hl hr ht) .nil
  | rsl _ _ _ _ _ _ _ _ _ h hz hx => exact .cons (.rsl _ _ _ _ _ _ _ _ _ h hz hx) .nil
  | fn _ _ _ _ _ _ ha hb h1 h2 => exact .cons (.fn _ _ _ _ _ _ ha hb h1 h2) .nil
  | ifc _ _ _ _ h => exact .cons (.ifc _ _ _ _ h) .nil
  | tup _ _ _ hl hr => exact .cons (.tup _ _ _ hl hr) .nil

theorem Rel.one {a x} (h : Rel us w K a x) (hs : storable a = true) : x.oneCell' = true := by
  cases h with
  | v _ _ h => cases x <;> simp_all [storable, Value.oneCell']
  | _ => first | rfl | simp [storable] at hs

theorem Rels.one {as vs} (h : Rels us w K as vs) (hs : as.all storable = true) : ∀ x ∈ vs, x.oneCell' = true := by
  induction as generalizing vs with
  | nil => rw [h.nil_inv]; simp
  | cons a r ih =>
    obtain ⟨x, r', rfl, h1, h2⟩ := h.cons_inv
    simp only [List.all_cons, Bool.and_eq_true] at hs
    intro y hy
    rcases List.mem_cons.1 hy with rfl | hy
    · exact h1.one hs.1
    · exact ih h2 hs.2 y hy
end
end Go.Ev

namespace Go.Ev
open Go

/-- An operation runs to a value that fits 'r'; the state is as it was. -/
def RunsTo (P : Program) (s : Sem Next) (us : Us) (w : World) (K : Kx) (st : St) (r : AV) : Prop :=
  ∃ x us' w', s.run P w = .ok (.value x) w' ∧ Rel us' w' K r x ∧ Ext us w K us' w' K ∧ Good us' w' K st

section
variable {P : Program} {us : Us} {w : World} {K : Kx} {st : St}

theorem RunsTo.same {s : Sem Next} {r : AV} {x : Value} (hG : Good us w K st) (h : s.run P w = .ok (.value x) w) (hr : Rel us w K r x) : RunsTo P s us w K st r :=
  ⟨x, us, w, h, hr, .refl _ _ _, hG⟩

variable {o : Oper} {env : Env} {a : Act} {r : AV}

theorem rt_move {x : Operand} (ho : o.op = .move x ∨ o.op = .assign x) (hE : EnvRel us w K env a) (hG : Good us w K st) : RunsTo P (execOp a.eval o) us w K st (aval env x) := by
  refine .same hG (x := a.eval x) ?_ (aval_rel hE x)
  rcases ho with ho | ho <;> simp [execOp, ho]

theorem rt_pick {c x y : Operand} (ho : o.op = .pick c x y) (hE : EnvRel us w K env a) (hG : Good us w K st) (hv : valAV env (.pick c x y) = some r) : RunsTo P (execOp a.eval o) us w K st r := by
  simp only [valAV] at hv
  split at hv
  · rename_i b hb
    have h1 := aval_rel hE c
    rw [hb] at h1
    have h2 := h1.v_inv
    simp only [Option.some.injEq] at hv
    subst hv
    refine .same hG (x := if b then a.eval x else a.eval y) ?_ ?_
    · simp [execOp, ho, asBool, h2]
    · cases b
      · exact aval_rel hE y
      · exact aval_rel hE x
  · simp at hv

theorem rt_not {x : Operand} {t : TypeId} (ho : o.op = .unOp .not t x) (hE : EnvRel us w K env a) (hG : Good us w K st) (hv : valAV env (.not x) = some r) : RunsTo P (execOp a.eval o) us w K st r := by
  simp only [valAV] at hv
  split at hv
  · rename_i b hb
    have h1 := aval_rel hE x
    rw [hb] at h1
    have h2 := h1.v_inv
    simp only [Option.some.injEq] at hv
    subst hv
    exact .same hG (x := .bool !b) (by simp [execOp, ho, Op.unary, h2]) (.v K _ rfl)
  · simp at hv

theorem rt_neg {x : Operand} {t : TypeId} (ho : o.op = .unOp .neg t x) (hE : EnvRel us w K env a) (hG : Good us w K st) (hv : valAV env (.neg x) = some r) : RunsTo P (execOp a.eval o) us w K st r := by
  simp only [valAV] at hv
  split at hv
  · rename_i k n hb
    have h1 := aval_rel hE x
    rw [hb] at h1
    have h2 := h1.v_inv
    simp only [Option.some.injEq] at hv
    subst hv
    exact .same hG (x := .int k (k.wrap (0 - n))) (by simp [execOp, ho, Op.unary, Op.intArith, h2]) (.v K _ rfl)
  · simp at hv

theorem rt_compl {x : Operand} {t : TypeId} (ho : o.op = .unOp .xor t x) (hE : EnvRel us w K env a) (hG : Good us w K st) (hv : valAV env (.compl x) = some r) : RunsTo P (execOp a.eval o) us w K st r := by
  simp only [valAV] at hv
  split at hv
  · rename_i k n hb
    have h1 := aval_rel hE x
    rw [hb] at h1
    have h2 := h1.v_inv
    simp only [binAV, or_true, if_true, intOp, Option.some.injEq] at hv
    subst hv
    exact .same hG (by simp [execOp, ho, Op.unary, Op.intBits, h2]) (.v K _ rfl)
  · simp at hv

theorem rt_conv {x : Operand} {s d : TypeId} {k : IntKind} {sd : TypeDesc} (ho : o.op = .convert s d x) (hs : P.underlying s = some sd) (hd : P.underlying d = some (.int k)) (hE : EnvRel us w K env a) (hG : Good us w K st)
    (hv : valAV env (.conv k x) = some r) : RunsTo P (execOp a.eval o) us w K st r := by
  simp only [valAV] at hv
  split at hv
  · rename_i k' n hb
    have h1 := aval_rel hE x
    rw [hb] at h1
    have h2 := h1.v_inv
    simp only [Option.some.injEq] at hv
    subst hv
    refine .same hG (x := .int k (k.wrap n)) ?_ (.v K _ rfl)
    simp [execOp, ho, convert, run_underlying hs, run_underlying hd, h2, Conv.intToInt]
  · simp at hv

theorem rt_nil {x : Operand} (ho : o.op = .nilCheck x) (hE : EnvRel us w K env a) (hG : Good us w K st) (hv : valAV env (.nil x) = some r) : RunsTo P (execOp a.eval o) us w K st r := by
  simp only [valAV] at hv
  have h1 := aval_rel hE x
  split at hv
  · rename_i l f hb
    rw [hb] at h1
    simp only [Option.some.injEq] at hv
    subst hv
    obtain ⟨c, _, h2⟩ := h1.ptr_inv
    exact .same hG (x := a.eval x) (by simp [execOp, ho, h2]) h1
  · rename_i l f hb
    rw [hb] at h1
    simp only [Option.some.injEq] at hv
    subst hv
    obtain ⟨c, p, vs, h2, _⟩ := h1.eptr_inv
    exact .same hG (x := a.eval x) (by simp [execOp, ho, h2]) h1
  · simp at hv

theorem rt_iface {x : Operand} {t : TypeId} {d : TypeDesc} (ho : o.op = .makeInterface t x) (hd : P.underlying t = some d) (hni : ∀ ms, d ≠ .interface ms) (hE : EnvRel us w K env a) (hG : Good us w K st) :
    RunsTo P (execOp a.eval o) us w K st (.ifc t (aval env x)) := by
  refine .same hG (x := .iface t (a.eval x)) ?_ (.ifc K t _ _ (aval_rel hE x))
  simp only [execOp, ho, Instr.makeInterface, Sem.run_bind, run_underlying hd, Result.andThen_ok]
  cases d <;> first | rfl | exact absurd rfl (hni _)

theorem rt_func {f : Fn} {x y : Array Operand} (ho : o.op = .makeFunc f x y) (hE : EnvRel us w K env a) (hG : Good us w K st) :
    RunsTo P (execOp a.eval o) us w K st (.fn f (avals env x.toList) (avals env y.toList)) := by
  refine .same hG (x := .func f (x.map a.eval) (y.map a.eval)) (by simp [execOp, ho, Instr.makeFunc]) ?_
  refine Rel.mkFn ?_ ?_
  · simpa using avals_rel hE x.toList
  · simpa using avals_rel hE y.toList

theorem rt_extract {x : Operand} {i : Nat} (ho : o.op = .extract x i) (hE : EnvRel us w K env a) (hG : Good us w K st) (hv : valAV env (.extract i x) = some r) : RunsTo P (execOp a.eval o) us w K st r := by
  simp only [valAV] at hv
  have h1 := aval_rel hE x
  split at hv
  · rename_i cs hb
    rw [hb] at h1
    obtain ⟨vs, h2, h3⟩ := h1.tup_inv
    obtain ⟨y, h4, h5⟩ := h3.get hv
    refine .same hG (x := y) ?_ h5
    have h6 : vs[i]? = some y := by simpa using h4
    simp [execOp, ho, Instr.extract, h2, h6]
  · simp at hv

theorem rt_fieldAddr {x : Operand} {t : TypeId} {f : Nat} {fs : Array Field} {fd : Field} (ho : o.op = .fieldAddr t x f) (ht : P.underlying t = some (.struct fs)) (hf : fs[f]? = some fd) (hsz : (sizeT P fd.type).any (0 < ·) = true)
    (hE : EnvRel us w K env a) (hG : Good us w K st) (hv : valAV env (.fieldAddr fd.offset x) = some r) : RunsTo P (execOp a.eval o) us w K st r := by
  simp only [valAV, fieldAddrAV] at hv
  have h1 := aval_rel hE x
  have hsz' : ∃ i, P.info? fd.type = some i ∧ i.size ≠ 0 := by
    simp only [sizeT] at hsz
    cases hi : P.info? fd.type with
    | none => simp [hi] at hsz
    | some i => exact ⟨i, rfl, by simp [hi] at hsz; omega⟩
  obtain ⟨i, hi, hi0⟩ := hsz'
  have run : ∀ c p, a.eval x = .pointer (some ⟨c, p, none⟩) → (execOp a.eval o).run P w = .ok (.value (.pointer (some ⟨c, p + fd.offset, none⟩))) w := by
    intro c p h
    simp [execOp, ho, Instr.fieldAt, run_underlying ht, hf, Instr.sureAddr, h, fieldPlace, sizeOf, typeInfo, hi, hi0, Addr.add_lit]
  split at hv
  · rename_i l q hb
    rw [hb] at h1
    obtain ⟨c, hc, h2, hsz2⟩ := h1.ptr_inv'
    simp only [Option.some.injEq] at hv
    subst hv
    exact .same hG (run c q h2) (.ptr K l _ c hc hsz2)
  · rename_i e q hb
    rw [hb] at h1
    obtain ⟨c, p, vs, h2, h3⟩ := h1.eptr_inv
    simp only [Option.some.injEq] at hv
    subst hv
    refine .same hG (run c (p + q) h2) ?_
    have := h3.rel (K := K) (q + fd.offset)
    rwa [← Nat.add_assoc] at this
  · simp at hv

theorem asIntOf_run (k : IntKind) (n : Int) : (asIntOf (.int k n)).run P w = .ok (k, n) w := rfl

theorem rt_indexA {x i : Operand} {t e : TypeId} {n z : Nat} (ho : o.op = .indexAddr t x i) (ht : P.underlying t = some (.array n e)) (hz : sizeT P e = some z)
    (hE : EnvRel us w K env a) (hG : Good us w K st) (hv : valAV env (.indexA n z x i) = some r) : RunsTo P (execOp a.eval o) us w K st r := by
  simp only [valAV] at hv
  have h1 := aval_rel hE x
  have h2 := aval_rel hE i
  have hz' : ∃ i, P.info? e = some i ∧ i.size = z := by
    simp only [sizeT] at hz
    cases hi : P.info? e with
    | none => simp [hi] at hz
    | some i => exact ⟨i, rfl, by simpa [hi] using hz⟩
  obtain ⟨ti, hti, hti2⟩ := hz'
  have run : ∀ c p k (j : Int), a.eval x = .pointer (some ⟨c, p, none⟩) → a.eval i = .int k j → 0 ≤ j → j < n → (execOp a.eval o).run P w = .ok (.value (.pointer (some ⟨c, p + j.toNat * z, none⟩))) w := by
    intro c p k j h h' hj hj'
    simp [execOp, ho, Instr.indexAt, run_underlying ht, asIntOf, Instr.sureAddr, h, h', hj, hj', sizeOf, typeInfo, hti, hti2, Addr.add_lit]
  generalize aval env x = ax at hv h1
  generalize aval env i = ai at hv h2
  unfold indexAAV at hv
  split at hv
  · rename_i l q k j
    split at hv
    · next hj =>
      obtain ⟨c, hc, h3, hsz2⟩ := h1.ptr_inv'
      simp only [Option.some.injEq] at hv
      subst hv
      exact .same hG (run c q k j h3 h2.v_inv hj.1 hj.2) (.ptr K l _ c hc hsz2)
    · simp at hv
  · rename_i e' q k j
    split at hv
    · next hj =>
      obtain ⟨c, p, vs, h3, h4⟩ := h1.eptr_inv
      simp only [Option.some.injEq] at hv
      subst hv
      refine .same hG (run c (p + q) k j h3 h2.v_inv hj.1 hj.2) ?_
      have := h4.rel (K := K) (q + j.toNat * z)
      rwa [← Nat.add_assoc] at this
    · simp at hv
  · simp at hv

theorem rt_indexG {i : Operand} {t e : TypeId} {g n z : Nat} {tab : List Nat} (ho : o.op = .indexAddr t (.global g) i) (ht : P.underlying t = some (.array n e)) (hz : sizeT P e = some z)
    (hE : EnvRel us w K env a) (hG : Good us w K st) (hg : Rel us w .nil (.eptr (bytesAV tab) 0) (.pointer (some ⟨g, 0, none⟩))) (hv : valAV env (.indexG g n z tab i) = some r) : RunsTo P (execOp a.eval o) us w K st r := by
  simp only [valAV] at hv
  have h2 := aval_rel hE i
  have hz' : ∃ i, P.info? e = some i ∧ i.size = z := by
    simp only [sizeT] at hz
    cases hi : P.info? e with
    | none => simp [hi] at hz
    | some i => exact ⟨i, rfl, by simpa [hi] using hz⟩
  obtain ⟨ti, hti, hti2⟩ := hz'
  generalize aval env i = ai at hv h2
  unfold indexAAV at hv
  split at hv
  · rename_i l q k j heq
    simp at heq
  · rename_i e' q k j heq
    simp only [AV.eptr.injEq] at heq
    obtain ⟨rfl, rfl⟩ := heq
    split at hv
    · next hj =>
      obtain ⟨c, p, vs, h3, h4⟩ := hg.eptr_inv
      simp only [Value.pointer.injEq, Option.some.injEq, Addr.mk.injEq, Nat.add_zero] at h3
      obtain ⟨rfl, rfl, _⟩ := h3
      simp only [Option.some.injEq] at hv
      subst hv
      have hev : a.eval (.global g) = .pointer (some ⟨g, 0, none⟩) := rfl
      refine .same hG (x := .pointer (some ⟨g, 0 + j.toNat * z, none⟩)) ?_ ?_
      · simp [execOp, ho, Instr.indexAt, run_underlying ht, asIntOf, Instr.sureAddr, hev, h2.v_inv, hj.1, hj.2, sizeOf, typeInfo, hti, hti2, Addr.add_lit]
      · have := h4.rel (K := K) (0 + j.toNat * z)
        simpa using this
    · simp at hv
  · simp at hv

/-! ### flat -/
theorem flat_cons (x : AV) (r : List AV) : flat (x :: r) = x.cells ++ flat r := rfl
theorem flat_append (x y : List AV) : flat (x ++ y) = flat x ++ flat y := by simp [flat]
theorem flat_len {z : Nat} (xs : List AV) (h : ∀ x ∈ xs, x.cells.length = z) : (flat xs).length = xs.length * z := by
  induction xs with
  | nil => simp [flat]
  | cons x r ih =>
    rw [flat_cons, List.length_append, h x (by simp), ih (fun y hy => h y (by simp [hy])), List.length_cons, Nat.add_mul]
    omega
theorem flat_split (xs : List AV) (i : Nat) (h : i < xs.length) : xs = xs.take i ++ xs[i] :: xs.drop (i + 1) := by
  rw [List.getElem_cons_drop, List.take_append_drop]
theorem flat_elem {z : Nat} (xs : List AV) (h : ∀ x ∈ xs, x.cells.length = z) (i : Nat) (hi : i < xs.length) : ((flat xs).drop (i * z)).take z = xs[i].cells := by
  have e := flat_split xs i hi
  have h1 : (flat (xs.take i)).length = i * z := by
    rw [flat_len (z := z) _ (fun y hy => h y (List.mem_of_mem_take hy)), List.length_take]
    congr 1; omega
  conv => lhs; rw [e]
  rw [flat_append, flat_cons, ← h1, List.drop_left]
  have h2 : xs[i].cells.length = z := h _ (List.getElem_mem hi)
  rw [← h2, List.take_left]

theorem LstAt.elem {g z xs c p cap vs} (h : LstAt us w K g z xs c p cap vs) (i : Nat) (hi : i < xs.length) : EptrAt us w xs[i] c (p + i * z) ((vs.drop (i * z)).take z) := by
  obtain ⟨n, hn, hn2⟩ := h.lies
  have hl : vs.length = xs.length * z := by rw [← h.rels.len, flat_len xs h.each]
  have hm : i * z + z ≤ xs.length * z := by rw [← Nat.succ_mul]; exact Nat.mul_le_mul_right z hi
  have hlen : ((vs.drop (i * z)).take z).length = z := by simp; omega
  refine ⟨⟨n, hn, by rw [hlen]; omega⟩, ?_, ?_, ?_⟩
  · intro j hj
    rw [hlen] at hj
    have := h.cells (i * z + j) (by omega)
    rw [Nat.add_assoc, this]
    simp
  · intro x hx
    exact h.one x (List.mem_of_mem_drop (List.mem_of_mem_take hx))
  · rw [← flat_elem xs h.each i hi]
    exact (h.rels.drop (i * z)).take z

theorem rt_indexS {x i : Operand} {t e : TypeId} {z : Nat} (ho : o.op = .indexAddr t x i) (ht : P.underlying t = some (.slice e)) (hz : sizeT P e = some z)
    (hE : EnvRel us w K env a) (hG : Good us w K st) (hv : valAV env (.indexS z x i) = some r) : RunsTo P (execOp a.eval o) us w K st r := by
  simp only [valAV] at hv
  have h1 := aval_rel hE x
  have h2 := aval_rel hE i
  have hz' : ∃ i, P.info? e = some i ∧ i.size = z := by
    simp only [sizeT] at hz
    cases hi : P.info? e with
    | none => simp [hi] at hz
    | some i => exact ⟨i, rfl, by simpa [hi] using hz⟩
  obtain ⟨ti, hti, hti2⟩ := hz'
  have run : ∀ c p n cap k (j : Int), a.eval x = .slice (some ⟨c, p, none⟩) n cap → a.eval i = .int k j → 0 ≤ j → j < (n : Int) → (execOp a.eval o).run P w = .ok (.value (.pointer (some ⟨c, p + j.toNat * z, none⟩))) w := by
    intro c p n cap k j h h' hj hj'
    simp [execOp, ho, Instr.indexAt, run_underlying ht, asIntOf, h, h', hj, hj', sizeOf, typeInfo, hti, hti2, Addr.add_lit]
  generalize aval env x = ax at hv h1
  generalize aval env i = ai at hv h2
  unfold indexSAV at hv
  split at hv
  · rename_i g z' xs k j
    split at hv
    · next hj =>
      obtain ⟨rfl, hj⟩ := hj
      obtain ⟨c, p, cap, vs, h3, h4⟩ := h1.lst_inv
      cases hx : xs[j.toNat]? with
      | none => simp [hx] at hv
      | some y =>
        obtain ⟨hi, rfl⟩ := List.getElem?_eq_some_iff.1 hx
        simp only [hx, Option.map_some, Option.some.injEq] at hv
        subst hv
        refine .same hG (run c p xs.length cap k j h3 h2.v_inv hj (by omega)) ?_
        have := (h4.elem j.toNat hi).rel (K := K) 0
        simpa using this
    · simp at hv
  · rename_i l q n cp z' b k j
    split at hv
    · next hj =>
      obtain ⟨rfl, hj, hj'⟩ := hj
      obtain ⟨c, cap, hc, h3, _⟩ := h1.rsl_inv
      simp only [Option.some.injEq] at hv
      subst hv
      exact .same hG (run c q n cap k j h3 h2.v_inv hj hj') (.ptr K l _ c hc (h1.rsl_size hc))
    · simp at hv
  · simp at hv

theorem rt_len {x : Operand} {t e : TypeId} {c : Call} (ho : o.op = .call c) (hb : c.callee = .builtin .len) (ha : c.args.toList = [x]) (hty : (c.argTypes[0]?).bind P.underlying = some (.slice e)) (hE : EnvRel us w K env a) (hG : Good us w K st)
    (hv : valAV env (.len x) = some r) (_ : t = t) : RunsTo P (execOp a.eval o) us w K st r := by
  simp only [valAV] at hv
  have h1 := aval_rel hE x
  have ha' : c.args = #[x] := by rw [← Array.toArray_toList (xs := c.args), ha]
  have run : ∀ b n cap, a.eval x = .slice b n cap → (execOp a.eval o).run P w = .ok (.value (.int .i64 n)) w := by
    intro b n cap h
    cases h0 : c.argTypes[0]? with
    | none => simp [h0] at hty
    | some t0 =>
      simp only [h0, Option.bind_some] at hty
      simp [execOp, ho, resolve, hb, ha', invoke, builtin, Builtin.len_, h0, run_underlying hty, h, goInt]
  generalize aval env x = ax at hv h1
  unfold lenAV at hv
  split at hv
  · rename_i g z xs
    obtain ⟨c, p, cap, vs, h3, h4⟩ := h1.lst_inv
    simp only [Option.some.injEq] at hv
    subst hv
    exact .same hG (run _ _ _ h3) (.v K _ rfl)
  · rename_i l q n cp z' b
    obtain ⟨c, cap, hc, h3, _⟩ := h1.rsl_inv
    simp only [Option.some.injEq] at hv
    subst hv
    exact .same hG (run _ _ _ h3) (.v K _ rfl)
  · rename_i b n cp
    simp only [Option.some.injEq] at hv
    subst hv
    exact .same hG (run _ _ _ h1.v_inv) (.v K _ rfl)
  · simp at hv

theorem rt_min {x y : Operand} {c : Call} (ho : o.op = .call c) (hb : c.callee = .builtin .min) (ha : c.args.toList = [x, y]) (hE : EnvRel us w K env a) (hG : Good us w K st)
    (hv : valAV env (.min x y) = some r) : RunsTo P (execOp a.eval o) us w K st r := by
  simp only [valAV] at hv
  have h1 := aval_rel hE x
  have h2 := aval_rel hE y
  have ha' : c.args = #[x, y] := by rw [← Array.toArray_toList (xs := c.args), ha]
  generalize aval env x = ax at hv h1
  generalize aval env y = ay at hv h2
  unfold minAV at hv
  split at hv
  · simp only [Option.some.injEq] at hv
    subst hv
    have e1 := h1.v_inv
    have e2 := h2.v_inv
    exact .same hG (by simp [execOp, ho, resolve, hb, ha', invoke, builtin, Builtin.min_, Builtin.min2, e1, e2]) (.v K _ rfl)
  · simp at hv

theorem minAV_inv {a b r : AV} (h : minAV a b = some r) : ∃ k m k' n, a = .v (.int k m) ∧ b = .v (.int k' n) ∧ r = .v (.int k (if n < m then n else m)) := by
  unfold minAV at h
  split at h
  · simp only [Option.some.injEq] at h; exact ⟨_, _, _, _, rfl, rfl, h.symm⟩
  · simp at h

theorem rt_min3 {x y z : Operand} {c : Call} (ho : o.op = .call c) (hb : c.callee = .builtin .min) (ha : c.args.toList = [x, y, z]) (hE : EnvRel us w K env a) (hG : Good us w K st)
    (hv : valAV env (.min3 x y z) = some r) : RunsTo P (execOp a.eval o) us w K st r := by
  simp only [valAV] at hv
  have h1 := aval_rel hE x
  have h2 := aval_rel hE y
  have h3 := aval_rel hE z
  have ha' : c.args = #[x, y, z] := by rw [← Array.toArray_toList (xs := c.args), ha]
  split at hv
  · rename_i a0 heq
    obtain ⟨k, m, k', n, q1, q2, rfl⟩ := minAV_inv heq
    obtain ⟨k2, m2, k3, n3, q3, q4, rfl⟩ := minAV_inv hv
    simp only [AV.v.injEq, Value.int.injEq] at q3
    obtain ⟨rfl, rfl⟩ := q3
    rw [q1] at h1; rw [q2] at h2; rw [q4] at h3
    have e1 := h1.v_inv
    have e2 := h2.v_inv
    have e3 := h3.v_inv
    exact .same hG (by simp [execOp, ho, resolve, hb, ha', invoke, builtin, Builtin.min_, Builtin.min2, e1, e2, e3]) (.v K _ rfl)
  · simp at hv

theorem rt_max {x y : Operand} {c : Call} (ho : o.op = .call c) (hb : c.callee = .builtin .max) (ha : c.args.toList = [x, y]) (hE : EnvRel us w K env a) (hG : Good us w K st)
    (hv : valAV env (.max x y) = some r) : RunsTo P (execOp a.eval o) us w K st r := by
  simp only [valAV] at hv
  have h1 := aval_rel hE x
  have h2 := aval_rel hE y
  have ha' : c.args = #[x, y] := by rw [← Array.toArray_toList (xs := c.args), ha]
  generalize aval env x = ax at hv h1
  generalize aval env y = ay at hv h2
  unfold maxAV at hv
  split at hv
  · simp only [Option.some.injEq] at hv
    subst hv
    have e1 := h1.v_inv
    have e2 := h2.v_inv
    exact .same hG (by simp [execOp, ho, resolve, hb, ha', invoke, builtin, Builtin.max_, Builtin.max2, e1, e2]) (.v K _ rfl)
  · simp at hv

theorem rt_assert {x : Operand} {xt t : TypeId} {ok : Bool} {d : TypeDesc} {z : Value} (ho : o.op = .typeAssert x xt t ok) (hd : P.underlying t = some d) (hni : ∀ ms, d ≠ .interface ms) (hz : zeroT P t = some z)
    (hE : EnvRel us w K env a) (hG : Good us w K st) (hv : valAV env (.assert t (ofVal z) ok x) = some r) : RunsTo P (execOp a.eval o) us w K st r := by
  simp only [valAV] at hv
  have h1 := aval_rel hE x
  have hzero : (zeroValue t).run P w = .ok z w := by
    simp only [zeroT] at hz
    cases hi : P.info? t with
    | none => simp [hi] at hz
    | some i => simp only [hi, Option.bind_some] at hz; simp [zeroValue, typeInfo, hi, hz]
  have pair : ∀ (A : AV) (X : Value) (b : Bool), Rel us w K A X → Rel us w K (.tup [A, .v (.bool b)]) (.tuple #[X, .bool b]) := by
    intro A X b h
    exact Rel.mkTup (vs := #[X, .bool b]) (.cons h (.cons (.v K _ rfl) .nil))
  generalize aval env x = ax at hv h1
  unfold assertAV at hv
  split at hv
  · rename_i u y
    obtain ⟨v, h2, h3⟩ := h1.ifc_inv
    by_cases hut : u = t
    · simp only [hut, if_true, Option.some.injEq] at hv
      subst hut
      refine .same hG (x := if ok then .tuple #[v, .bool true] else v) ?_ ?_
      · simp only [execOp, ho, Instr.typeAssert, Sem.run_bind, run_underlying hd, Result.andThen_ok, h2]
        cases d <;> first | (cases ok <;> simp; done) | exact absurd rfl (hni _)
      · rw [← hv]
        cases ok
        · exact h3
        · exact pair _ _ _ h3
    · simp only [hut, if_false] at hv
      cases ok
      · simp at hv
      · simp only [if_true, Option.some.injEq] at hv
        subst hv
        refine .same hG (x := .tuple #[z, .bool false]) ?_ (pair _ _ _ (rel_ofVal z))
        simp only [execOp, ho, Instr.typeAssert, Sem.run_bind, run_underlying hd, Result.andThen_ok, h2]
        cases d <;> first | (simp [hut, hzero]; done) | exact absurd rfl (hni _)
  · cases ok
    · simp at hv
    · simp only [if_true, Option.some.injEq] at hv
      subst hv
      have h2 := h1.v_inv
      refine .same hG (x := .tuple #[z, .bool false]) ?_ (pair _ _ _ (rel_ofVal z))
      simp only [execOp, ho, Instr.typeAssert, Sem.run_bind, run_underlying hd, Result.andThen_ok, h2]
      cases d <;> first | (simp [hzero]; done) | exact absurd rfl (hni _)
  · simp at hv
end
end Go.Ev

namespace Go.Ev
open Go

section
variable {P : Program} {us : Us} {w : World} {K : Kx} {st : St}
variable {o : Oper} {env : Env} {a : Act} {r : AV}

theorem isAgg_plain {t : TypeId} (h : plainT P t = true) : (Go.isAgg t).run P w = .ok false w ∧ ∃ k, P.underlying t = some (.int k) := by
  unfold plainT at h
  split at h
  · rename_i k hk
    exact ⟨by simp [Go.isAgg, run_underlying hk], k, hk⟩
  · simp at h

theorem cellsEq_cons {x y : AV} {xs ys : List AV} {b : Bool} (h : cellsEq (x :: xs) (y :: ys) = some b) : ∃ k m n b', x = .v (.int k m) ∧ y = .v (.int k n) ∧ cellsEq xs ys = some b' ∧ b = ((m == n) && b') := by
  simp only [cellsEq] at h
  split at h
  · rename_i p q hp hq
    unfold cellEq at hp
    split at hp
    · rename_i k m k' n
      split at hp
      · next hk =>
        subst hk
        simp only [Option.some.injEq] at hp h
        exact ⟨k, m, n, q, rfl, rfl, hq, by rw [← h, ← hp]⟩
      · simp at hp
    · simp at hp
  · simp at h

theorem cellsEq_len : ∀ {xs ys : List AV} {b : Bool}, cellsEq xs ys = some b → xs.length = ys.length
  | [], [], _, _ => rfl
  | [], _ :: _, _, h => by simp [cellsEq] at h
  | _ :: _, [], _, h => by simp [cellsEq] at h
  | x :: xs, y :: ys, b, h => by
    obtain ⟨_, _, _, _, _, _, h2, _⟩ := cellsEq_cons h
    simp [cellsEq_len h2]

/-- The cells of two arrays from 'i' on. -/
theorem run_eq_cells (d : Nat) (e : TypeId) (he : plainT P e = true) (hz : sizeT P e = some 1) : ∀ (xs ys : List AV) (b : Bool) (i : Nat) (vx vy : Array Value), cellsEq xs ys = some b →
    Rels us w K xs (vx.toList.drop i) → Rels us w K ys (vy.toList.drop i) →
    (forIn (List.range' i xs.length) ((none : Option Bool), ()) (fun j (_ : Option Bool × Unit) => (do
        let a ← part e vx (j * 1)
        let b ← part e vy (j * 1)
        let c ← Op.equalIn (d + 1) e a b
        if (!c) = true then pure (ForInStep.done (some false, ())) else pure (ForInStep.yield (none, ())) : Sem (ForInStep (Option Bool × Unit))))).run P w
      = .ok (if b then (none, ()) else (some false, ())) w := by
  intro xs
  induction xs with
  | nil =>
    intro ys b i vx vy h _ _
    cases ys with
    | nil => simp [cellsEq] at h; subst h; simp
    | cons _ _ => simp [cellsEq] at h
  | cons x xs ih =>
    intro ys b i vx vy h hx hy
    cases ys with
    | nil => simp [cellsEq] at h
    | cons y ys =>
      obtain ⟨k, m, n, b', rfl, rfl, h2, rfl⟩ := cellsEq_cons h
      obtain ⟨vx0, vxr, ex, hx0, hxr⟩ := hx.cons_inv
      obtain ⟨vy0, vyr, ey, hy0, hyr⟩ := hy.cons_inv
      have e1 := hx0.v_inv
      have e2 := hy0.v_inv
      subst e1 e2
      have g1 : vx[i]? = some (.int k m) := by
        have : (vx.toList.drop i)[0]? = some (.int k m) := by rw [ex]; rfl
        simpa using this
      have g2 : vy[i]? = some (.int k n) := by
        have : (vy.toList.drop i)[0]? = some (.int k n) := by rw [ey]; rfl
        simpa using this
      have d1 : vx.toList.drop (i + 1) = vxr := by rw [← List.drop_drop, ex]; rfl
      have d2 : vy.toList.drop (i + 1) = vyr := by rw [← List.drop_drop, ey]; rfl
      obtain ⟨ha, k', hk'⟩ := isAgg_plain (w := w) he
      have p1 : (part e vx (i * 1)).run P w = .ok (.int k m) w := by simp [part, ha, g1]
      have p2 : (part e vy (i * 1)).run P w = .ok (.int k n) w := by simp [part, ha, g2]
      have ih' := ih ys b' (i + 1) vx vy h2 (by rw [d1]; exact hxr) (by rw [d2]; exact hyr)
      simp only [List.length_cons, List.range'_succ, List.forIn_cons, Sem.run_bind, p1, p2, Result.andThen_ok, run_equalIn_int w d e k k' m n hk']
      cases hmn : (m == n)
      · simp
      · simp only [Bool.not_true, Bool.false_eq_true, if_false, Bool.true_and, Sem.run_bind, Sem.run_pure, Result.andThen_ok]
        exact ih'

theorem run_equal_array (d : Nat) (t e : TypeId) (n : Nat) (ht : P.underlying t = some (.array n e)) (he : plainT P e = true) (hz : sizeT P e = some 1) (xs ys : List AV) (b : Bool) (vx vy : Array Value)
    (h : cellsEq xs ys = some b) (hn : xs.length = n) (hx : Rels us w K xs vx.toList) (hy : Rels us w K ys vy.toList) : (Op.equalIn (d + 2) t (.agg vx) (.agg vy)).run P w = .ok b w := by
  subst hn
  have hi : ∃ i, P.info? e = some i ∧ i.size = 1 := by
    simp only [sizeT] at hz
    cases hi : P.info? e with
    | none => simp [hi] at hz
    | some i => exact ⟨i, rfl, by simpa [hi] using hz⟩
  obtain ⟨i, hi, hi1⟩ := hi
  have key := run_eq_cells (us := us) (K := K) (w := w) (P := P) d e he hz xs ys b 0 vx vy h (by simpa using hx) (by simpa using hy)
  rw [Op.equalIn]
  simp only [Sem.run_bind, run_underlying ht, Result.andThen_ok, sizeOf, typeInfo, run_program, hi, Sem.run_pure, hi1, Std.Legacy.Range.forIn_eq_forIn_range', Std.Legacy.Range.size]
  simp only [Nat.sub_zero, Nat.add_sub_cancel, Nat.div_one]
  rw [key]
  cases b <;> simp

/-! ### the binary operations -/

theorem run_int (op : BinOp) (t : TypeId) (x y : Operand) (k k' : IntKind) (m n : Int) (hk : isShift op = true ∨ k = k') {r : AV} (h : intOp op k m n = some r) :
    ∃ v, ((do eqGuard op t x y (.int k m) (.int k' n); binOp op t (.int k m) (.int k' n)) : Sem Value).run P w = .ok v w ∧ r = .v v ∧ plainV v = true := by
  simp only [Sem.run_bind, eqGuard_at_int, Sem.run_pure, Result.andThen_ok]
  cases op <;> simp only [intOp, isShift, Bool.false_eq_true, false_or] at h hk <;>
    first
      | (subst hk; simp only [Option.some.injEq] at h; subst h; exact ⟨_, by simp [binOp, Op.intArith, Op.intBits, Op.intCmp], rfl, rfl⟩)
      | (subst hk; split at h; · simp at h
         rename_i hn; simp only [Option.some.injEq] at h; subst h; exact ⟨_, by simp [binOp, Op.intDiv, hn], rfl, rfl⟩)
      | (split at h; · simp at h
         rename_i hn; simp only [Option.some.injEq] at h; subst h; exact ⟨_, by simp [binOp, Op.shift, hn], rfl, rfl⟩)

theorem boolOp_some {op : BinOp} {b : Bool} {r : AV} (h : boolOp op b = some r) : (op = .eql ∧ r = .v (.bool b)) ∨ (op = .neq ∧ r = .v (.bool !b)) := by
  unfold boolOp at h
  split at h
  · exact .inl ⟨rfl, by simpa using h.symm⟩
  · exact .inr ⟨rfl, by simpa using h.symm⟩
  · simp at h

theorem eqT_zero {t : TypeId} (h : eqT P t = some 0) : ∃ e, P.underlying t = some (.slice e) := by
  unfold eqT at h
  split at h
  · rename_i e he; exact ⟨e, he⟩
  · simp at h
  · split at h <;> simp at h
  · split at h <;> simp at h
  · simp at h

theorem eqT_one {t : TypeId} (h : eqT P t = some 1) : P.underlying t = some .bool := by
  unfold eqT at h
  split at h
  · simp at h
  · rename_i he; exact he
  · split at h <;> simp at h
  · split at h <;> simp at h
  · simp at h

/-- '==' by 'equalIn'. -/
theorem run_bool (op : BinOp) (t : TypeId) (x y : Operand) (u v : Value) (b : Bool) (hg : (eqGuard op t x y u v).run P w = .ok () w) (hb : binOp .eql t u v = (do pure (.bool (← Op.equal t u v)))) (hb' : binOp .neq t u v = (do pure (.bool (!(← Op.equal t u v)))))
    (he : (Op.equalIn 10000 t u v).run P w = .ok b w) {r : AV} (h : boolOp op b = some r) :
    ∃ v', ((do eqGuard op t x y u v; binOp op t u v) : Sem Value).run P w = .ok v' w ∧ r = .v v' ∧ plainV v' = true := by
  simp only [Sem.run_bind, hg, Result.andThen_ok]
  rcases boolOp_some h with ⟨rfl, rfl⟩ | ⟨rfl, rfl⟩
  · rw [hb]
    exact ⟨_, by simp [Op.equal, Op.maxDepth, he], rfl, rfl⟩
  · rw [hb']
    exact ⟨_, by simp [Op.equal, Op.maxDepth, he], rfl, rfl⟩

theorem run_slice_nil (d : Nat) (t e : TypeId) (ht : P.underlying t = some (.slice e)) (x : Addr) (n c n' c' : Nat) : (Op.equalIn (d + 1) t (.slice (some x) n c) (.slice none n' c')).run P w = .ok false w := by
  rw [Op.equalIn]; simp [run_underlying ht]
theorem run_nil_nil (d : Nat) (t e : TypeId) (ht : P.underlying t = some (.slice e)) (n c n' c' : Nat) : (Op.equalIn (d + 1) t (.slice none n c) (.slice none n' c')).run P w = .ok true w := by
  rw [Op.equalIn]; simp [run_underlying ht]

theorem run_eqFields (d : Nat) (vx vy : Array Value) : ∀ (fs : List Field) (i : Nat) (xs ys : List AV) (b : Bool), (fs.zipIdx i).all (fun (f, i) => f.name != "_" && plainT P f.type && f.offset == i) = true → cellsEq xs ys = some b → xs.length = fs.length →
    Rels us w K xs (vx.toList.drop i) → Rels us w K ys (vy.toList.drop i) → (Op.eqFields (d + 1) vx vy fs).run P w = .ok b w := by
  intro fs
  induction fs with
  | nil =>
    intro i xs ys b _ h hl _ _
    cases xs with
    | nil => cases ys with
      | nil => simp [cellsEq] at h; subst h; simp [Op.eqFields]
      | cons _ _ => simp [cellsEq] at h
    | cons _ _ => simp at hl
  | cons f fs ih =>
    intro i xs ys b hall h hl hx hy
    cases xs with
    | nil => simp at hl
    | cons x xs =>
      cases ys with
      | nil => simp [cellsEq] at h
      | cons y ys =>
        simp only [List.zipIdx_cons, List.all_cons, Bool.and_eq_true, bne_iff_ne, ne_eq, beq_iff_eq] at hall
        obtain ⟨⟨⟨hname, hpl⟩, hoff⟩, hall⟩ := hall
        obtain ⟨k, m, n, b', rfl, rfl, h2, rfl⟩ := cellsEq_cons h
        obtain ⟨vx0, vxr, ex, hx0, hxr⟩ := hx.cons_inv
        obtain ⟨vy0, vyr, ey, hy0, hyr⟩ := hy.cons_inv
        have e1 := hx0.v_inv
        have e2 := hy0.v_inv
        subst e1 e2
        have g1 : vx[i]? = some (.int k m) := by
          have : (vx.toList.drop i)[0]? = some (.int k m) := by rw [ex]; rfl
          simpa using this
        have g2 : vy[i]? = some (.int k n) := by
          have : (vy.toList.drop i)[0]? = some (.int k n) := by rw [ey]; rfl
          simpa using this
        have d1 : vx.toList.drop (i + 1) = vxr := by rw [← List.drop_drop, ex]; rfl
        have d2 : vy.toList.drop (i + 1) = vyr := by rw [← List.drop_drop, ey]; rfl
        obtain ⟨ha, k', hk'⟩ := isAgg_plain (w := w) hpl
        have ih' := ih (i + 1) xs ys b' hall h2 (by simpa using hl) (by rw [d1]; exact hxr) (by rw [d2]; exact hyr)
        have p1 : (part f.type vx f.offset).run P w = .ok (.int k m) w := by simp [part, ha, hoff, g1]
        have p2 : (part f.type vy f.offset).run P w = .ok (.int k n) w := by simp [part, ha, hoff, g2]
        simp only [Op.eqFields, ne_eq, hname, not_false_eq_true, if_true, Sem.run_bind, p1, p2, Result.andThen_ok, run_equalIn_int w d f.type k k' m n hk', Sem.run_ite]
        cases hmn : (m == n)
        · simp
        · simpa using ih'

theorem eqT_agg {t : TypeId} {n : Nat} (h : eqT P t = some (n + 2)) : P.eqGuardType P.depth t = false ∧
    ((∃ e, P.underlying t = some (.array n e) ∧ plainT P e = true ∧ sizeT P e = some 1) ∨ (∃ fs, P.underlying t = some (.struct fs) ∧ fs.size = n ∧ fs.toList.zipIdx.all (fun (f, i) => f.name != "_" && plainT P f.type && f.offset == i) = true ∧ P.stoodInHeld t = false)) := by
  unfold eqT at h
  split at h
  · simp at h
  · simp at h
  · rename_i m e he
    split at h
    · rename_i hc
      simp only [Bool.and_eq_true, beq_iff_eq] at hc
      simp only [Option.some.injEq, Nat.add_right_cancel_iff] at h
      subst h
      exact ⟨hc.2, .inl ⟨e, he, hc.1.1, hc.1.2⟩⟩
    · simp at h
  · rename_i fs he
    split at h
    · rename_i hc
      simp only [Bool.and_eq_true, Bool.not_eq_true', beq_iff_eq] at hc
      simp only [Option.some.injEq, Nat.add_right_cancel_iff] at h
      exact ⟨hc.2, .inr ⟨fs, he, h, hc.1.1, hc.1.2⟩⟩
    · simp at h
  · simp at h

theorem run_equal_agg {t : TypeId} {n : Nat} (h : eqT P t = some (n + 2)) (xs ys : List AV) (b : Bool) (vx vy : Array Value) (hc : cellsEq xs ys = some b) (hn : xs.length = n) (hx : Rels us w K xs vx.toList) (hy : Rels us w K ys vy.toList) :
    (Op.equalIn 10000 t (.agg vx) (.agg vy)).run P w = .ok b w := by
  obtain ⟨_, ⟨e, he, hp, hz⟩ | ⟨fs, he, hs, hall, hst⟩⟩ := eqT_agg h
  · exact run_equal_array (us := us) (K := K) 9998 t e n he hp hz xs ys b vx vy hc hn hx hy
  · have hf : P.fieldsOf t = fs := by simp [Program.fieldsOf, he]
    rw [run_equalIn_struct w 9999 t vx vy (by rw [hf]; exact he) hst, hf]
    exact run_eqFields (us := us) (K := K) 9998 vx vy fs.toList 0 xs ys b hall hc (by simp; omega) (by simpa using hx) (by simpa using hy)

theorem run_str (op : BinOp) (t : TypeId) (x y : Operand) (p q : ByteArray) (h : strOp op p q = some r) :
    ∃ v, ((do eqGuard op t x y (.string p) (.string q); binOp op t (.string p) (.string q)) : Sem Value).run P w = .ok v w ∧ r = .v v ∧ plainV v = true := by
  unfold strOp at h
  split at h
  · simp only [Option.some.injEq] at h
    exact ⟨_, by simp [eqGuard_at_string, binOp, Op.stringOp, ByteArray.toList_eq], h.symm, rfl⟩
  · simp only [Option.some.injEq] at h
    exact ⟨_, by simp [eqGuard_at_string, binOp, Op.stringOp, ByteArray.toList_eq], h.symm, rfl⟩
  · split at h
    · next hs =>
      simp only [Option.some.injEq] at h
      refine ⟨_, ?_, h.symm, rfl⟩
      have : ¬ (((p.size + q.size : Nat) : Int) > IntKind.i64.max) := by simp [IntKind.max, IntKind.bits, IntKind.signed]; omega
      simp [eqGuard_at_string, binOp, Op.stringOp, this]
      omega
    · simp at h
  · simp at h

theorem rt_bin {op : BinOp} {t ty : TypeId} {x y : Operand} (ho : o.op = .binOp op t x y ty) (hE : EnvRel us w K env a) (hG : Good us w K st) (hv : valAV env (.bin op (eqT P t) x y) = some r) : RunsTo P (execOp a.eval o) us w K st r := by
  simp only [valAV] at hv
  have h1 := aval_rel hE x
  have h2 := aval_rel hE y
  have fin : (∃ v, ((do eqGuard op t x y (a.eval x) (a.eval y); binOp op t (a.eval x) (a.eval y)) : Sem Value).run P w = .ok v w ∧ r = .v v ∧ plainV v = true) → RunsTo P (execOp a.eval o) us w K st r := by
    rintro ⟨v, hr, rfl, hp⟩
    refine .same hG (x := v) ?_ (.v K _ hp)
    simp only [execOp, ho, Sem.run_bind] at hr ⊢
    rw [hr]; rfl
  generalize aval env x = ax at hv h1
  generalize aval env y = ay at hv h2
  unfold binAV at hv
  split at hv
  · rename_i k m k' n
    split at hv
    · next hk =>
      rw [h1.v_inv, h2.v_inv] at fin
      exact fin (run_int op t x y k k' m n hk hv)
    · simp at hv
  · rename_i p q
    split at hv
    · next hq =>
      rw [h1.v_inv, h2.v_inv] at fin
      exact fin (run_bool op t x y _ _ (p == q) (by rw [eqGuard_at_bool]; rfl) rfl rfl (run_equalIn_bool' w 9999 t p q (eqT_one hq)) hv)
    · simp at hv
  · rename_i p q
    rw [h1.v_inv, h2.v_inv] at fin
    exact fin (run_str op t x y p q hv)
  · rename_i g z xs n c
    split at hv
    · next hq =>
      obtain ⟨e, he⟩ := eqT_zero hq
      obtain ⟨b, p, cap, vs, h3, _⟩ := h1.lst_inv
      rw [h3, h2.v_inv] at fin
      exact fin (run_bool op t x y _ _ false (by rw [eqGuard_at_slice]; rfl) rfl rfl (run_slice_nil 9999 t e he _ _ _ _ _) hv)
    · simp at hv
  · rename_i l q' n' c' z' b' n c
    split at hv
    · next hq =>
      obtain ⟨e, he⟩ := eqT_zero hq
      obtain ⟨b, _, _, h3, _⟩ := h1.rsl_inv
      rw [h3, h2.v_inv] at fin
      exact fin (run_bool op t x y _ _ false (by rw [eqGuard_at_slice]; rfl) rfl rfl (run_slice_nil 9999 t e he _ _ _ _ _) hv)
    · simp at hv
  · rename_i n c n' c'
    split at hv
    · next hq =>
      obtain ⟨e, he⟩ := eqT_zero hq
      rw [h1.v_inv, h2.v_inv] at fin
      exact fin (run_bool op t x y _ _ true (by rw [eqGuard_at_slice]; rfl) rfl rfl (run_nil_nil 9999 t e he _ _ _ _) hv)
    · simp at hv
  · rename_i xs ys
    split at hv
    · rename_i n b hq hc
      split at hv
      · next hn =>
        obtain ⟨vx, h3, h4⟩ := h1.agg_inv
        obtain ⟨vy, h5, h6⟩ := h2.agg_inv
        rw [h3, h5] at fin
        exact fin (run_bool op t x y _ _ b (run_eqGuard_agg w op t x y vx vy (eqT_agg hq).1) rfl rfl (run_equal_agg hq xs ys b vx vy hc hn h4 h6) hv)
      · simp at hv
    · simp at hv
  · simp at hv
end
end Go.Ev

namespace Go.Ev
open Go

section
variable {P : Program} {us : Us} {w : World} {K : Kx} {st : St}
variable {o : Oper} {env : Env} {a : Act} {r : AV}

theorem natOf_some {A : AV} {n : Nat} {x : Value} (h : natOf A = some n) (hr : Rel us w K A x) : ∃ (k : IntKind) (i : Int), x = .int k i ∧ 0 ≤ i ∧ i.toNat = n := by
  unfold natOf at h
  split at h
  · rename_i k i
    split at h
    · rename_i hi
      exact ⟨k, i, hr.v_inv, hi, by simpa using h⟩
    · simp at h
  · simp at h

inductive OptRel (us : Us) (w : World) (K : Kx) : Option AV → Option Value → Prop
  | none : OptRel us w K none none
  | some {A x} (h : Rel us w K A x) : OptRel us w K (some A) (some x)

theorem optRel_map (hE : EnvRel us w K env a) (x : Option Operand) : OptRel us w K (x.map (aval env)) (x.map a.eval) := by
  cases x with
  | none => exact .none
  | some x => exact .some (aval_rel hE x)

theorem run_sliceBound {x : Value} {k : IntKind} {i : Int} {n y : Nat} (code : BoundsCode) (hx : x = .int k i) (h0 : 0 ≤ i) (hn : i.toNat = n) (hy : n ≤ y) : (Instr.sliceBound x y code).run P w = .ok n w := by
  subst hx
  have : i ≤ y := by omega
  simp [Instr.sliceBound, asIntOf, h0, this, hn]

theorem run_sliceBounds {isSlice : Bool} {len cap l h m : Nat} {lo hi mx : Option AV} {vlo vhi vmx : Option Value} (rlo : OptRel us w K lo vlo) (rhi : OptRel us w K hi vhi) (rmx : OptRel us w K mx vmx)
    (hl : natOr 0 lo = some l) (hh : natOr len hi = some h) (hm : natOr cap mx = some m) (h1 : l ≤ h) (h2 : h ≤ m) (h3 : m ≤ cap) (h4 : mx.isSome = true → hi.isSome = true) :
    (Instr.sliceBounds isSlice len cap vlo vhi vmx).run P w = .ok (l, h, m) w := by
  have key : ∀ {A : Option AV} {v : Value} {d n y : Nat} (code : BoundsCode), OptRel us w K A (some v) → natOr d A = some n → n ≤ y → (Instr.sliceBound v y code).run P w = .ok n w := by
    intro A v d n y code hr hn hy
    cases hr with
    | some r =>
      obtain ⟨k, i, hx, h0, hn⟩ := natOf_some (by simpa [natOr] using hn) r
      exact run_sliceBound code hx h0 hn hy
  have none' : ∀ {A : Option AV} {d n : Nat}, OptRel us w K A none → natOr d A = some n → n = d := by
    intro A d n hr hn
    cases hr
    simpa [natOr] using hn.symm
  unfold Instr.sliceBounds
  cases vmx with
  | none =>
    have e1 := none' rmx hm
    subst e1
    cases vhi with
    | none =>
      have e2 := none' rhi hh
      subst e2
      cases vlo with
      | none => have e3 := none' rlo hl; subst e3; simp
      | some v => have e3 := fun c => key (y := h) c rlo hl h1; simp [e3]
    | some u =>
      have e2 := fun c => key (y := m) c rhi hh h2
      cases vlo with
      | none => have e3 := none' rlo hl; subst e3; simp [e2]
      | some v => have e3 := fun c => key (y := h) c rlo hl h1; simp [e2, e3]
  | some v1 =>
    have e1 := fun c => key (y := cap) c rmx hm h3
    cases vhi with
    | none => cases rmx; cases rhi; simp at h4
    | some u =>
      have e2 := fun c => key (y := m) c rhi hh h2
      cases vlo with
      | none => have e3 := none' rlo hl; subst e3; simp [e1, e2]
      | some v => have e3 := fun c => key (y := h) c rlo hl h1; simp [e1, e2, e3]

theorem flat_take {z : Nat} (xs : List AV) (h : ∀ x ∈ xs, x.cells.length = z) (k : Nat) (hk : k ≤ xs.length) : flat (xs.take k) = (flat xs).take (k * z) := by
  have e : flat xs = flat (xs.take k) ++ flat (xs.drop k) := by rw [← flat_append, List.take_append_drop]
  have hl : (flat (xs.take k)).length = k * z := by
    rw [flat_len (z := z) _ (fun y hy => h y (List.mem_of_mem_take hy)), List.length_take]
    congr 1; omega
  rw [e, ← hl, List.take_left]

theorem flat_drop {z : Nat} (xs : List AV) (h : ∀ x ∈ xs, x.cells.length = z) (k : Nat) (hk : k ≤ xs.length) : flat (xs.drop k) = (flat xs).drop (k * z) := by
  have e : flat xs = flat (xs.take k) ++ flat (xs.drop k) := by rw [← flat_append, List.take_append_drop]
  have hl : (flat (xs.take k)).length = k * z := by
    rw [flat_len (z := z) _ (fun y hy => h y (List.mem_of_mem_take hy)), List.length_take]
    congr 1; omega
  rw [e, ← hl, List.drop_left]

/-- A part of a slice that is a list. -/
theorem LstAt.part {g z xs c p cap vs} (h : LstAt us w K g z xs c p cap vs) (l k m : Nat) (hl : l ≤ k) (hk : k ≤ xs.length) (hm : k ≤ m) (hmc : m ≤ cap) (g' : Tag)
    (hg : Tagged us w K g' c (if m = l then p else p + l * z) (k - l) (m - l) z) :
    Rel us w K (.lst g' z ((xs.take k).drop l)) (.slice (some ⟨c, if m = l then p else p + l * z, none⟩) (k - l) (m - l)) := by
  obtain ⟨n, hn, hn2⟩ := h.lies
  have hlen : vs.length = xs.length * z := by rw [← h.rels.len, flat_len xs h.each]
  have hkz : k * z ≤ xs.length * z := Nat.mul_le_mul_right z hk
  have hlz : l * z ≤ k * z := Nat.mul_le_mul_right z hl
  have hx : ((xs.take k).drop l).length = k - l := by simp; omega
  have heach : ∀ x ∈ (xs.take k).drop l, x.cells.length = z := fun x hx => h.each x (List.mem_of_mem_take (List.mem_of_mem_drop hx))
  have hfl : flat ((xs.take k).drop l) = ((flat xs).take (k * z)).drop (l * z) := by
    rw [flat_drop (z := z) _ (fun x hx => h.each x (List.mem_of_mem_take hx)) l (by simp; omega), flat_take xs h.each k hk]
  have hvl : ((vs.take (k * z)).drop (l * z)).length = k * z - l * z := by simp; omega
  have key : LstAt us w K g' z ((xs.take k).drop l) c (if m = l then p else p + l * z) (m - l) ((vs.take (k * z)).drop (l * z)) := by
    refine ⟨⟨n, hn, ?_⟩, ?_, ?_, heach, by omega, ?_, by rw [hx]; exact hg⟩
    · rw [hvl]; split <;> omega
    · intro i hi
      rw [hvl] at hi
      by_cases e : m = l
      · have : k = l := by omega
        subst this; omega
      · rw [if_neg e]
        have := h.cells (l * z + i) (by omega)
        rw [Nat.add_assoc, this]
        simp
    · intro x hx
      exact h.one x (List.mem_of_mem_take (List.mem_of_mem_drop hx))
    · rw [hfl]; exact (h.rels.take (k * z)).drop (l * z)
  have := key.rel
  rw [hx] at this
  exact this

theorem rt_slice {x : Operand} {t e : TypeId} {z : Nat} {lo hi mx : Option Operand} (ho : o.op = .slice t x lo hi mx) (ht : P.underlying t = some (.slice e)) (hz : sizeT P e = some z)
    (hE : EnvRel us w K env a) (hG : Good us w K st) (hv : valAV env (.slice z x lo hi mx) = some r) : RunsTo P (execOp a.eval o) us w K st r := by
  simp only [valAV] at hv
  have h1 := aval_rel hE x
  have rlo := optRel_map hE lo
  have rhi := optRel_map hE hi
  have rmx := optRel_map hE mx
  have hz' : ∃ i, P.info? e = some i ∧ i.size = z := by
    simp only [sizeT] at hz
    cases hi : P.info? e with
    | none => simp [hi] at hz
    | some i => exact ⟨i, rfl, by simpa [hi] using hz⟩
  obtain ⟨ti, hti, hti2⟩ := hz'
  have run : ∀ b n cap l h m, a.eval x = .slice b n cap → (Instr.sliceBounds true n cap (lo.map a.eval) (hi.map a.eval) (mx.map a.eval)).run P w = .ok (l, h, m) w →
      (execOp a.eval o).run P w = .ok (.value (.slice (if m = l then b else b.map (·.add (l * z))) (h - l) (m - l))) w := by
    intro b n cap l h m hx hb
    simp [execOp, ho, Instr.sliceAt, run_underlying ht, Instr.slice, hx, hb, sizeOf, typeInfo, hti, hti2]
  generalize aval env x = ax at hv h1
  generalize lo.map (aval env) = alo at hv rlo
  generalize hi.map (aval env) = ahi at hv rhi
  generalize mx.map (aval env) = amx at hv rmx
  have addr : ∀ (c p l m : Nat), (if m = l then some (⟨c, p, none⟩ : Addr) else (some (⟨c, p, none⟩ : Addr)).map (·.add (l * z))) = some ⟨c, if m = l then p else p + l * z, none⟩ := by
    intro c p l m
    split <;> simp [Addr.add_lit]
  unfold sliceAV at hv
  split at hv
  · rename_i g z' xs
    obtain ⟨c, p, cap, vs, h3, h4⟩ := h1.lst_inv
    have hcap := h4.fits
    split at hv
    · next hzz =>
      subst hzz
      split at hv
      · rename_i l h hl hh
        split at hv
        · next hb =>
          have hb1 := run_sliceBounds (P := P) (isSlice := true) (cap := cap) (m := cap) rlo rhi rmx hl hh rfl hb.1 (by omega) (by omega) (by simp)
          simp only [Option.some.injEq] at hv
          subst hv
          have hr := run _ _ _ _ _ _ h3 hb1
          rw [addr] at hr
          refine .same hG hr (h4.part l h cap hb.1 hb.2 (by omega) (by omega) _ ?_)
          unfold tagSlice
          cases g with
          | any => trivial
          | full =>
            have e : cap = xs.length := h4.tag
            by_cases hc : h = xs.length ∧ l < h
            · simp only [if_pos hc]; show cap - l = h - l; omega
            · simp only [if_neg hc]; trivial
          | own t e =>
            by_cases hc : h = xs.length ∧ l = 0 ∧ 0 < h
            · obtain ⟨rfl, rfl, h0⟩ := hc
              have := h4.tag
              have e1 : cap ≠ 0 := by omega
              simpa [e1, h0] using this
            · simp only [hc, if_false]; trivial
        · simp at hv
      · rename_i l h m hl hh
        split at hv
        · rename_i m' hm
          split at hv
          · next hb =>
            obtain ⟨hb1, hb2, rfl, hb4⟩ := hb
            have hb5 := run_sliceBounds (P := P) (isSlice := true) (cap := cap) (m := m') rlo rhi rmx hl hh hm hb1 (by omega) (by omega) (fun _ => hb4)
            simp only [Option.some.injEq] at hv
            subst hv
            have hr := run _ _ _ _ _ _ h3 hb5
            rw [addr] at hr
            exact .same hG hr (h4.part l m' m' hb1 hb2 (by omega) (by omega) _ rfl)
          · simp at hv
        · simp at hv
      · simp at hv
    · simp at hv
  · rename_i l q n cp z' b
    obtain ⟨c, cap, hc, h3, hcap⟩ := h1.rsl_inv
    have hcle := hcap.le
    split at hv
    · rename_i lx h m hl hh hm
      split at hv
      · next hb =>
        obtain ⟨rfl, hb1, hb2, hb3, hb4, hb6⟩ := hb
        simp only [Option.some.injEq] at hv
        subst hv
        cases amx with
        | some mv =>
          have hb5 := run_sliceBounds (P := P) (isSlice := true) (cap := cap) rlo rhi rmx hl hh (show natOr cap (some mv) = some m from hm) hb1 hb2 (by omega) hb4
          have hr := run _ _ _ _ _ _ h3 hb5
          rw [addr] at hr
          exact .same hG hr (.rsl K l _ _ _ z b c _ hc (h1.rsl_size hc) (.inl rfl))
        | none =>
          have em : cp = m := by simpa [natOr] using hm
          subst em
          have hb5 := run_sliceBounds (P := P) (isSlice := true) (cap := cap) rlo rhi rmx hl hh rfl hb1 (by omega) (Nat.le_refl _) (by simp)
          have hr := run _ _ _ _ _ _ h3 hb5
          rw [addr] at hr
          have hb6 : lx < cp ∨ lx = 0 := hb6.resolve_left (by simp)
          have ho : (if cap = lx then q else q + lx * z) = (if cp = lx then q else q + lx * z) := by
            rcases hb6 with h6 | h6
            · rw [if_neg (by omega), if_neg (by omega)]
            · subst h6; simp
          rw [ho] at hr
          refine .same hG hr (.rsl K l _ _ _ z b c _ hc (h1.rsl_size hc) ?_)
          rcases hcap with h7 | ⟨h7, M, h8, h9⟩
          · exact .inl (by omega)
          · refine .inr ⟨by omega, M, h8, ?_⟩
            have e : lx * z + (cap - lx) * z = cap * z := by rw [← Nat.add_mul]; congr 1; omega
            split
            · have : (cap - lx) * z ≤ cap * z := Nat.mul_le_mul_right z (by omega)
              omega
            · omega
      · simp at hv
    · simp at hv
  · have h3 := h1.v_inv
    split at hv
    · rename_i hl hh hm
      split at hv
      · next hb =>
        have hb5 := run_sliceBounds (P := P) (isSlice := true) (cap := 0) rlo rhi rmx hl hh hm (Nat.le_refl _) (Nat.le_refl _) (Nat.le_refl _) hb
        simp only [Option.some.injEq] at hv
        subst hv
        have hr := run _ _ _ _ _ _ h3 hb5
        exact .same hG hr (.v K _ rfl)
      · simp at hv
    · simp at hv
  · simp at hv

theorem rt_slicea {x : Operand} {t e : TypeId} {n z : Nat} {ag : Bool} {lo hi mx : Option Operand} (ho : o.op = .slice t x lo hi mx) (ht : P.underlying t = some (.array n e)) (hz : sizeT P e = some z)
    (hE : EnvRel us w K env a) (hG : Good us w K st) (hv : valAV env (.slicea n z ag x lo hi mx) = some r) : RunsTo P (execOp a.eval o) us w K st r := by
  simp only [valAV] at hv
  have h1 := aval_rel hE x
  have rlo := optRel_map hE lo
  have rhi := optRel_map hE hi
  have rmx := optRel_map hE mx
  have hz' : ∃ i, P.info? e = some i ∧ i.size = z := by
    simp only [sizeT] at hz
    cases hi : P.info? e with
    | none => simp [hi] at hz
    | some i => exact ⟨i, rfl, by simpa [hi] using hz⟩
  obtain ⟨ti, hti, hti2⟩ := hz'
  generalize aval env x = ax at hv h1
  unfold sliceaAV at hv
  split at hv
  · rename_i l q
    obtain ⟨c, hc, h3, hsz2⟩ := h1.ptr_inv'
    split at hv
    · rename_i lx h m hl hh hm
      split at hv
      · next hb =>
        obtain ⟨hb1, hb2, hb3, hb4⟩ := hb
        have hb5 := run_sliceBounds (P := P) (isSlice := false) (cap := n) rlo rhi rmx hl hh hm hb1 hb2 hb3 hb4
        simp only [Option.some.injEq] at hv
        subst hv
        refine .same hG (x := .slice (some ⟨c, if m = lx then q else q + lx * z, none⟩) (h - lx) (m - lx)) ?_ (.rsl K l _ _ _ z ag c _ hc hsz2 (.inl rfl))
        simp only [execOp, ho, Instr.sliceAt, Sem.run_bind, run_underlying ht, Result.andThen_ok, Instr.sureAddr, h3, Sem.run_pure, hb5, sizeOf, typeInfo, run_program, hti, hti2, Addr.add_lit]
        congr 3
        split <;> rfl
      · simp at hv
    · simp at hv
  · simp at hv

theorem readCells_rel {ag : Bool} {s q : Nat} {cs : List AV} {vs : List Value} {r : AV} (h : readCells ag s q cs = some r) (hr : Rels us w K cs vs) :
    (ag = true ∧ q + s ≤ vs.length ∧ Rel us w K r (.agg ((vs.drop q).take s).toArray)) ∨ (ag = false ∧ ∃ x, vs[q]? = some x ∧ Rel us w K r x) := by
  unfold readCells at h
  cases ag with
  | true =>
    simp only [if_true] at h
    split at h
    · next hb =>
      simp only [Option.some.injEq] at h
      subst h
      refine .inl ⟨rfl, by rw [← hr.len]; exact hb, Rel.mkAgg ?_⟩
      simpa using (hr.drop q).take s
    · simp at h
  | false =>
    simp only [Bool.false_eq_true, if_false] at h
    obtain ⟨x, h1, h2⟩ := hr.get h
    exact .inr ⟨rfl, x, h1, h2⟩

theorem run_isAgg {e : TypeId} {ag : Bool} (h : isAggT P e = some ag) : (Go.isAgg e).run P w = .ok ag w := by
  unfold isAggT at h
  cases hd : P.underlying e with
  | none => simp [hd] at h
  | some d =>
    rw [hd] at h
    cases d <;> simp only [Option.some.injEq] at h <;> subst h <;> simp [Go.isAgg, run_underlying hd]

theorem run_part {e : TypeId} {z q : Nat} {ag : Bool} {cs : List AV} {vs : Array Value} {r : AV} (hz : sizeT P e = some z) (hag : isAggT P e = some ag) (h : readCells ag z q cs = some r) (hr : Rels us w K cs vs.toList) :
    ∃ x, (part e vs q).run P w = .ok x w ∧ Rel us w K r x := by
  have hz' : ∃ i, P.info? e = some i ∧ i.size = z := by
    simp only [sizeT] at hz
    cases hi : P.info? e with
    | none => simp [hi] at hz
    | some i => exact ⟨i, rfl, by simpa [hi] using hz⟩
  obtain ⟨ti, hti, hti2⟩ := hz'
  have hagg := run_isAgg (w := w) hag
  rcases readCells_rel h hr with ⟨rfl, hb, h2⟩ | ⟨rfl, x, hx, h2⟩
  · refine ⟨_, ?_, h2⟩
    simp only [part, Sem.run_bind, hagg, Result.andThen_ok, if_true, sizeOf, typeInfo, run_program, hti, Sem.run_pure, hti2]
    congr 2
    apply Array.ext'
    simp
  · refine ⟨x, ?_, h2⟩
    have : vs[q]? = some x := by simpa using hx
    simp [part, hagg, this]
end
end Go.Ev

namespace Go.Ev
open Go

section
variable {P : Program} {us : Us} {w : World} {K : Kx} {st : St}
variable {o : Oper} {env : Env} {a : Act} {r : AV}

theorem rt_field {x : Operand} {t : TypeId} {f s : Nat} {ag : Bool} {fs : Array Field} {fd : Field} (ho : o.op = .field t x f) (ht : P.underlying t = some (.struct fs)) (hf : fs[f]? = some fd) (hs : sizeT P fd.type = some s) (hag : isAggT P fd.type = some ag)
    (hE : EnvRel us w K env a) (hG : Good us w K st) (hv : valAV env (.field fd.offset s ag x) = some r) : RunsTo P (execOp a.eval o) us w K st r := by
  simp only [valAV] at hv
  have h1 := aval_rel hE x
  generalize aval env x = ax at hv h1
  unfold fieldAV at hv
  split at hv
  · obtain ⟨vs, h2, h3⟩ := h1.agg_inv
    obtain ⟨y, hy, hr⟩ := run_part (P := P) hs hag hv h3
    exact .same hG (x := y) (by simp [execOp, ho, Instr.field, run_underlying ht, hf, asAgg, h2, hy]) hr
  · simp at hv

theorem rt_indexV {x i : Operand} {t e : TypeId} {n z : Nat} {ag : Bool} (ho : o.op = .index t x i) (ht : P.underlying t = some (.array n e)) (hz : sizeT P e = some z) (hag : isAggT P e = some ag)
    (hE : EnvRel us w K env a) (hG : Good us w K st) (hv : valAV env (.indexV n z ag x i) = some r) : RunsTo P (execOp a.eval o) us w K st r := by
  simp only [valAV] at hv
  have h1 := aval_rel hE x
  have h2 := aval_rel hE i
  have hz' : ∃ i, P.info? e = some i ∧ i.size = z := by
    simp only [sizeT] at hz
    cases hi : P.info? e with
    | none => simp [hi] at hz
    | some i => exact ⟨i, rfl, by simpa [hi] using hz⟩
  obtain ⟨ti, hti, hti2⟩ := hz'
  generalize aval env x = ax at hv h1
  generalize aval env i = ai at hv h2
  unfold indexVAV at hv
  split at hv
  · rename_i cs k j
    split at hv
    · next hj =>
      obtain ⟨vs, h3, h4⟩ := h1.agg_inv
      obtain ⟨y, hy, hr⟩ := run_part (P := P) (w := w) hz hag hv h4
      refine .same hG (x := y) ?_ hr
      simp only [execOp, ho, Instr.index, Sem.run_bind, h2.v_inv, asIntOf, Sem.run_pure, Result.andThen_ok, run_underlying ht, h3, hj.1, hj.2, and_self, if_true, sizeOf, typeInfo, run_program, hti, hti2, hy]
    · simp at hv
  · simp at hv

theorem rt_indexStr {x i : Operand} {t : TypeId} (ho : o.op = .index t x i) (ht : P.underlying t = some .string) (hE : EnvRel us w K env a) (hG : Good us w K st) (hv : valAV env (.indexStr x i) = some r) :
    RunsTo P (execOp a.eval o) us w K st r := by
  simp only [valAV] at hv
  have h1 := aval_rel hE x
  have h2 := aval_rel hE i
  generalize aval env x = ax at hv h1
  generalize aval env i = ai at hv h2
  unfold indexStrAV at hv
  split at hv
  · rename_i s k j
    split at hv
    · next hj =>
      cases hb : s[j.toNat]? with
      | none => simp [hb] at hv
      | some b =>
        simp only [hb, Option.map_some, Option.some.injEq] at hv
        subst hv
        refine .same hG (x := .int .u8 b.toNat) ?_ (.v K _ rfl)
        simp only [execOp, ho, Instr.index, Sem.run_bind, h2.v_inv, asIntOf, Sem.run_pure, Result.andThen_ok, run_underlying ht, h1.v_inv, hj, if_true, hb]
    · simp at hv
  · simp at hv

/-! ### values that are put together -/

theorem putCells_len (cs : List AV) (q : Nat) (xs : List AV) : (putCells cs q xs).length = cs.length := by
  induction xs generalizing cs q with
  | nil => rfl
  | cons x r ih => simp [putCells, ih]

theorem foldl_put (q : Nat) : ∀ (l : List Value) (k : Nat) (cells : Array Value) (cs xs : List AV), Rels us w K cs cells.toList → Rels us w K xs l →
    Rels us w K (putCells cs (q + k) xs) ((l.zipIdx k).foldl (fun (cs : Array Value) (p : Value × Nat) => cs.setIfInBounds (q + p.2) p.1) cells).toList := by
  intro l
  induction l with
  | nil => intro k cells cs xs h hx; cases xs with
    | nil => simpa [putCells] using h
    | cons _ _ => exact absurd hx.len (by simp)
  | cons v l ih =>
    intro k cells cs xs h hx
    cases xs with
    | nil => exact absurd hx.len (by simp)
    | cons x xs =>
      obtain ⟨v', l', e, h1, h2⟩ := hx.cons_inv
      simp only [List.cons.injEq] at e
      obtain ⟨rfl, rfl⟩ := e
      simp only [List.zipIdx_cons, List.foldl_cons, putCells]
      have := ih (k + 1) (cells.setIfInBounds (q + k) v) (cs.set (q + k) x) xs (by simpa using h.set (q + k) h1) h2
      simpa [Nat.add_assoc] using this

theorem zipIdx_foldl (vc : Array Value) (q : Nat) (cells : Array Value) :
    vc.zipIdx.foldl (fun (cs : Array Value) (x : Value × Nat) => match x with | (c, j) => cs.setIfInBounds (q + j) c) cells = (vc.toList.zipIdx 0).foldl (fun (cs : Array Value) (p : Value × Nat) => cs.setIfInBounds (q + p.2) p.1) cells := by
  rw [← Array.foldl_toList, Array.toList_zipIdx]

theorem foldl_put' (q : Nat) (vc cells : Array Value) (cs xs : List AV) (h : Rels us w K cs cells.toList) (hx : Rels us w K xs vc.toList) :
    Rels us w K (putCells cs q xs) (vc.zipIdx.foldl (fun (cs : Array Value) (x : Value × Nat) => match x with | (c, j) => cs.setIfInBounds (q + j) c) cells).toList := by
  rw [zipIdx_foldl]
  exact foldl_put q vc.toList 0 cells cs xs h hx

theorem fill_rel (place : Nat → Option (Nat × Nat)) : ∀ (ps : List (Nat × Operand)) (ps' : List (Nat × Nat × AV)) (cells : Array Value) (cs cs' : List AV), EnvRel us w K env a →
    (ps'.map fun p => (p.1, p.2.1)) = ps.filterMap (fun p => place p.1) → (∀ p ∈ ps, (place p.1).isSome = true) → (ps'.map fun p => p.2.2) = ps.map (fun p => aval env p.2) →
    Rels us w K cs cells.toList → setParts cs ps' = some cs' → ∃ cells', Instr.fill place cells (ps.map fun (i, x) => (i, a.eval x)) = some cells' ∧ Rels us w K cs' cells'.toList := by
  intro ps
  induction ps with
  | nil =>
    intro ps' cells cs cs' _ _ _ h2 h h3
    cases ps' with
    | nil => simp [setParts] at h3; subst h3; exact ⟨cells, rfl, h⟩
    | cons _ _ => simp at h2
  | cons p ps ih =>
    intro ps' cells cs cs' hE h0 h1 h2 h h3
    cases ps' with
    | nil => simp at h2
    | cons p' ps' =>
      obtain ⟨i, x⟩ := p
      obtain ⟨q, s, y⟩ := p'
      have hs := h1 (i, x) (by simp)
      obtain ⟨⟨q1, s1⟩, hp⟩ := Option.isSome_iff_exists.1 hs
      simp only at hp
      simp only [List.map_cons, List.filterMap_cons, hp, List.cons.injEq, Prod.mk.injEq] at h0
      obtain ⟨⟨rfl, rfl⟩, h0⟩ := h0
      simp only [List.map_cons, List.cons.injEq] at h2
      obtain ⟨rfl, h2⟩ := h2
      simp only [setParts] at h3
      split at h3
      · next hc =>
        obtain ⟨hc1, hc2, hc3⟩ := hc
        have hx := aval_rel hE x
        have hcells := hx.cells hc1
        have e1 : (a.eval x).cells.size = s := by rw [← hc2, hcells.len]; simp
        have e2 : cells.size = cs.length := by rw [h.len]; simp
        obtain ⟨cells', h4, h5⟩ := ih ps' _ _ cs' hE h0 (fun p hp => h1 p (by simp [hp])) h2 (foldl_put' q (a.eval x).cells cells cs _ h hcells) h3
        refine ⟨cells', ?_, h5⟩
        simp only [List.map_cons, Instr.fill, hp]
        rw [if_neg]
        · exact h4
        · simp [e1, e2]; omega
      · simp at h3

theorem zero_run {t : TypeId} {z : Value} (h : zeroT P t = some z) : (zeroValue t).run P w = .ok z w := by
  simp only [zeroT] at h
  cases hi : P.info? t with
  | none => simp [hi] at h
  | some i => simp only [hi, Option.bind_some] at h; simp [zeroValue, typeInfo, hi, h]

theorem size_run {t : TypeId} {z : Nat} (h : sizeT P t = some z) : (sizeOf t).run P w = .ok z w := by
  simp only [sizeT] at h
  cases hi : P.info? t with
  | none => simp [hi] at h
  | some i => simp only [hi, Option.map_some, Option.some.injEq] at h; simp [sizeOf, typeInfo, hi, h]

theorem zcells_rel (z : Value) (h : z.cells.toList.all plainV = true) : Rels us w K (zcells z) z.cells.toList := rels_v _ h

theorem plain_of_zero {z : Value} : (zcells z).all storable = true → z.cells.toList.all plainV = true := by
  simp only [zcells, List.all_map, List.all_eq_true]
  intro h x hx
  have := h x hx
  simp only [Function.comp] at this
  cases x <;> simp_all [storable, plainV]

theorem run_fieldPlaces (fs : Array Field) (h : fs.all (fun f => (sizeT P f.type).isSome) = true) :
    ((fs.mapM fun f => do pure (f.offset, ← sizeOf f.type)) : Sem (Array (Nat × Nat))).run P w = .ok (fs.map fun f => (f.offset, (sizeT P f.type).getD 0)) w := by
  rw [Array.mapM_eq_mapM_toList]
  have key : ∀ (l : List Field), (∀ f ∈ l, (sizeT P f.type).isSome = true) → ((l.mapM fun f => do pure (f.offset, ← sizeOf f.type)) : Sem (List (Nat × Nat))).run P w = .ok (l.map fun f => (f.offset, (sizeT P f.type).getD 0)) w := by
    intro l
    induction l with
    | nil => intro _; rfl
    | cons f l ih =>
      intro hl
      obtain ⟨s, hs⟩ := Option.isSome_iff_exists.1 (hl f (by simp))
      simp only [List.mapM_cons, Sem.run_bind, size_run hs, Result.andThen_ok, Sem.run_pure, ih (fun g hg => hl g (by simp [hg])), List.map_cons, hs, Option.getD_some]
  rw [Sem.run_map, key fs.toList (by
    intro f hf
    rw [← Array.all_toList] at h
    exact List.all_eq_true.1 h f hf)]
  simp only [Result.andThen_ok, Result.ok.injEq, and_true]
  apply Array.ext'
  simp

theorem mapM_opt {α β : Type} {f : α → Option β} : ∀ {l : List α} {l' : List β}, l.mapM f = some l' → l'.length = l.length ∧ ∀ i (h : i < l.length) (h' : i < l'.length), f l[i] = some l'[i]
  | [], l', h => by simp at h; subst h; simp
  | x :: l, l', h => by
    rw [List.mapM_cons] at h
    cases hx : f x with
    | none => simp [hx] at h
    | some y =>
      cases hl : l.mapM f with
      | none => simp [hx, hl] at h
      | some ys =>
        simp [hx, hl] at h
        subst h
        obtain ⟨h1, h2⟩ := mapM_opt hl
        refine ⟨by simp [h1], fun i hi hi' => ?_⟩
        cases i with
        | zero => simpa using hx
        | succ i => simpa using h2 i (by simpa using hi) (by simpa using hi')

theorem rt_build_struct {t : TypeId} {ps : Array (Nat × Operand)} {fs : Array Field} {zero : Value} {ps' : List (Nat × Nat × Operand)} (ho : o.op = .build t ps) (hz : zeroT P t = some zero) (hzp : (zcells zero).all storable = true) (ht : P.underlying t = some (.struct fs))
    (hall : fs.all (fun f => (sizeT P f.type).isSome) = true) (hps : (ps.toList.mapM fun (p : Nat × Operand) => (fs[p.1]?).bind fun (f : Field) => (sizeT P f.type).map fun s => (f.offset, s, p.2)) = some ps')
    (hE : EnvRel us w K env a) (hG : Good us w K st) (hv : valAV env (.build (zcells zero) ps') = some r) : RunsTo P (execOp a.eval o) us w K st r := by
  simp only [valAV] at hv
  split at hv
  · rename_i cs' hset
    simp only [Option.some.injEq] at hv
    subst hv
    have hz0 : Rels us w K (zcells zero) zero.cells.toList := zcells_rel zero (plain_of_zero hzp)
    have hpl := mapM_opt hps
    let place : Nat → Option (Nat × Nat) := ((fs.map fun f => (f.offset, (sizeT P f.type).getD 0))[·]?)
    have step : ∀ (p : Nat × Operand) (y : Nat × Nat × Operand), ((fs[p.1]?).bind fun (f : Field) => (sizeT P f.type).map fun s => (f.offset, s, p.2)) = some y → place p.1 = some (y.1, y.2.1) ∧ y.2.2 = p.2 := by
      intro p y h
      cases hf : fs[p.1]? with
      | none => simp [hf] at h
      | some f =>
        simp only [hf, Option.bind_some] at h
        cases hs : sizeT P f.type with
        | none => simp [hs] at h
        | some s =>
          simp only [hs, Option.map_some, Option.some.injEq] at h
          subst h
          simp [place, hf, hs]
    have hlist : ∀ (l : List (Nat × Operand)) (l' : List (Nat × Nat × Operand)), l'.length = l.length → (∀ i (h : i < l.length) (h' : i < l'.length), place l[i].1 = some (l'[i].1, l'[i].2.1) ∧ l'[i].2.2 = l[i].2) →
        ((withO2 env l').map fun p => (p.1, p.2.1)) = l.filterMap (fun p => place p.1) ∧ (∀ p ∈ l, (place p.1).isSome = true) ∧ ((withO2 env l').map fun p => p.2.2) = l.map (fun p => aval env p.2) := by
      intro l
      induction l with
      | nil => intro l' hl _; cases l' with
        | nil => simp [withO2]
        | cons _ _ => simp at hl
      | cons p l ih =>
        intro l' hl hh
        cases l' with
        | nil => simp at hl
        | cons y l' =>
          obtain ⟨h1, h2, h3⟩ := ih l' (by simpa using hl) (fun i h h' => by
            have := hh (i + 1) (by simpa using h) (by simpa using h')
            simp only [List.getElem_cons_succ] at this
            exact this)
          obtain ⟨h4, h5⟩ := hh 0 (by simp) (by simp)
          simp only [List.getElem_cons_zero] at h4 h5
          refine ⟨?_, ?_, ?_⟩
          · simp only [withO2, List.map_cons, List.filterMap_cons, h4]
            simp only [withO2] at h1
            simp [← h1]
          · intro q hq
            rcases List.mem_cons.1 hq with rfl | hq
            · simp [h4]
            · exact h2 q hq
          · simp only [withO2, List.map_cons, List.map_map] at h3 ⊢
            rw [← h3, h5]
    obtain ⟨h1, h2, h3⟩ := hlist ps.toList ps' hpl.1 (fun i h h' => step _ _ (hpl.2 i h h'))
    obtain ⟨cells', h4, h5⟩ := fill_rel (env := env) (a := a) place ps.toList (withO2 env ps') zero.cells (zcells zero) cs' hE h1 h2 h3 hz0 hset
    refine .same hG (x := .agg cells') ?_ (Rel.mkAgg h5)
    simp only [execOp, ho, Instr.build, Sem.run_bind, zero_run hz, Result.andThen_ok, run_underlying ht, run_fieldPlaces fs hall]
    have e : (ps.map fun (x : Nat × Operand) => match x with | (i, x) => (i, a.eval x)).toList = ps.toList.map fun (i, x) => (i, a.eval x) := by simp
    rw [e, h4]
    rfl
  · simp at hv

theorem rt_build_array {t e : TypeId} {n s : Nat} {ps : Array (Nat × Operand)} {zero : Value} (ho : o.op = .build t ps) (hz : zeroT P t = some zero) (hzp : (zcells zero).all storable = true) (ht : P.underlying t = some (.array n e)) (hs : sizeT P e = some s)
    (hE : EnvRel us w K env a) (hG : Good us w K st) (hv : valAV env (.build (zcells zero) (ps.toList.map fun (p : Nat × Operand) => (p.1 * s, s, p.2))) = some r) : RunsTo P (execOp a.eval o) us w K st r := by
  simp only [valAV] at hv
  split at hv
  · rename_i cs' hset
    simp only [Option.some.injEq] at hv
    subst hv
    have hz0 : Rels us w K (zcells zero) zero.cells.toList := zcells_rel zero (plain_of_zero hzp)
    obtain ⟨cells', h4, h5⟩ := fill_rel (env := env) (a := a) (fun i => some (i * s, s)) ps.toList (withO2 env (ps.toList.map fun (p : Nat × Operand) => (p.1 * s, s, p.2))) zero.cells (zcells zero) cs' hE
      (by simp [withO2, Function.comp_def]) (by simp) (by simp [withO2, Function.comp_def]) hz0 hset
    refine .same hG (x := .agg cells') ?_ (Rel.mkAgg h5)
    simp only [execOp, ho, Instr.build, Sem.run_bind, zero_run hz, Result.andThen_ok, run_underlying ht, size_run hs]
    have e : (ps.map fun (x : Nat × Operand) => match x with | (i, x) => (i, a.eval x)).toList = ps.toList.map fun (i, x) => (i, a.eval x) := by simp
    rw [e, h4]
    rfl
  · simp at hv
end
end Go.Ev

namespace Go.Ev
open Go

section
variable {P : Program} {us : Us} {w : World} {K : Kx} {st : St}

/-! ## New memory -/

def Us.new (us : Us) (c n : Nat) : Us := fun x => if x = c then some n else us x
def Kx.newL (K : Kx) (l c : Nat) : Kx := { K with lm := fun x => if x = l then some c else K.lm x }

theorem usLe_alloc (h : ∀ c n, us c = some n → c < w.heap.size) (o : Obj) (us' : Us) (hu : ∀ c, c < w.heap.size → us' c = us c) : UsLe us w us' (w.alloc o) := by
  intro c n hc
  have hlt := h c n hc
  exact ⟨n, (hu c hlt).trans hc, Nat.le_refl _, fun i _ => by rw [World.cell?_alloc_lt]; exact hlt⟩

theorem SizeAt.lt {c n} (h : SizeAt w c n) : c < w.heap.size := by
  obtain ⟨cur, ty, h1, _⟩ := h
  exact (Array.getElem?_eq_some_iff.1 h1).1
theorem SizeAt.alloc {c n} (h : SizeAt w c n) (o : Obj) : SizeAt (w.alloc o) c n := by
  have hlt := h.lt
  obtain ⟨cur, ty, h1, h2⟩ := h
  exact ⟨cur, ty, (heap_alloc_old w o c hlt).trans h1, h2⟩

theorem kLe_alloc (hG : Good us w K st) (o : Obj) (us' : Us) (hu : ∀ c, c < w.heap.size → us' c = us c) (K' : Kx) (hT : K'.T = K.T) (htk : K'.tk = K.tk) (hlm : ∀ l c, K.lm l = some c → K'.lm l = some c) : KLe us w K us' (w.alloc o) K' := by
  refine ⟨fun l c h => ⟨hlm l c h, fun n hn => hn.alloc o⟩, fun t m hm => ⟨m, by rw [hT]; exact hm, Nat.le_refl _, fun _ c hc => ?_⟩⟩
  obtain ⟨n, hn⟩ := hG.tkus t c hc
  have hlt := hG.uslt c n hn
  exact ⟨by rw [htk]; exact hc, hu c hlt, fun n hn => hn.alloc o⟩

theorem ext_alloc (hG : Good us w K st) (o : Obj) (us' : Us) (hu : ∀ c, c < w.heap.size → us' c = us c) (K' : Kx) (hT : K'.T = K.T) (htk : K'.tk = K.tk) (hlm : ∀ l c, K.lm l = some c → K'.lm l = some c)
    (hnew : ∀ l c, K'.lm l = some c → (∃ l0, K.lm l0 = some c) ∨ w.heap.size ≤ c) : Ext us w K us' (w.alloc o) K' where
  os := rfl
  tape := rfl
  output := rfl
  size := by simp
  sz := fun c n h => h.alloc o
  usle := usLe_alloc hG.uslt o us' hu
  kle := kLe_alloc hG o us' hu K' hT htk hlm
  frame := fun c hc _ _ => ⟨heap_alloc_old w o c hc, hu c hc⟩
  usNone := fun c hc h _ => (hu c hc).trans h
  lmNew := hnew
  tkNew := fun t c h => .inl (by rw [← htk]; exact h)

theorem CellVals.heap {w' c vs} (h : CellVals w c vs) (hb : w'.heap[c]? = w.heap[c]?) : CellVals w' c vs := by
  unfold CellVals at *
  rw [hb]; exact h
theorem ObjVals.heap {w' c vs} (h : ObjVals w c vs) (hb : w'.heap[c]? = w.heap[c]?) : ObjVals w' c vs := by
  unfold ObjVals at *
  rw [hb]; exact h

/-- A block whose values stay, seen in another way. -/
theorem BlkOk.conv {us' w' K' c cs cs'} (h : BlkOk us w K c cs) (hb : w'.heap[c]? = w.heap[c]?) (hr : ∀ vs, Rels us w K cs vs → Rels us' w' K' cs' vs) : BlkOk us' w' K' c cs' := by
  obtain ⟨vs, h1, h0, h2⟩ := h
  have hl : cs'.length = cs.length := (hr _ h2).len.trans h2.len.symm
  refine ⟨vs, ?_, by rw [hl]; exact h0, by rw [hl]; exact hr _ h2⟩
  rcases h1 with h1 | ⟨h1, h3⟩
  · exact .inl (h1.heap hb)
  · refine .inr ⟨h1.heap hb, ?_⟩
    rcases h3 with rfl | h3
    · exact .inl (List.eq_nil_of_length_eq_zero hl)
    · exact .inr (hl.trans h3)

theorem BlkOk.dead {us' w' K' c cs} (h : BlkOk us w K c cs) (hb : w'.heap[c]? = w.heap[c]?) : BlkOk us' w' K' c [] := by
  obtain ⟨vs, h1, _, _⟩ := h
  refine ⟨vs, ?_, by simp, by simpa using Rels.nil⟩
  rcases h1 with h1 | ⟨h1, _⟩
  · exact .inl (h1.heap hb)
  · exact .inr ⟨h1.heap hb, .inl rfl⟩

theorem BlkOk.ofCells {c cs} (h : ∃ cur ty, w.heap[c]? = some (.cells cur ty (0, 0)) ∧ cs.length ≤ cur.size ∧ Rels us w K cs (cur.toList.take cs.length) ∧ ∀ x ∈ cur.toList, x.oneCell' = true) : BlkOk us w K c cs := by
  obtain ⟨cur, ty, h1, h0, h2, h3⟩ := h
  exact ⟨cur.toList, .inl ⟨⟨cur, ty, h1, rfl⟩, h3⟩, by simpa using h0, h2⟩

theorem BlkOk.cells {c cs} (h : BlkOk us w K c cs) (hs : ∃ n, SizeAt w c n) : ∃ cur ty, w.heap[c]? = some (.cells cur ty (0, 0)) ∧ cs.length ≤ cur.size ∧ Rels us w K cs (cur.toList.take cs.length) ∧ ∀ x ∈ cur.toList, x.oneCell' = true := by
  obtain ⟨vs, h1, h0, h2⟩ := h
  obtain ⟨n, cur, ty, h3, _⟩ := hs
  rcases h1 with ⟨⟨cur', ty', h4, rfl⟩, h5⟩ | ⟨h1, _⟩
  · exact ⟨cur', ty', h4, by simpa using h0, h2, h5⟩
  · rcases h1 with ⟨s, pos, h4, _⟩ | ⟨es, clock, h4, _⟩ <;> rw [h3] at h4 <;> simp at h4

theorem BlkOk.obj {c ks cs} (h : BlkOk us w K c (.tup ks :: cs)) : ∃ vs, ObjVals w c vs ∧ Rels us w K (.tup ks :: cs) vs := by
  obtain ⟨vs, h1, h0, h2⟩ := h
  rcases h1 with ⟨_, h5⟩ | ⟨h1, h3⟩
  · cases vs with
    | nil => simp at h0
    | cons v r =>
      rw [List.length_cons, List.take_succ_cons] at h2
      obtain ⟨x, r', e, h6, _⟩ := h2.cons_inv
      simp only [List.cons.injEq] at e
      obtain ⟨vs', e2, _⟩ := h6.tup_inv
      have := h5 v (by simp)
      rw [e.1, e2] at this
      simp [Value.oneCell'] at this
  · refine ⟨vs, h1, ?_⟩
    rcases h3 with h3 | h3
    · simp at h3
    · rw [h3, List.take_length] at h2; exact h2

theorem BlkOk.ofObj {c cs vs} (h1 : ObjVals w c vs) (h2 : Rels us w K cs vs) : BlkOk us w K c cs :=
  ⟨vs, .inr ⟨h1, .inr h2.len⟩, Nat.le_of_eq h2.len, by rw [h2.len, List.take_length]; exact h2⟩

theorem BlkOk.mono {us' w' K' c cs} (h : BlkOk us w K c cs) (hu : UsLe us w us' w') (hK : KLe us w K us' w' K') (hb : w'.heap[c]? = w.heap[c]?) : BlkOk us' w' K' c cs :=
  h.conv hb fun _ h2 => h2.mono hu hK

theorem BlkOk.lt {c cs} (h : BlkOk us w K c cs) : c < w.heap.size := by
  obtain ⟨vs, h1, _⟩ := h
  rcases h1 with ⟨⟨cur, ty, h1, _⟩, _⟩ | ⟨⟨s, pos, h1, _⟩ | ⟨es, clock, h1, _⟩, _⟩ <;> exact (Array.getElem?_eq_some_iff.1 h1).1

theorem Good.lmltH (hG : Good us w K st) {l c} (h : K.lm l = some c) : c < w.heap.size := by
  have hl := hG.lmlt l c h
  exact (hG.blk l c _ h (List.getElem?_eq_getElem hl)).lt

/-- A new block that is not written again. -/
theorem good_alloc_us (hG : Good us w K st) (cells : Array Value) (e : TypeId) : Good (us.new w.heap.size cells.size) (w.alloc (.cells cells e)) K st := by
  have hu : ∀ c, c < w.heap.size → us.new w.heap.size cells.size c = us c := fun c hc => by simp [Us.new, Nat.ne_of_lt hc]
  refine ⟨hG.T, hG.lmlt, fun l c cs hl hs => ?_, hG.inj, hG.tkinj, hG.tklt, fun t c h => ?_, fun c n h => ?_, fun l c h => ?_, hG.lmtk⟩
  · exact (hG.blk l c cs hl hs).mono (usLe_alloc hG.uslt _ _ hu) (kLe_alloc hG _ _ hu K rfl rfl (fun _ _ h => h)) (heap_alloc_old w _ c (hG.lmltH hl))
  · obtain ⟨n, hn⟩ := hG.tkus t c h
    exact ⟨n, (hu c (hG.uslt c n hn)).trans hn⟩
  · simp only [Us.new] at h
    split at h
    · next hc => subst hc; simp
    · have := hG.uslt c n h; simp; omega
  · rw [hu c (hG.lmltH h)]; exact hG.disj l c h

theorem Good.tkltH (hG : Good us w K st) {t c} (h : K.tk t = some c) : c < w.heap.size := by
  obtain ⟨n, hn⟩ := hG.tkus t c h
  exact hG.uslt c n hn

theorem newL_le (hG : Good us w K st) (l : Nat) (o : Obj) (hfree : K.lm l = none) : UsLe us w us (w.alloc o) ∧ KLe us w K us (w.alloc o) (K.newL l w.heap.size) := by
  refine ⟨usLe_alloc hG.uslt o us (fun _ _ => rfl), kLe_alloc hG o us (fun _ _ => rfl) (K.newL l w.heap.size) rfl rfl (fun l' c h => ?_)⟩
  simp only [Kx.newL]
  split
  · next e => subst e; rw [hfree] at h; exact absurd h (by simp)
  · exact h

/-- A new block of the store. -/
theorem good_alloc_o (hG : Good us w K st) (ob : Obj) (l : Nat) (cs : List AV) (hl : l < st.store.length) (hfree : K.lm l = none) (hst : st.store[l]? = some cs)
    (hb : BlkOk us (w.alloc ob) (K.newL l w.heap.size) w.heap.size cs) : Good us (w.alloc ob) (K.newL l w.heap.size) st := by
  have hlm : ∀ l' c, K.lm l' = some c → (K.newL l w.heap.size).lm l' = some c := by
    intro l' c h
    simp only [Kx.newL]
    split
    · next e => subst e; rw [hfree] at h; exact absurd h (by simp)
    · exact h
  obtain ⟨hul, hkl⟩ := newL_le hG l ob hfree
  have inv : ∀ l' c, (K.newL l w.heap.size).lm l' = some c → (l' = l ∧ c = w.heap.size) ∨ (l' ≠ l ∧ K.lm l' = some c) := by
    intro l' c h
    simp only [Kx.newL] at h
    split at h
    · next e => exact .inl ⟨e, by simpa using h.symm⟩
    · next e => exact .inr ⟨e, h⟩
  refine ⟨hG.T, fun l' c h => ?_, fun l' c cs' h hs => ?_, fun l1 l2 c h1 h2 => ?_, hG.tkinj, hG.tklt, hG.tkus, fun c n h => ?_, fun l' c h => ?_, fun l' t c h ht => ?_⟩
  · rcases inv l' c h with ⟨rfl, _⟩ | ⟨_, h⟩
    · exact hl
    · exact hG.lmlt l' c h
  · rcases inv l' c h with ⟨rfl, rfl⟩ | ⟨_, h⟩
    · rw [hst] at hs
      simp only [Option.some.injEq] at hs
      subst hs
      exact hb
    · exact (hG.blk l' c cs' h hs).mono hul hkl (heap_alloc_old w _ c (hG.lmltH h))
  · rcases inv l1 c h1 with ⟨a1, b1⟩ | ⟨_, g1⟩ <;> rcases inv l2 c h2 with ⟨a2, b2⟩ | ⟨_, g2⟩
    · exact .inl (a1.trans a2.symm)
    · have := hG.lmltH g2; omega
    · have := hG.lmltH g1; omega
    · exact hG.inj l1 l2 c g1 g2
  · have := hG.uslt c n h; simp; omega
  · rcases inv l' c h with ⟨rfl, rfl⟩ | ⟨_, h⟩
    · refine .inr ?_
      cases hu : us w.heap.size with
      | none => rfl
      | some n => have := hG.uslt _ n hu; omega
    · exact hG.disj l' c h
  · rcases inv l' c h with ⟨rfl, rfl⟩ | ⟨_, h⟩
    · have := hG.tkltH (t := t) ht; omega
    · exact hG.lmtk l' t c h ht

theorem good_alloc_lm (hG : Good us w K st) (cells : Array Value) (e : TypeId) (l : Nat) (cs : List AV) (hl : l < st.store.length) (hfree : K.lm l = none) (hst : st.store[l]? = some cs)
    (hr : Rels us w K cs (cells.toList.take cs.length)) (h0 : cs.length ≤ cells.size) (h1 : ∀ x ∈ cells.toList, x.oneCell' = true) : Good us (w.alloc (.cells cells e)) (K.newL l w.heap.size) st := by
  obtain ⟨hul, hkl⟩ := newL_le hG l (.cells cells e) hfree
  exact good_alloc_o hG _ l cs hl hfree hst (.ofCells ⟨cells, e, heap_alloc_new w _, h0, hr.mono hul hkl, h1⟩)

/-! ## Slices that are written out -/
variable {o : Oper} {env : Env} {a : Act} {r : AV}

theorem foldl_all (p : Value → Prop) (q : Nat) : ∀ (l : List Value) (k : Nat) (cells : Array Value), (∀ x ∈ cells.toList, p x) → (∀ x ∈ l, p x) →
    ∀ x ∈ ((l.zipIdx k).foldl (fun (cs : Array Value) (y : Value × Nat) => cs.setIfInBounds (q + y.2) y.1) cells).toList, p x := by
  intro l
  induction l with
  | nil => intro k cells h _; simpa using h
  | cons v l ih =>
    intro k cells h hl
    simp only [List.zipIdx_cons, List.foldl_cons]
    refine ih (k + 1) _ ?_ (fun x hx => hl x (by simp [hx]))
    intro x hx
    simp only [Array.toList_setIfInBounds] at hx
    rcases List.mem_or_eq_of_mem_set hx with hx | rfl
    · exact h x hx
    · exact hl x (by simp)

theorem putCells_nil (cs : List AV) (q : Nat) : putCells cs q [] = cs := rfl

theorem putCells_append (pre cs : List AV) (q : Nat) (xs : List AV) (h : pre.length ≤ q) : putCells (pre ++ cs) q xs = pre ++ putCells cs (q - pre.length) xs := by
  induction xs generalizing cs q with
  | nil => rfl
  | cons x xs ih =>
    simp only [putCells]
    rw [List.set_append_right _ _ h, ih _ (q + 1) (by omega)]
    congr 2
    omega

theorem putCells_front (cs rest xs : List AV) (h : xs.length = cs.length) : putCells (cs ++ rest) 0 xs = xs ++ rest := by
  have gen : ∀ (xs cs pre : List AV), xs.length = cs.length → putCells (pre ++ cs ++ rest) pre.length xs = pre ++ xs ++ rest := by
    intro xs
    induction xs with
    | nil => intro cs pre h; have : cs = [] := List.eq_nil_of_length_eq_zero h.symm; subst this; simp [putCells]
    | cons x xs ih =>
      intro cs pre h
      cases cs with
      | nil => simp at h
      | cons c cs =>
        simp only [putCells]
        have e : (pre ++ c :: cs ++ rest).set pre.length x = (pre ++ [x]) ++ cs ++ rest := by
          rw [List.append_assoc, List.set_append_right _ _ (Nat.le_refl _)]
          simp
        rw [e]
        have := ih cs (pre ++ [x]) (by simpa using h)
        simpa using this
  simpa using gen xs cs [] h

theorem flat_set {z : Nat} : ∀ (xs : List AV) (i : Nat) (y : AV), (∀ x ∈ xs, x.cells.length = z) → y.cells.length = z → i < xs.length → flat (xs.set i y) = putCells (flat xs) (i * z) y.cells := by
  intro xs
  induction xs with
  | nil => intro i y _ _ hi; simp at hi
  | cons x xs ih =>
    intro i y h hy hi
    have hx := h x (by simp)
    cases i with
    | zero =>
      simp only [List.set_cons_zero, flat_cons, Nat.zero_mul]
      rw [putCells_front _ _ _ (by omega)]
    | succ i =>
      simp only [List.set_cons_succ, flat_cons]
      rw [ih i y (fun x hx => h x (by simp [hx])) hy (by simpa using hi), putCells_append _ _ _ _ (by rw [hx, Nat.succ_mul]; omega)]
      congr 2
      rw [hx, Nat.succ_mul]; omega

theorem setElems_rel {z : Nat} {ag : Bool} : ∀ (ps : List (Nat × Operand)) (cells : Array Value) (xs xs' : List AV), EnvRel us w K env a → (∀ x ∈ xs, x.cells.length = z) → Rels us w .nil (flat xs) cells.toList → (∀ x ∈ cells.toList, x.oneCell' = true) →
    setElems z ag xs (withO env ps) = some xs' → ∃ cells', Instr.fill (fun i => some (i * z, z)) cells (ps.map fun (i, x) => (i, a.eval x)) = some cells' ∧ cells'.size = cells.size ∧ xs'.length = xs.length ∧ (∀ x ∈ xs', x.cells.length = z) ∧ Rels us w .nil (flat xs') cells'.toList ∧ (∀ x ∈ cells'.toList, x.oneCell' = true) := by
  intro ps
  induction ps with
  | nil => intro cells xs xs' _ h1 h2 h3 h; simp only [withO, List.map_nil, setElems, Option.some.injEq] at h; subst h; exact ⟨cells, rfl, rfl, rfl, h1, h2, h3⟩
  | cons p ps ih =>
    intro cells xs xs' hE h1 h2 h3 h
    obtain ⟨i, x⟩ := p
    simp only [withO, List.map_cons, setElems] at h
    split at h
    · next hc =>
      obtain ⟨hc1, hc2, hc3, hc4, hc5⟩ := hc
      have hx := aval_rel hE x
      have hcells := hx.cells hc1
      have e1 : (a.eval x).cells.size = z := by rw [← hc2, hcells.len]; simp
      have e2 : cells.size = xs.length * z := by rw [← flat_len xs h1, h2.len]; simp
      have hpl : (pub (aval env x)).cells.length = z := by rw [pub_cells, pubs_len, hc2]
      have hput := foldl_put' (us := us) (w := w) (K := .nil) (i * z) (a.eval x).cells cells (flat xs) (pub (aval env x)).cells h2 (by rw [pub_cells]; exact hcells.pubs)
      rw [← flat_set xs i _ h1 hpl hc5] at hput
      have hone := foldl_all (fun x => x.oneCell' = true) (i * z) (a.eval x).cells.toList 0 cells h3 (hcells.one hc4)
      rw [← zipIdx_foldl] at hone
      have hsz : ((a.eval x).cells.zipIdx.foldl (fun (cs : Array Value) (y : Value × Nat) => match y with | (c, j) => cs.setIfInBounds (i * z + j) c) cells).size = cells.size := by
        have := hput.len
        rw [flat_set xs i _ h1 hpl hc5, putCells_len, h2.len] at this
        simpa using this.symm
      obtain ⟨cells', g1, g2, g3, g4, g5, g6⟩ := ih _ _ xs' hE (by
        intro y hy
        rcases List.mem_or_eq_of_mem_set hy with hy | rfl
        · exact h1 y hy
        · exact hpl) hput hone h
      refine ⟨cells', ?_, g2.trans hsz, by simpa using g3, g4, g5, g6⟩
      simp only [List.map_cons, Instr.fill]
      rw [if_neg]
      · exact g1
      · have : i * z + z ≤ xs.length * z := by rw [← Nat.succ_mul]; exact Nat.mul_le_mul_right z hc5
        simp [e1, e2]; omega
    · simp at h

theorem pubR_rel {A : AV} {vs : List Value} (h : Rels us w K A.cells vs) : Rels us w K (pubR A).cells vs ∧ (pubR A).cells.length = A.cells.length := by
  cases A with
  | rsl => exact ⟨h, rfl⟩
  | _ =>
    simp only [pubR]
    rw [pub_cells]
    exact ⟨h.pubs.ofNil, pubs_len _⟩
theorem setElemsR_rel {z : Nat} {ag : Bool} : ∀ (ps : List (Nat × Operand)) (cells : Array Value) (xs xs' : List AV), EnvRel us w K env a → (∀ x ∈ xs, x.cells.length = z) → Rels us w K (flat xs) cells.toList → (∀ x ∈ cells.toList, x.oneCell' = true) →
    setElemsR z ag xs (withO env ps) = some xs' → ∃ cells', Instr.fill (fun i => some (i * z, z)) cells (ps.map fun (i, x) => (i, a.eval x)) = some cells' ∧ cells'.size = cells.size ∧ xs'.length = xs.length ∧ (∀ x ∈ xs', x.cells.length = z) ∧ Rels us w K (flat xs') cells'.toList ∧ (∀ x ∈ cells'.toList, x.oneCell' = true) := by
  intro ps
  induction ps with
  | nil => intro cells xs xs' _ h1 h2 h3 h; simp only [withO, List.map_nil, setElemsR, Option.some.injEq] at h; subst h; exact ⟨cells, rfl, rfl, rfl, h1, h2, h3⟩
  | cons p ps ih =>
    intro cells xs xs' hE h1 h2 h3 h
    obtain ⟨i, x⟩ := p
    simp only [withO, List.map_cons, setElemsR] at h
    split at h
    · next hc =>
      obtain ⟨hc1, hc2, hc3, hc4, hc5⟩ := hc
      have hx := aval_rel hE x
      have hcells := hx.cells hc1
      have e1 : (a.eval x).cells.size = z := by rw [← hc2, hcells.len]; simp
      have e2 : cells.size = xs.length * z := by rw [← flat_len xs h1, h2.len]; simp
      have hpl : (pubR (aval env x)).cells.length = z := (pubR_rel hcells).2.trans hc2
      have hput := foldl_put' (us := us) (w := w) (K := K) (i * z) (a.eval x).cells cells (flat xs) (pubR (aval env x)).cells h2 (pubR_rel hcells).1
      rw [← flat_set xs i _ h1 hpl hc5] at hput
      have hone := foldl_all (fun x => x.oneCell' = true) (i * z) (a.eval x).cells.toList 0 cells h3 (hcells.one hc4)
      rw [← zipIdx_foldl] at hone
      have hsz : ((a.eval x).cells.zipIdx.foldl (fun (cs : Array Value) (y : Value × Nat) => match y with | (c, j) => cs.setIfInBounds (i * z + j) c) cells).size = cells.size := by
        have := hput.len
        rw [flat_set xs i _ h1 hpl hc5, putCells_len, h2.len] at this
        simpa using this.symm
      obtain ⟨cells', g1, g2, g3, g4, g5, g6⟩ := ih _ _ xs' hE (by
        intro y hy
        rcases List.mem_or_eq_of_mem_set hy with hy | rfl
        · exact h1 y hy
        · exact hpl) hput hone h
      refine ⟨cells', ?_, g2.trans hsz, by simpa using g3, g4, g5, g6⟩
      simp only [List.map_cons, Instr.fill]
      rw [if_neg]
      · exact g1
      · have : i * z + z ≤ xs.length * z := by rw [← Nat.succ_mul]; exact Nat.mul_le_mul_right z hc5
        simp [e1, e2]; omega
    · simp at h

theorem flat_replicate (n : Nat) (A : AV) : flat (List.replicate n A) = (List.replicate n A.cells).flatten := by simp [flat, List.flatMap]

theorem zeros_rel {z : Nat} (zs : List AV) (vs : Array Value) (h : Rels us w K zs vs.toList) (hz : vs.size = z) : ∀ n, Rels us w K ((List.replicate n zs).flatten) ((List.range (n * z)).map fun i => vs[i % vs.size]!) := by
  subst hz
  have e0 : vs.toList = (List.range vs.size).map fun i => vs[i % vs.size]! := by
    apply List.ext_getElem
    · simp
    · intro i h1 h2
      simp at h1
      simp [Nat.mod_eq_of_lt h1, h1]
  intro n
  induction n with
  | zero => simpa using Rels.nil
  | succ n ih =>
    rw [List.replicate_succ, List.flatten_cons]
    have e : (List.range ((n + 1) * vs.size)).map (fun i => vs[i % vs.size]!) = vs.toList ++ (List.range (n * vs.size)).map (fun i => vs[i % vs.size]!) := by
      rw [Nat.succ_mul, Nat.add_comm, List.range_add, List.map_append, ← e0, List.map_map]
      congr 1
      apply List.map_congr_left
      intro i _
      simp
    rw [e]
    exact h.append ih

theorem rt_lit {t e : TypeId} {n z : Nat} {ag : Bool} {zero : Value} {ps : Array (Nat × Operand)} (ho : o.op = .buildSlice t n ps) (ht : P.underlying t = some (.slice e)) (hz : sizeT P e = some z) (hzero : zeroT P e = some zero) (hok : zeroOk z ag zero = true) (hsmall : n * z ≤ 2 ^ 20)
    (hE : EnvRel us w K env a) (hG : Good us w K st) (hv : valAV env (.lit z ag (ofVal zero) n ps.toList) = some r) : RunsTo P (execOp a.eval o) us w K st r := by
  simp only [valAV] at hv
  split at hv
  · rename_i xs hset
    simp only [Option.some.injEq] at hv
    subst hv
    simp only [zeroOk, Bool.and_eq_true, beq_iff_eq] at hok
    obtain ⟨⟨hzs, hst⟩, hag⟩ := hok
    have hpl := plain_of_zero (z := zero) hst
    have hcells : (ofVal zero).cells = zcells zero := by
      cases zero <;> simp [ofVal, AV.cells, zcells, Value.cells] at hpl ⊢
      next cs => rw [if_pos (by simpa using hpl)]
    have hzr : Rels us w .nil (zcells zero) zero.cells.toList := zcells_rel zero hpl
    have h0 := zeros_rel (z := z) (zcells zero) zero.cells hzr hzs n
    have hlen : (ofVal zero).cells.length = z := by rw [hcells]; simp [zcells, hzs]
    have hone0 : ∀ x ∈ zero.cells.toList, x.oneCell' = true := hzr.one hst
    let init : Array Value := (Array.range (n * z)).map (zero.cells[· % zero.cells.size]!)
    have hinit : init.toList = (List.range (n * z)).map fun i => zero.cells[i % zero.cells.size]! := by simp [init]
    have hr0 : Rels us w .nil (flat (List.replicate n (ofVal zero))) init.toList := by
      rw [flat_replicate, hcells, hinit]; exact h0
    have hone : ∀ x ∈ init.toList, x.oneCell' = true := by
      rw [hinit]
      intro x hx
      obtain ⟨i, hi, rfl⟩ := List.mem_map.1 hx
      have hi' : i < n * z := by simpa using hi
      have hzpos : 0 < zero.cells.size := by
        rcases Nat.eq_zero_or_pos zero.cells.size with h | h
        · rw [hzs] at h; subst h; simp at hi'
        · exact h
      have hlt := Nat.mod_lt i hzpos
      rw [getElem!_pos zero.cells (i % zero.cells.size) hlt]
      exact hone0 _ (by simp)
    obtain ⟨cells', g1, g2, g3, g4, g5, g6⟩ := setElems_rel (env := env) (a := a) ps.toList init (List.replicate n (ofVal zero)) xs hE (by intro x hx; rw [List.eq_of_mem_replicate hx]; exact hlen) hr0 hone hset
    have hu : ∀ c, c < w.heap.size → us.new w.heap.size cells'.size c = us c := fun c hc => by simp [Us.new, Nat.ne_of_lt hc]
    have hext := ext_alloc hG (.cells cells' e) (us.new w.heap.size cells'.size) hu K rfl rfl (fun _ _ h => h) (fun l _ h => .inl ⟨l, h⟩)
    have hsz : cells'.size = n * z := by rw [g2]; simp [init]
    have hxl : xs.length = n := by simpa using g3
    refine ⟨.slice (some ⟨w.heap.size, 0, none⟩) xs.length n, us.new w.heap.size cells'.size, w.alloc (.cells cells' e), ?_, ?_, hext, good_alloc_us hG cells' e⟩
    · have hnot : ¬ (n * z > 2 ^ 24) := by omega
      have ez : ((if n * z = 0 then pure #[] else do pure (← zeroValue e).cells) : Sem (Array Value)).run P w = .ok (if n * z = 0 then #[] else zero.cells) w := by
        split <;> simp [zero_run hzero]
      have efill : Instr.fill (fun i => some (i * z, z)) ((Array.range (n * z)).map ((if n * z = 0 then #[] else zero.cells)[· % (if n * z = 0 then (#[] : Array Value) else zero.cells).size]!)) (ps.map fun (x : Nat × Operand) => match x with | (i, x) => (i, a.eval x)).toList = some cells' := by
        have e : (ps.map fun (x : Nat × Operand) => match x with | (i, x) => (i, a.eval x)).toList = ps.toList.map fun (i, x) => (i, a.eval x) := by simp
        rw [e, ← g1]
        congr 1
        by_cases h : n * z = 0
        · simp [init, h]
        · simp [init, h]
      simp only [execOp, ho, Instr.buildSlice, Sem.run_bind, run_underlying ht, Result.andThen_ok, size_run hz, hnot, if_false]
      rw [Sem.run_ite] at ez
      simp only [Sem.run_ite, Sem.run_bind, Sem.run_pure, zero_run hzero, Result.andThen_ok, Result.andThen_ite] at ez ⊢
      by_cases h : n * z = 0
      · simp only [h, if_true] at efill ⊢
        rw [efill]
        simp [newRow, hxl]
      · simp only [h, if_false] at efill ⊢
        rw [efill]
        simp [newRow, hxl]
    · have key : LstAt (us.new w.heap.size cells'.size) (w.alloc (.cells cells' e)) K .full z xs w.heap.size 0 n cells'.toList := by
        refine ⟨⟨cells'.size, by simp [Us.new], by simp⟩, ?_, g6, g4, by omega, g5.mono hext.usle (.nil _ _ _ _ _), hxl.symm⟩
        intro i hi
        rw [Nat.zero_add, World.cell?_alloc_at cells' e _ i rfl]
        simp
      exact key.rel
  · simp at hv
end
end Go.Ev

namespace Go.Ev
open Go

/-- What is laid anew has names of its own. -/
structure Fresh (st st' : St) (K K' : Kx) : Prop where
  lm : ∀ l c, K'.lm l = some c → K.lm l = some c ∨ (st.store.length ≤ l ∧ l < st'.store.length)
  tk : ∀ t, (K'.tk t).isSome = true → (K.tk t).isSome = true ∨ (st.tips.length ≤ t ∧ t < st'.tips.length)

theorem Fresh.same (st : St) (K : Kx) : Fresh st st K K := ⟨fun _ _ h => .inl h, fun _ h => .inl h⟩
theorem Fresh.sameK (st st' : St) (K : Kx) : Fresh st st' K K := ⟨fun _ _ h => .inl h, fun _ h => .inl h⟩

/-- An operation goes on with a value that fits 'r'; the state, which was S, is S'; what is new lies between st and st'. -/
def Goes (P : Program) (o : Oper) (a : Act) (us : Us) (w : World) (K : Kx) (r : AV) (st st' S' : St) : Prop :=
  ∀ (next : Act → World → Prop) (Q : Exit → Act → World → Prop),
    (∀ x us' w' K', Rel us' w' K' r x → Ext us w K us' w' K' → Good us' w' K' S' → Fresh st st' K K' → next (a.put o.dst x) w') → o.wp P a w next Q

section
variable {P : Program} {us : Us} {w : World} {K : Kx} {st st' S S' : St}
variable {o : Oper} {env : Env} {a : Act} {r : AV}

theorem RunsTo.goes (h : RunsTo P (execOp a.eval o) us w K S r) : Goes P o a us w K r st st' S := by
  obtain ⟨x, us', w', h1, h2, h3, h4⟩ := h
  intro next Q hn
  unfold Oper.wp
  rw [h1]
  exact hn x us' w' K h2 h3 h4 (.sameK _ _ _)

/-! ### loads -/

theorem run_load_at {t : TypeId} {s q p c : Nat} {ag : Bool} {cs : List AV} {vs : List Value} {r : AV} (hs : sizeT P t = some s) (hag : isAggT P t = some ag) (h : readCells ag s q cs = some r) (hr : Rels us w K cs vs) (hc : CellsAt w c p vs) :
    ∃ x, (loadVar t ⟨c, p + q, none⟩).run P w = .ok x w ∧ Rel us w K r x := by
  rcases readCells_rel h hr with ⟨rfl, hb, h2⟩ | ⟨rfl, x, hx, h2⟩
  · refine ⟨_, ?_, h2⟩
    have hl : ((vs.drop q).take s).length = s := by simp; omega
    have := run_loadCells_list (P := P) w ⟨c, p + q, none⟩ ((vs.drop q).take s) (fun j v hj => by
      obtain ⟨hj1, hj2⟩ := List.getElem?_eq_some_iff.1 hj
      rw [hl] at hj1
      rw [Addr.add_lit]
      have := hc (q + j) (by omega)
      rw [Nat.add_assoc, this, ← hj2]
      simp)
    rw [hl] at this
    simp only [loadVar, Sem.run_bind, run_isAgg hag, Result.andThen_ok, if_true, size_run hs, this, Sem.run_pure]
  · refine ⟨x, ?_, h2⟩
    obtain ⟨hq, rfl⟩ := List.getElem?_eq_some_iff.1 hx
    have := hc q hq
    simp [loadVar, run_isAgg hag, this]

theorem cellsAt_blk {c : Nat} {cur : Array Value} {ty : TypeId} {fz : Nat × Nat} (h : w.heap[c]? = some (.cells cur ty fz)) : CellsAt w c 0 cur.toList := by
  intro i hi
  simp at hi
  rw [Nat.zero_add, cell_of_row w c i cur ty fz h]
  simp [hi]

theorem cellsAt_take {c : Nat} {cur : Array Value} {ty : TypeId} {fz : Nat × Nat} (h : w.heap[c]? = some (.cells cur ty fz)) (n : Nat) : CellsAt w c 0 (cur.toList.take n) := by
  intro i hi
  have := cellsAt_blk h i (by simp at hi ⊢; omega)
  rw [this]
  simp

theorem run_loadAV {t : TypeId} {s : Nat} {ag : Bool} {A : AV} {x : Value} (hs : sizeT P t = some s) (hag : isAggT P t = some ag) (hG : Good us w K S) (h : loadAV s ag S A = some r) (hr : Rel us w K A x) :
    ∃ y, (Instr.loadAt t x).run P w = .ok y w ∧ Rel us w K r y := by
  unfold loadAV at h
  split at h
  · rename_i l q
    obtain ⟨c, hc, rfl, hsz⟩ := hr.ptr_inv'
    cases hl : S.store[l]? with
    | none => simp [hl] at h
    | some cs =>
      simp only [hl, Option.bind_some] at h
      obtain ⟨cur, ty, h1, _, h2, _⟩ := (hG.blk l c cs hc hl).cells hsz
      obtain ⟨y, h3, h4⟩ := run_load_at (P := P) (p := 0) hs hag h h2 (cellsAt_take h1 _)
      refine ⟨y, ?_, h4⟩
      rw [Nat.zero_add] at h3
      simp [Instr.loadAt, Instr.sureAddr, h3]
  · rename_i e q
    obtain ⟨c, p, vs, rfl, h1⟩ := hr.eptr_inv
    obtain ⟨y, h3, h4⟩ := run_load_at (P := P) hs hag h h1.rels.ofNil h1.cells
    exact ⟨y, by simp [Instr.loadAt, Instr.sureAddr, h3], h4⟩
  · simp at h

theorem rt_load {x : Operand} {t : TypeId} {s : Nat} {ag : Bool} (ho : o.op = .load t x) (hs : sizeT P t = some s) (hag : isAggT P t = some ag) (hE : EnvRel us w K env a) (hG : Good us w K S) (hv : loadAV s ag S (aval env x) = some r) :
    RunsTo P (execOp a.eval o) us w K S r := by
  obtain ⟨y, h1, h2⟩ := run_loadAV (P := P) hs hag hG hv (aval_rel hE x)
  exact .same hG (x := y) (by simp [execOp, ho, h1]) h2

theorem loadAV_prefix {s : Nat} {ag : Bool} {A : AV} {rest : List (List AV)} (h : loadAV s ag st A = some r) (hp : S.store = st.store ++ rest) : loadAV s ag S A = some r := by
  unfold loadAV at h ⊢
  split at h
  · rename_i l q
    cases hl : st.store[l]? with
    | none => simp [hl] at h
    | some cs =>
      have : S.store[l]? = some cs := by
        rw [hp, List.getElem?_append_left (List.getElem?_eq_some_iff.1 hl).1]
        exact hl
      simpa [this, hl] using h
  · exact h
  · exact h

/-! ### stores -/

theorem putCells_eq (cs : List AV) (q : Nat) (xs : List AV) (h : q + xs.length ≤ cs.length) : putCells cs q xs = cs.take q ++ xs ++ cs.drop (q + xs.length) := by
  have hq : (cs.take q).length = q := by simp; omega
  have e1 : cs = cs.take q ++ ((cs.drop q).take xs.length ++ cs.drop (q + xs.length)) := by
    rw [← List.drop_drop, List.take_append_drop, List.take_append_drop]
  conv => lhs; rw [e1]
  rw [putCells_append _ _ _ _ (by omega), hq, Nat.sub_self, putCells_front _ _ _ (by simp; omega), List.append_assoc]

theorem usLe_setRow {c : Nat} {cells : Array Value} (hc : us c = none) : UsLe us w us (w.setRow c cells) := by
  intro b n hb
  refine ⟨n, hb, Nat.le_refl _, fun i _ => ?_⟩
  have : b ≠ c := by intro e; subst e; rw [hc] at hb; exact absurd hb (by simp)
  exact cell_setRow_other w c cells ⟨b, i, none⟩ this

theorem SizeAt.setRow {b n c : Nat} {cells : Array Value} (h : SizeAt w b n) (hsz : SizeAt w c cells.size) : SizeAt (w.setRow c cells) b n := by
  by_cases e : b = c
  · subst e
    obtain ⟨cur, ty, h1, h2⟩ := h
    obtain ⟨cur', ty', h1', h2'⟩ := hsz
    rw [h1] at h1'
    simp only [Option.some.injEq, Obj.cells.injEq, and_true] at h1'
    obtain ⟨rfl, rfl⟩ := h1'
    exact ⟨cells, ty, setRow_heap w b cur _ ty _ h1, by omega⟩
  · obtain ⟨cur, ty, h1, h2⟩ := h
    exact ⟨cur, ty, (setRow_other w c b cells e).trans h1, h2⟩

theorem kLe_setRow (hG : Good us w K S) {c : Nat} {cells : Array Value} (hc : us c = none) (hsz : SizeAt w c cells.size) : KLe us w K us (w.setRow c cells) K := by
  refine ⟨fun _ _ h => ⟨h, fun n hn => hn.setRow hsz⟩, fun t m h => ⟨m, h, Nat.le_refl _, fun _ b hb => ⟨hb, rfl, ?_⟩⟩⟩
  obtain ⟨n, hn⟩ := hG.tkus t b hb
  have : b ≠ c := by intro e; subst e; rw [hc] at hn; exact absurd hn (by simp)
  exact fun n hn => hn.setRow hsz

theorem ext_setRow (hG : Good us w K S) {l c : Nat} {cells : Array Value} (hl : K.lm l = some c) (hu : us c = none) (hsz : SizeAt w c cells.size) : Ext us w K us (w.setRow c cells) K where
  os := rfl
  tape := rfl
  output := rfl
  size := by simp
  sz := fun b n h => h.setRow hsz
  usle := usLe_setRow hu
  kle := kLe_setRow hG hu hsz
  frame := fun b _ hb _ => ⟨setRow_other w c b cells (fun e => hb l (by rw [e]; exact hl)), rfl⟩
  usNone := fun _ _ h _ => h
  lmNew := fun l _ h => .inl ⟨l, h⟩
  tkNew := fun _ _ h => .inl h

theorem Good.live (hG : Good us w K S) {l c : Nat} {cs : List AV} (hl : K.lm l = some c) (hs : S.store[l]? = some cs) (h : cs ≠ []) : us c = none := by
  rcases hG.disj l c hl with h1 | h1
  · rw [hs] at h1; simp at h1; exact absurd h1 h
  · exact h1

theorem good_setRow (hG : Good us w K S) {l c : Nat} {cur : Array Value} {ty : TypeId} {cells : List Value} {cs cs' : List AV} (hl : K.lm l = some c) (hs : S.store[l]? = some cs) (hne : cs ≠ []) (hb : w.heap[c]? = some (.cells cur ty (0, 0)))
    (hsz : cells.length = cur.size) (h0 : cs'.length ≤ cells.length) (hr : Rels us w K cs' (cells.take cs'.length)) (h1 : ∀ x ∈ cells, x.oneCell' = true) : Good us (w.setRow c cells.toArray) K ⟨S.store.set l cs', S.tips⟩ := by
  have hx := ext_setRow (cells := cells.toArray) hG hl (hG.live hl hs hne) ⟨cur, ty, hb, by simp [hsz]⟩
  have hdead : ∀ l', K.lm l' = some c → l' ≠ l → S.store[l']? = some [] := by
    intro l' h e
    rcases hG.inj l' l c h hl with h2 | h2 | h2
    · exact absurd h2 e
    · exact h2
    · rw [hs] at h2; simp at h2; exact absurd h2 hne
  refine ⟨hG.T, fun l' c' h => by simpa using hG.lmlt l' c' h, fun l' c' cs2 h hs2 => ?_, fun l1 l2 b h1 h2 => ?_, hG.tkinj, hG.tklt, hG.tkus, fun c' n h => by simpa using hG.uslt c' n h, fun l' b h => ?_, hG.lmtk⟩
  · by_cases e : l' = l
    · subst e
      have e2 : c' = c := by rw [hl] at h; simpa using h.symm
      subst e2
      have : (S.store.set l' cs')[l']? = some cs' := by simp [hG.lmlt l' c' h]
      simp only at hs2
      rw [this] at hs2
      simp only [Option.some.injEq] at hs2
      subst hs2
      exact .ofCells ⟨cells.toArray, ty, setRow_heap w c' cur _ ty _ hb, by simpa using h0, by simpa using hr.mono hx.usle hx.kle, by simpa using h1⟩
    · simp only at hs2
      rw [List.getElem?_set_ne (fun h => e h.symm)] at hs2
      by_cases e2 : c' = c
      · subst e2
        have := hdead l' h e
        rw [this] at hs2
        simp only [Option.some.injEq] at hs2
        subst hs2
        exact .ofCells ⟨cells.toArray, ty, setRow_heap w c' cur _ ty _ hb, by simp, by simpa using Rels.nil, by simpa using h1⟩
      · exact (hG.blk l' c' cs2 h hs2).mono hx.usle hx.kle (setRow_other w c c' _ e2)
  · by_cases e1 : l1 = l
    · by_cases e2 : l2 = l
      · exact .inl (e1.trans e2.symm)
      · subst e1
        have hb2 : b = c := by rw [hl] at h1; simpa using h1.symm
        subst hb2
        exact .inr (.inr (by simp only; rw [List.getElem?_set_ne (fun h => e2 h.symm)]; exact hdead l2 h2 e2))
    · by_cases e2 : l2 = l
      · subst e2
        have hb2 : b = c := by rw [hl] at h2; simpa using h2.symm
        subst hb2
        exact .inr (.inl (by simp only; rw [List.getElem?_set_ne (fun h => e1 h.symm)]; exact hdead l1 h1 e1))
      · simp only
        rw [List.getElem?_set_ne (fun h => e1 h.symm), List.getElem?_set_ne (fun h => e2 h.symm)]
        exact hG.inj l1 l2 b h1 h2
  · by_cases e : l' = l
    · subst e
      have hb2 : b = c := by rw [hl] at h; simpa using h.symm
      subst hb2
      exact .inr (hG.live hl hs hne)
    · simp only
      rw [List.getElem?_set_ne (fun h => e h.symm)]
      exact hG.disj l' b h

theorem rt_store {x y : Operand} {t : TypeId} {s : Nat} (ho : o.op = .store t x y) (hs : sizeT P t = some s) (hs0 : 0 < s) (hE : EnvRel us w K env a) (hG : Good us w K S) (hv : storeAV s S (aval env x) (aval env y) = some S') :
    Goes P o a us w K (.v (.tuple #[])) st st' S' := by
  have h1 := aval_rel hE x
  have h2 := aval_rel hE y
  generalize aval env x = ax at hv h1
  generalize aval env y = ay at hv h2
  unfold storeAV at hv
  split at hv
  · rename_i l q
    obtain ⟨c, hc, h3, hsz0⟩ := h1.ptr_inv'
    split at hv
    · next hcond =>
      obtain ⟨hsh, hlen, hst⟩ := hcond
      split at hv
      · rename_i cs hcs
        split at hv
        · next hb =>
          simp only [Option.some.injEq] at hv
          subst hv
          obtain ⟨cur, ty, hheap, hle, hrel, hone⟩ := (hG.blk l c cs hc hcs).cells hsz0
          have hne : cs ≠ [] := by intro h; subst h; simp at hb; omega
          have hcells := h2.cells hsh
          have hone2 := hcells.one hst
          have e1 : (a.eval y).cells.size = s := by rw [← hlen, hcells.len]; simp
          have hrun := run_storeCells_at P c q ty (a.eval y).cells.toList 0 cur w hheap (by simp [e1]; omega) hone2
          simp only [Nat.add_zero] at hrun
          have hput : putCells cs q ay.cells = cs.take q ++ ay.cells ++ cs.drop (q + ay.cells.length) := putCells_eq cs q ay.cells (by omega)
          have hpl : (putCells cs q ay.cells).length = cs.length := putCells_len cs q ay.cells
          have e4 : (a.eval y).cells.toList.length = s := by simpa using e1
          have hr' : Rels us w K (putCells cs q ay.cells) ((cur.toList.take q ++ (a.eval y).cells.toList ++ cur.toList.drop (q + (a.eval y).cells.toList.length)).take (putCells cs q ay.cells).length) := by
            rw [hpl, hput]
            have := ((hrel.take q).append hcells).append (hrel.drop (q + ay.cells.length))
            have e5 : (cur.toList.take q ++ (a.eval y).cells.toList ++ cur.toList.drop (q + (a.eval y).cells.toList.length)).take cs.length = (cur.toList.take cs.length).take q ++ (a.eval y).cells.toList ++ (cur.toList.take cs.length).drop (q + ay.cells.length) := by
              have hq : (cur.toList.take q).length = q := by simp; omega
              rw [hlen, e4, List.take_take, Nat.min_eq_left (by omega), List.take_append, List.length_append, hq, e4, List.take_of_length_le (by rw [List.length_append, hq, e4]; omega), List.drop_take]
            rw [e5]
            exact this
          have h1' : ∀ z ∈ cur.toList.take q ++ (a.eval y).cells.toList ++ cur.toList.drop (q + (a.eval y).cells.toList.length), z.oneCell' = true := by
            intro z hz
            simp only [List.mem_append] at hz
            rcases hz with (hz | hz) | hz
            · exact hone z (List.mem_of_mem_take hz)
            · exact hone2 z hz
            · exact hone z (List.mem_of_mem_drop hz)
          intro next Q hn
          unfold Oper.wp
          have e3 : (execOp a.eval o).run P w = .ok .skip (w.setRow c (cur.toList.take q ++ (a.eval y).cells.toList ++ cur.toList.drop (q + (a.eval y).cells.toList.length)).toArray) := by
            simp only [execOp, ho, Instr.storeAt, Sem.run_bind, h3, Instr.sureAddr, Sem.run_pure, Result.andThen_ok, storeVar, size_run hs, e1, ne_eq, not_true_eq_false, if_false, hrun]
          rw [e3]
          have hsz : (cur.toList.take q ++ (a.eval y).cells.toList ++ cur.toList.drop (q + (a.eval y).cells.toList.length)).length = cur.size := by
            simp [e1]; omega
          exact hn undef us _ K (.v K _ rfl) (ext_setRow hG hc (hG.live hc hcs hne) ⟨cur, ty, hheap, by simpa using hsz.symm⟩) (good_setRow hG hc hcs hne hheap hsz (by rw [hpl, hsz]; exact hle) hr' h1') (.sameK _ _ _)
        · simp at hv
      · simp at hv
    · simp at hv
  · simp at hv

/-! ### new variables -/

theorem goes_new {cells : Array Value} {e : TypeId} {l : Nat} {cs : List AV} {val : Value} (hG : Good us w K S) (hl : st.store.length ≤ l ∧ l < st'.store.length) (hS : S.store[l]? = some cs) (hfree : K.lm l = none)
    (hr : Rels us w K cs (cells.toList.take cs.length)) (h0 : cs.length ≤ cells.size) (h1 : ∀ x ∈ cells.toList, x.oneCell' = true) (hrun : (execOp a.eval o).run P w = .ok (.value val) (w.alloc (.cells cells e)))
    (hval : ∀ K', K'.lm l = some w.heap.size → ∀ us w', SizeAt w' w.heap.size cells.size → Rel us w' K' r val) : Goes P o a us w K r st st' S := by
  intro next Q hn
  unfold Oper.wp
  rw [hrun]
  have hlS : l < S.store.length := (List.getElem?_eq_some_iff.1 hS).1
  have hx := ext_alloc hG (.cells cells e) us (fun _ _ => rfl) (K.newL l w.heap.size) rfl rfl
    (fun l' c h => by simp only [Kx.newL]; split; · next e => subst e; rw [hfree] at h; exact absurd h (by simp)
                      · exact h)
    (fun l' c h => by simp only [Kx.newL] at h; split at h; · exact .inr (by simp at h; omega)
                      · exact .inl ⟨l', h⟩)
  refine hn val us _ (K.newL l w.heap.size) (hval _ (by simp [Kx.newL]) _ _ ⟨cells, e, heap_alloc_new w _, rfl⟩) hx (good_alloc_lm hG cells e l cs hlS hfree hS hr h0 h1) ⟨fun l' c h => ?_, fun t h => .inl h⟩
  simp only [Kx.newL] at h
  split at h
  · next e => subst e; exact .inr hl
  · exact .inl h

theorem Rels.all {K : Kx} {cs : List AV} {vs : List Value} (h : Rels us w K cs vs) : Rels us w K cs (vs.take cs.length) := by
  rw [h.len, List.take_length]; exact h

theorem rt_alloc {t : TypeId} {z : Value} (ho : o.op = .alloc t) (hz : zeroT P t = some z) (hst : (zcells z).all storable = true) (hG : Good us w K S) {rest : List (List AV)} (hS : S.store = (st.store ++ [zcells z]) ++ rest) (hfree : K.lm st.store.length = none) (hst' : st'.store = st.store ++ [zcells z]) :
    Goes P o a us w K (.ptr st.store.length 0) st st' S := by
  have hzr : Rels us w K (zcells z) z.cells.toList := zcells_rel z (plain_of_zero hst)
  refine goes_new (cells := z.cells) (e := t) (l := st.store.length) (cs := zcells z) (val := .pointer (some ⟨w.heap.size, 0, none⟩)) hG (by simp [hst']) (by rw [hS]; simp) hfree hzr.all (by have := hzr.len; simp at this; omega) (hzr.one hst) ?_ (fun K' h us w' hs => .ptr K' _ _ _ h ⟨_, hs⟩)
  simp [execOp, ho, Instr.alloc, zero_run hz, newVar, newRow]

theorem rt_box {t : TypeId} {x : Operand} (ho : o.op = .box t x) (hE : EnvRel us w K env a) (hsh : (aval env x).shaped = true) (hst : (aval env x).cells.all storable = true) (hG : Good us w K S) {rest : List (List AV)} (hS : S.store = (st.store ++ [(aval env x).cells]) ++ rest)
    (hfree : K.lm st.store.length = none) (hst' : st'.store = st.store ++ [(aval env x).cells]) : Goes P o a us w K (.ptr st.store.length 0) st st' S := by
  have hr := (aval_rel hE x).cells hsh
  refine goes_new (cells := (a.eval x).cells) (e := t) (l := st.store.length) (cs := (aval env x).cells) (val := .pointer (some ⟨w.heap.size, 0, none⟩)) hG (by simp [hst']) (by rw [hS]; simp) hfree hr.all (by have := hr.len; simp at this; omega) (hr.one hst) ?_ (fun K' h us w' hs => .ptr K' _ _ _ h ⟨_, hs⟩)
  simp [execOp, ho, Instr.box, newVar, newRow]

theorem maxGrow_eq : maxGrow = 4294967296 := rfl

theorem wrap_small (n : Int) (h0 : 0 ≤ n) (h1 : n ≤ 4294967296) : IntKind.i64.wrap n = n := by
  simp [IntKind.wrap, IntKind.bits, IntKind.signed]; omega

theorem rt_make {t e : TypeId} {x y : Operand} {i : TypeInfo} {ag : Bool} {zero : Value} {r : AV} (ho : o.op = .makeSlice t x y) (ht : P.underlying t = some (.slice e)) (hi : P.info? e = some i) (hzero : zeroT P e = some zero) (hok : zeroOk i.size ag zero = true) (hby : i.bytes ≤ 2 ^ 12) (hpos : 0 < i.size)
    (hE : EnvRel us w K env a) (hG : Good us w K S) (hv : makeAV i.size ag (zcells zero) st (aval env x) (aval env y) = some (r, st')) {rest : List (List AV)} (hS : S.store = st'.store ++ rest) (hfree : K.lm st.store.length = none) :
    Goes P o a us w K r st st' S := by
  unfold makeAV at hv
  split at hv
  · rename_i l c hl hc
    split at hv
    · next hb =>
      simp only [Option.some.injEq, Prod.mk.injEq] at hv
      obtain ⟨rfl, rfl⟩ := hv
      obtain ⟨kl, il, hxl, hl0, hl1⟩ := natOf_some hl (aval_rel hE x)
      obtain ⟨kc, ic, hxc, hc0, hc1⟩ := natOf_some hc (aval_rel hE y)
      simp only [zeroOk, Bool.and_eq_true, beq_iff_eq] at hok
      obtain ⟨⟨hzs, hst⟩, hag⟩ := hok
      have hzr : Rels us w K (zcells zero) zero.cells.toList := zcells_rel zero (plain_of_zero hst)
      have h0 := zeros_rel (z := i.size) (zcells zero) zero.cells hzr hzs c
      let init : Array Value := (Array.range (c * i.size)).map (zero.cells[· % zero.cells.size]!)
      have hinit : init.toList = (List.range (c * i.size)).map fun j => zero.cells[j % zero.cells.size]! := by simp [init]
      have hone : ∀ x ∈ init.toList, x.oneCell' = true := by
        rw [hinit]
        intro x hx
        obtain ⟨j, hj, rfl⟩ := List.mem_map.1 hx
        have hlt := Nat.mod_lt j (show 0 < zero.cells.size by omega)
        rw [getElem!_pos zero.cells (j % zero.cells.size) hlt]
        exact hzr.one hst _ (by simp)
      rw [maxGrow_eq] at hb
      refine goes_new (cells := init) (e := e) (l := st.store.length) (cs := (List.replicate c (zcells zero)).flatten) (val := .slice (some ⟨w.heap.size, 0, none⟩) l c) hG (by simp) (by rw [hS]; simp) hfree (by rw [hinit]; exact h0.all) (by have := h0.len; rw [← hinit] at this; simp at this ⊢; omega) hone ?_ (fun K' h us w' hs => .rsl K' _ _ _ _ _ _ _ _ h ⟨_, hs⟩ (.inl rfl))
      have w1 : IntKind.i64.wrap il = il := wrap_small il hl0 (by omega)
      have w2 : IntKind.i64.wrap ic = ic := wrap_small ic hc0 (by omega)
      have hsz : sizeT P e = some i.size := by simp [sizeT, hi]
      have hmul : i.bytes * ic ≤ 2 ^ 48 := by
        have h1 : ic ≤ 4294967296 := by omega
        have h2 : (i.bytes : Int) ≤ 4096 := by omega
        have h3 : (i.bytes : Int) * ic ≤ 4096 * 4294967296 := Int.mul_le_mul h2 h1 hc0 (by omega)
        omega
      have t1 : (decide (ic < 0) || decide ((i.bytes : Int) * ic > 2 ^ 48)) = false := by
        simp only [Bool.or_eq_false_iff, decide_eq_false_iff_not]; omega
      have t2 : ((decide (ic < 0) || decide ((i.bytes : Int) * ic > 2 ^ 48)) || decide (il < 0) || decide (il > ic)) = false := by
        rw [t1]; simp only [Bool.false_or, Bool.or_eq_false_iff, decide_eq_false_iff_not]; omega
      have nz : c * i.size = 0 → c = 0 := by
        intro h
        rcases Nat.mul_eq_zero.1 h with h | h
        · exact h
        · omega
      simp only [execOp, ho, Instr.makeSlice, Sem.run_bind, run_underlying ht, Result.andThen_ok, hxl, hxc, asInt, asIntOf, Sem.run_pure, typeInfo, run_program, hi, w1, w2]
      simp only [t2, Bool.false_eq_true, if_false, Sem.run_bind, run_askRoom, Result.andThen_ok, size_run hsz, hc1, hl1, Sem.run_ite, zero_run hzero, Sem.run_pure, Result.andThen_ite]
      by_cases h : c * i.size = 0
      · have e0 : init = #[] := by simp [init, h]
        simp [h, e0, newRow, Array.range_zero']
      · simp [h, newRow, init]
    · simp at hv
  · simp at hv

theorem rt_litm {t e : TypeId} {n z : Nat} {ag : Bool} {zero : Value} {ps : Array (Nat × Operand)} {xs : List AV} {r : AV} (ho : o.op = .buildSlice t n ps) (ht : P.underlying t = some (.slice e)) (hz : sizeT P e = some z) (hzero : zeroT P e = some zero) (hok : zeroOk z ag zero = true) (hsmall : n * z ≤ 2 ^ 20)
    (hE : EnvRel us w K env a) (hG : Good us w K S) (hset : setElemsR z ag (List.replicate n (ofVal zero)) (withO env ps.toList) = some xs) (hv : newM z ag xs st = some (r, st')) {rest : List (List AV)} (hS : S.store = st'.store ++ rest) (hfree : K.lm st.store.length = none) :
    Goes P o a us w K r st st' S := by
  unfold newM at hv
  split at hv
  · simp only [Option.some.injEq, Prod.mk.injEq] at hv
    obtain ⟨rfl, rfl⟩ := hv
    simp only [zeroOk, Bool.and_eq_true, beq_iff_eq] at hok
    obtain ⟨⟨hzs, hst⟩, hag⟩ := hok
    have hpl := plain_of_zero (z := zero) hst
    have hcells : (ofVal zero).cells = zcells zero := by
      cases zero <;> simp [ofVal, AV.cells, zcells, Value.cells] at hpl ⊢
      next cs => rw [if_pos (by simpa using hpl)]
    have hzr : Rels us w .nil (zcells zero) zero.cells.toList := zcells_rel zero hpl
    have h0 := zeros_rel (z := z) (zcells zero) zero.cells hzr hzs n
    have hlen : (ofVal zero).cells.length = z := by rw [hcells]; simp [zcells, hzs]
    have hone0 : ∀ x ∈ zero.cells.toList, x.oneCell' = true := hzr.one hst
    let init : Array Value := (Array.range (n * z)).map (zero.cells[· % zero.cells.size]!)
    have hinit : init.toList = (List.range (n * z)).map fun i => zero.cells[i % zero.cells.size]! := by simp [init]
    have hr0 : Rels us w .nil (flat (List.replicate n (ofVal zero))) init.toList := by
      rw [flat_replicate, hcells, hinit]; exact h0
    have hone : ∀ x ∈ init.toList, x.oneCell' = true := by
      rw [hinit]
      intro x hx
      obtain ⟨i, hi, rfl⟩ := List.mem_map.1 hx
      have hi' : i < n * z := by simpa using hi
      have hzpos : 0 < zero.cells.size := by
        rcases Nat.eq_zero_or_pos zero.cells.size with h | h
        · rw [hzs] at h; subst h; simp at hi'
        · exact h
      have hlt := Nat.mod_lt i hzpos
      rw [getElem!_pos zero.cells (i % zero.cells.size) hlt]
      exact hone0 _ (by simp)
    obtain ⟨cells', g1, g2, g3, g4, g5, g6⟩ := setElemsR_rel (env := env) (a := a) ps.toList init (List.replicate n (ofVal zero)) xs hE (by intro x hx; rw [List.eq_of_mem_replicate hx]; exact hlen) hr0.ofNil hone hset
    have hsz : cells'.size = n * z := by rw [g2]; simp [init]
    have hxl : xs.length = n := by simpa using g3
    have hr : Rels us w K (flatAV xs) cells'.toList := g5
    refine goes_new (cells := cells') (e := e) (l := st.store.length) (cs := flatAV xs) (val := .slice (some ⟨w.heap.size, 0, none⟩) xs.length xs.length) hG (by simp) (by rw [hS]; simp) hfree hr.all (by have := hr.len; simp at this ⊢; omega) g6 ?_ (fun K' h us w' hs => .rsl K' _ _ _ _ _ _ _ _ h ⟨_, hs⟩ (.inl rfl))
    have hnot : ¬ (n * z > 2 ^ 24) := by omega
    have ez : ((if n * z = 0 then pure #[] else do pure (← zeroValue e).cells) : Sem (Array Value)).run P w = .ok (if n * z = 0 then #[] else zero.cells) w := by
      split <;> simp [zero_run hzero]
    have efill : Instr.fill (fun i => some (i * z, z)) ((Array.range (n * z)).map ((if n * z = 0 then #[] else zero.cells)[· % (if n * z = 0 then (#[] : Array Value) else zero.cells).size]!)) (ps.map fun (x : Nat × Operand) => match x with | (i, x) => (i, a.eval x)).toList = some cells' := by
      have e : (ps.map fun (x : Nat × Operand) => match x with | (i, x) => (i, a.eval x)).toList = ps.toList.map fun (i, x) => (i, a.eval x) := by simp
      rw [e, ← g1]
      congr 1
      by_cases h : n * z = 0
      · simp [init, h]
      · simp [init, h]
    simp only [execOp, ho, Instr.buildSlice, Sem.run_bind, run_underlying ht, Result.andThen_ok, size_run hz, hnot, if_false]
    rw [Sem.run_ite] at ez
    simp only [Sem.run_ite, Sem.run_bind, Sem.run_pure, zero_run hzero, Result.andThen_ok, Result.andThen_ite] at ez ⊢
    by_cases h : n * z = 0
    · simp only [h, if_true] at efill ⊢
      rw [efill]
      simp [newRow, hxl]
    · simp only [h, if_false] at efill ⊢
      rw [efill]
      simp [newRow, hxl]
  · simp at hv
end
end Go.Ev

namespace Go.Ev
open Go

section
variable {P : Program} {us : Us} {w : World} {K : Kx} {st st' S S' : St}
variable {o : Oper} {env : Env} {a : Act} {r : AV}

/-! ### the elements of a slice -/

structure Elems (P : Program) (us : Us) (w : World) (K' : Kx) (z : Nat) (ys : List AV) (x : Value) (news : List Value) : Prop where
  lenOf : (Builtin.lenOf x).run P w = .ok ys.length w
  first : (Builtin.firstCells z ys.length x).run P w = .ok news.toArray w
  first' : (Builtin.firstCells z ys.length x).run P w.drew = .ok news.toArray w.drew
  rels : Rels us w K' (flat ys) news
  each : ∀ y ∈ ys, y.cells.length = z
  one : ∀ y ∈ news, y.oneCell' = true

theorem group_len (a : Bool) (z : Nat) : ∀ (n : Nat) (cs : List AV), (group a z n cs).length = n
  | 0, _ => rfl
  | n + 1, cs => by simp [group, group_len]

theorem group_agg (z : Nat) : ∀ (n : Nat) (cs : List AV), n * z ≤ cs.length → flat (group true z n cs) = cs.take (n * z) ∧ ∀ y ∈ group true z n cs, y.cells.length = z
  | 0, cs, _ => by simp [group, flat]
  | n + 1, cs, h => by
    rw [Nat.succ_mul] at h
    obtain ⟨h1, h2⟩ := group_agg z n (cs.drop z) (by simp; omega)
    refine ⟨?_, ?_⟩
    · simp only [group, if_true, flat_cons, AV.cells, h1]
      rw [Nat.succ_mul, Nat.add_comm, List.take_add]
    · intro y hy
      simp only [group, if_true, List.mem_cons] at hy
      rcases hy with rfl | hy
      · simp [AV.cells]; omega
      · exact h2 y hy

theorem cell1_cells (x : AV) : (cell1 x).cells = [cell1 x] := by cases x <;> rfl
theorem cell1_rel {K x v} (h : Rel us w K x v) : Rel us w K (cell1 x) v := by
  cases x <;> first | exact h | exact .any K v

theorem group_one : ∀ (n : Nat) (cs : List AV), n ≤ cs.length → flat (group false 1 n cs) = (cs.take n).map cell1 ∧ ∀ y ∈ group false 1 n cs, y.cells.length = 1
  | 0, cs, _ => by simp [group, flat]
  | n + 1, [], h => by simp at h
  | n + 1, c :: cs, h => by
    obtain ⟨h1, h2⟩ := group_one n cs (by simpa using h)
    refine ⟨?_, ?_⟩
    · simp only [group, flat_cons, Bool.false_eq_true, if_false, List.headD_cons, cell1_cells, List.drop_one, List.tail_cons, h1, List.take_succ_cons, List.map_cons, List.cons_append, List.nil_append]
    · intro y hy
      simp only [group, Bool.false_eq_true, if_false, List.mem_cons, List.headD_cons, List.drop_one, List.tail_cons] at hy
      rcases hy with rfl | hy
      · rw [cell1_cells]; rfl
      · exact h2 y hy

theorem Rels.map1 {K cs vs} (h : Rels us w K cs vs) : Rels us w K (cs.map cell1) vs :=
  ⟨by simpa using h.len, fun i h1 h2 => by simpa using cell1_rel (h.rel i (by simpa using h1) h2)⟩

theorem group_rel {K} (b : Bool) (z n : Nat) (cs : List AV) (vs : List Value) (hb : b = true ∨ z = 1) (h : n * z ≤ cs.length) (hr : Rels us w K cs vs) :
    Rels us w K (flat (group b z n cs)) (vs.take (n * z)) ∧ ∀ y ∈ group b z n cs, y.cells.length = z := by
  cases b with
  | true =>
    obtain ⟨h1, h2⟩ := group_agg z n cs h
    exact ⟨by rw [h1]; exact hr.take _, h2⟩
  | false =>
    have : z = 1 := by simpa using hb
    subst this
    obtain ⟨h1, h2⟩ := group_one n cs (by omega)
    exact ⟨by rw [h1, Nat.mul_one]; exact (hr.take n).map1, h2⟩

theorem elems_of {z : Nat} {A : AV} {x : Value} {ys : List AV} (hG : Good us w K S) (h : elemsOf z S A = some ys) (hr : Rel us w K A x) : ∃ news, Elems P us w .nil z ys x news := by
  unfold elemsOf at h
  split at h
  · simp only [Option.some.injEq] at h
    subst h
    rw [hr.v_inv]
    exact ⟨[], by simp [Builtin.lenOf], by simp [Builtin.firstCells], by simp [Builtin.firstCells], .nil, by simp, by simp⟩
  · rename_i g z' xs
    split at h
    · next hz =>
      subst hz
      simp only [Option.some.injEq] at h
      subst h
      obtain ⟨c, p, cap, vs, rfl, h1⟩ := hr.lst_inv
      have hl : vs.length = xs.length * z' := by rw [← h1.rels.len, flat_len xs h1.each]
      refine ⟨vs, by simp [Builtin.lenOf], ?_, ?_, h1.rels, h1.each, h1.one⟩
      all_goals
        refine run_firstCells_some _ z' xs.length ⟨c, p, none⟩ xs.length cap vs hl (fun j v hj => ?_)
        obtain ⟨hj1, rfl⟩ := List.getElem?_eq_some_iff.1 hj
        rw [Addr.add_lit]
        exact h1.cells j hj1
    · simp at h
  · rename_i l q n cp z' b
    split at h
    · next hz =>
      obtain ⟨rfl, hb⟩ := hz
      obtain ⟨c, cap, hc, rfl, _⟩ := hr.rsl_inv
      cases hl : S.store[l]? with
      | none => simp [hl] at h
      | some cs =>
        simp only [hl, Option.bind_some] at h
        split at h
        · next hbd =>
          simp only [Option.some.injEq] at h
          subst h
          obtain ⟨cur, ty, h1, h0, h2, h3⟩ := (hG.blk l c cs hc hl).cells (hr.rsl_size hc)
          have h4 := group_rel (us := us) (w := w) b z' n (pubs (cs.drop q)) ((cur.toList.take cs.length).drop q) hb (by rw [pubs_len]; simp; omega) (h2.drop q).pubs
          refine ⟨((cur.toList.take cs.length).drop q).take (n * z'), by simp [Builtin.lenOf, group_len], ?_, ?_, h4.1, h4.2, fun y hy => h3 y (List.mem_of_mem_take (List.mem_of_mem_drop (List.mem_of_mem_take hy)))⟩
          all_goals
            rw [group_len]
            refine run_firstCells_some _ z' n ⟨c, q, none⟩ n cap _ (by simp; omega) (fun j v hj => ?_)
            obtain ⟨hj1, rfl⟩ := List.getElem?_eq_some_iff.1 hj
            rw [Addr.add_lit]
            try rw [World.cell?_drew]
            rw [cell_of_row _ c (q + j) cur ty _ h1]
            simp at hj1
            rw [Array.getElem?_eq_getElem (by omega)]
            simp
        · simp at h
    · simp at h
  · simp at h

theorem pubE_cells (x : AV) : (pubE x).cells = [pubE x] := by
  cases x <;> first | rfl | exact cell1_cells _
theorem pubE_rel {x : AV} {v : Value} (h : Rel us w K x v) : Rel us w K (pubE x) v := by
  cases x <;> first | exact h | exact cell1_rel h.pub.ofNil
theorem map_pubE_rel {cs : List AV} {vs : List Value} (h : Rels us w K cs vs) : Rels us w K (flat (cs.map pubE)) vs ∧ ∀ y ∈ cs.map pubE, y.cells.length = 1 := by
  have e : flat (cs.map pubE) = cs.map pubE := by
    induction cs generalizing vs with
    | nil => rfl
    | cons a r ih =>
      obtain ⟨x, vs', rfl, h2, h3⟩ := h.cons_inv
      rw [List.map_cons, flat_cons, pubE_cells, ih h3]; rfl
  refine ⟨by rw [e]; exact ⟨by simpa using h.len, fun i h1 h2 => by simpa using pubE_rel (h.rel i (by simpa using h1) h2)⟩, fun y hy => ?_⟩
  obtain ⟨x, _, rfl⟩ := List.mem_map.1 hy
  rw [pubE_cells]; rfl
theorem elemsM_of {z : Nat} {A : AV} {x : Value} {ys : List AV} (hG : Good us w K S) (h : elemsM z S A = some ys) (hr : Rel us w K A x) : ∃ news, Elems P us w K z ys x news := by
  have old : elemsOf z S A = some ys → ∃ news, Elems P us w K z ys x news := fun h => by
    obtain ⟨news, g⟩ := elems_of (P := P) hG h hr
    exact ⟨news, g.lenOf, g.first, g.first', g.rels.ofNil, g.each, g.one⟩
  unfold elemsM at h
  split at h
  · rename_i l q n cp z' b
    split at h
    · next hz =>
      obtain ⟨rfl, rfl, rfl⟩ := hz
      obtain ⟨c, cap, hc, rfl, _⟩ := hr.rsl_inv
      cases hl : S.store[l]? with
      | none => simp [hl] at h
      | some cs =>
        simp only [hl, Option.bind_some] at h
        split at h
        · next hbd =>
          simp only [Option.some.injEq] at h
          subst h
          obtain ⟨cur, ty, h1, h0, h2, h3⟩ := (hG.blk l c cs hc hl).cells (hr.rsl_size hc)
          have hone : ∀ y ∈ ((cur.toList.take cs.length).drop q).take n, y.oneCell' = true := fun y hy => h3 y (List.mem_of_mem_take (List.mem_of_mem_drop (List.mem_of_mem_take hy)))
          have h4 := map_pubE_rel ((h2.drop q).take n)
          have hlen : (((cs.drop q).take n).map pubE).length = n := by simp; omega
          refine ⟨((cur.toList.take cs.length).drop q).take n, by rw [hlen]; simp [Builtin.lenOf], ?_, ?_, h4.1, h4.2, hone⟩
          all_goals
            rw [hlen]
            refine run_firstCells_some _ 1 n ⟨c, q, none⟩ n cap _ (by simp; omega) (fun j v hj => ?_)
            obtain ⟨hj1, rfl⟩ := List.getElem?_eq_some_iff.1 hj
            rw [Addr.add_lit]
            try rw [World.cell?_drew]
            rw [cell_of_row _ c (q + j) cur ty _ h1]
            simp at hj1
            rw [Array.getElem?_eq_getElem (by omega)]
            simp
        · simp at h
    · exact old h
  · exact old h
theorem elemsM_prefix {z : Nat} {A : AV} {ys : List AV} (h : elemsM z st A = some ys) (hp : S.store = st.store) : elemsM z S A = some ys := by
  have e : ∀ A, elemsOf z S A = elemsOf z st A := fun A => by unfold elemsOf; rw [hp]
  unfold elemsM at h ⊢
  simp only [e, hp] at h ⊢
  exact h

theorem elemsOf_prefix {z : Nat} {A : AV} {ys : List AV} {rest : List (List AV)} (h : elemsOf z st A = some ys) (hp : S.store = st.store ++ rest) : elemsOf z S A = some ys := by
  unfold elemsOf at h ⊢
  split at h
  · exact h
  · exact h
  · rename_i l q n cp z' b
    cases hl : st.store[l]? with
    | none => simp [hl] at h
    | some cs =>
      have : S.store[l]? = some cs := by
        rw [hp, List.getElem?_append_left (List.getElem?_eq_some_iff.1 hl).1]
        exact hl
      simpa [this, hl] using h
  · exact h

/-! ### append: the runs -/

structure AppOk (P : Program) (o : Oper) (s y : Operand) (i : TypeInfo) (e : TypeId) (z : Value) : Prop where
  ex : ∃ c t u d, o.op = .call c ∧ c.callee = .builtin .append ∧ c.args = #[s, y] ∧ c.argTypes[0]? = some t ∧ P.underlying t = some (.slice e) ∧ c.argTypes[1]? = some u ∧ P.underlying u = some (.slice d)
  info : P.info? e = some i
  zero : i.zero = some z
  zsize : z.cells.size = i.size
  bytes : i.bytes ≤ 2 ^ 12
  pos : 0 < i.size
  zone : ∀ x ∈ z.cells.toList, x.oneCell' = true

theorem app_run {s y : Operand} {i : TypeInfo} {e : TypeId} {zv : Value} (h : AppOk P o s y i e zv) {v : Value} {w' : World} (hr : ∀ (ts : Array TypeId) (ty t u d : TypeId), ts[0]? = some t → P.underlying t = some (.slice e) → ts[1]? = some u → P.underlying u = some (.slice d) →
    (Builtin.append_ ts ty #[a.eval s, a.eval y]).run P w = .ok v w') : (execOp a.eval o).run P w = .ok (.value v) w' := by
  obtain ⟨c, t, u, d, h1, h2, h3, h4, h5, h6, h7⟩ := h.ex
  have := hr c.argTypes o.type t u d h4 h5 h6 h7
  simp [execOp, h1, resolve, h2, h3, invoke, builtin, this]

theorem app_fits {i : TypeInfo} {e : TypeId} {s : Value} {x : Value} {b : Option Addr} {n cap : Nat} {ys : List AV} {news : List Value} {K' : Kx} (hi : P.info? e = some i) (hs : s = .slice b n cap) (he : Elems P us w K' i.size ys x news) (hfit : n + ys.length ≤ cap)
    (ts : Array TypeId) (ty t u d : TypeId) (h4 : ts[0]? = some t) (h5 : P.underlying t = some (.slice e)) (h6 : ts[1]? = some u) (h7 : P.underlying u = some (.slice d)) :
    (Builtin.append_ ts ty #[s, x]).run P w = match b with
      | some ad => ((storeCells (ad.add (n * i.size)) news).run P w).andThen fun _ w' => .ok (.slice b (n + ys.length) cap) w'
      | none => .ok (.slice b (n + ys.length) cap) w := by
  subst hs
  cases b <;> simp [Builtin.append_, h4, h6, run_underlying h5, run_underlying h7, sizeOf, typeInfo, hi, he.lenOf, he.first, hfit]

theorem app_grows {i : TypeInfo} {e : TypeId} {zv : Value} {s : Value} {x : Value} {b : Option Addr} {n cap : Nat} {ys : List AV} {news olds : List Value} {K' : Kx} (hi : P.info? e = some i) (hz : i.zero = some zv) (hby : i.bytes ≤ 2 ^ 12) (hs : s = .slice b n cap) (he : Elems P us w K' i.size ys x news)
    (ho : (Builtin.firstCells i.size n s).run P w.drew = .ok olds.toArray w.drew) (hg : cap < n + ys.length) (hmax : n + ys.length ≤ maxGrow)
    (ts : Array TypeId) (ty t u d : TypeId) (h4 : ts[0]? = some t) (h5 : P.underlying t = some (.slice e)) (h6 : ts[1]? = some u) (h7 : P.underlying u = some (.slice d)) :
    (Builtin.append_ ts ty #[s, x]).run P w = .ok (.slice (some ⟨w.heap.size, 0, none⟩) (n + ys.length) (grownCap w (n + ys.length) cap e))
        (w.drew.alloc (.cells (olds ++ news ++ (Builtin.zeroCells zv.cells (grownCap w (n + ys.length) cap e - (n + ys.length))).toList).toArray e)) := by
  subst hs
  rw [maxGrow_eq] at hmax
  have hn : ¬ (n + ys.length ≤ cap) := by omega
  have h63' : ¬ (9223372036854775807 < ((n : Int) + (ys.length : Int))) := by omega
  have hb2 : (n + ys.length) * i.bytes ≤ 140737488355328 := by
    have h1 : (n + ys.length) * i.bytes ≤ 4294967296 * 4096 := Nat.mul_le_mul hmax hby
    omega
  have hfit := growslice_fits hg hb2
  have h48' : ¬ (281474976710656 < Builtin.nextslicecap (n + ys.length) cap * i.bytes) := by omega
  simp [Builtin.append_, h4, h6, run_underlying h5, run_underlying h7, sizeOf, typeInfo, zeroValue, hi, hz, he.lenOf, hn, h63', h48', Question.forced, he.first', ho, newRow, grownCap]
  congr 2
  apply Array.ext'
  simp [List.append_assoc]
end
end Go.Ev

namespace Go.Ev
open Go

def Kx.setT (K : Kx) (t c : Nat) (T : List Nat) : Kx := ⟨K.lm, fun x => if x = t then some c else K.tk x, T⟩

/-- How the tips go on when tip t moves. -/
structure TipsGo (T T' : List Nat) (t : Nat) : Prop where
  le : ∀ t' m, T[t']? = some m → ∃ m', T'[t']? = some m' ∧ m ≤ m' ∧ (m' = m → t' ≠ t)
  lt : t < T'.length
  len : T.length ≤ T'.length

theorem tipsGo_new (T : List Nat) (m : Nat) : TipsGo T (T ++ [m]) T.length := by
  refine ⟨fun t' m' h => ⟨m', ?_, Nat.le_refl _, fun _ e => ?_⟩, by simp, by simp⟩
  · rw [List.getElem?_append_left (List.getElem?_eq_some_iff.1 h).1]; exact h
  · have := (List.getElem?_eq_some_iff.1 h).1; omega

theorem tipsGo_set (T : List Nat) (t e k : Nat) (h : T[t]? = some e) (hk : 0 < k) : TipsGo T (T.set t (e + k)) t := by
  have ht := (List.getElem?_eq_some_iff.1 h).1
  refine ⟨fun t' m' h' => ?_, by simpa using ht, by simp⟩
  by_cases e' : t' = t
  · subst e'
    rw [h] at h'
    simp only [Option.some.injEq] at h'
    subst h'
    exact ⟨e + k, by simp [ht], by omega, fun e' => by omega⟩
  · exact ⟨m', by rw [List.getElem?_set_ne (fun h => e' h.symm)]; exact h', Nat.le_refl _, fun _ => e'⟩

section
variable {P : Program} {us : Us} {w : World} {K : Kx} {st st' S S' : St}
variable {o : Oper} {env : Env} {a : Act} {r : AV}

theorem heap_grow_old (w : World) (o : Obj) (c : Nat) (h : c < w.heap.size) : (w.drew.alloc o).heap[c]? = w.heap[c]? := heap_alloc_old w.drew o c h

theorem usLe_grow (hG : Good us w K S) (o : Obj) (k : Nat) : UsLe us w (us.new w.heap.size k) (w.drew.alloc o) := by
  intro c n hc
  have hlt := hG.uslt c n hc
  refine ⟨n, by simp [Us.new, Nat.ne_of_lt hlt, hc], Nat.le_refl _, fun i _ => ?_⟩
  rw [World.cell?_alloc_lt]
  · rfl
  · exact hlt

theorem kLe_grow (hG : Good us w K S) (o : Obj) (k t : Nat) (T' : List Nat) (hT : TipsGo S.tips T' t) : KLe us w K (us.new w.heap.size k) (w.drew.alloc o) (K.setT t w.heap.size T') := by
  refine ⟨fun _ _ h => ⟨h, fun n hn => SizeAt.alloc (w := w.drew) hn o⟩, fun t' m hm => ?_⟩
  rw [hG.T] at hm
  obtain ⟨m', h1, h2, h3⟩ := hT.le t' m hm
  refine ⟨m', h1, h2, fun e c hc => ?_⟩
  obtain ⟨n, hn⟩ := hG.tkus t' c hc
  have hlt := hG.uslt c n hn
  exact ⟨by simp [Kx.setT, h3 e, hc], by simp [Us.new, Nat.ne_of_lt hlt], fun n hn => SizeAt.alloc (w := w.drew) hn o⟩

theorem ext_grow (hG : Good us w K S) (o : Obj) (k t : Nat) (T' : List Nat) (hT : TipsGo S.tips T' t) : Ext us w K (us.new w.heap.size k) (w.drew.alloc o) (K.setT t w.heap.size T') where
  os := rfl
  tape := rfl
  output := rfl
  size := by simp
  sz := fun c n hn => SizeAt.alloc (w := w.drew) hn o
  usle := usLe_grow hG o k
  kle := kLe_grow hG o k t T' hT
  frame := fun c hc _ _ => ⟨heap_grow_old w o c hc, by simp [Us.new, Nat.ne_of_lt hc]⟩
  usNone := fun c hc h _ => by simp [Us.new, Nat.ne_of_lt hc, h]
  lmNew := fun l _ h => .inl ⟨l, h⟩
  tkNew := fun t' c h => by
    simp only [Kx.setT] at h
    split at h
    · simp at h; exact .inr (by omega)
    · exact .inl h

theorem good_grow (hG : Good us w K S) (o : Obj) (k t : Nat) (T' : List Nat) (hT : TipsGo S.tips T' t) : Good (us.new w.heap.size k) (w.drew.alloc o) (K.setT t w.heap.size T') ⟨S.store, T'⟩ := by
  have hx := ext_grow hG o k t T' hT
  refine ⟨rfl, hG.lmlt, fun l c cs hl hs => ?_, hG.inj, fun t1 t2 c h1 h2 => ?_, fun t1 c h => ?_, fun t1 c h => ?_, fun c n h => ?_, fun l c h => ?_, fun l t1 c h h2 => ?_⟩
  · exact (hG.blk l c cs hl hs).mono hx.usle hx.kle (heap_grow_old w o c (hG.lmltH hl))
  · have lt : ∀ t c, K.tk t = some c → c < w.heap.size := fun t c h => by obtain ⟨n, hn⟩ := hG.tkus t c h; exact hG.uslt c n hn
    simp only [Kx.setT] at h1 h2
    split at h1 <;> split at h2
    · omega
    · have := lt _ _ h2; simp at h1; omega
    · have := lt _ _ h1; simp at h2; omega
    · exact hG.tkinj t1 t2 c h1 h2
  · simp only [Kx.setT] at h
    split at h
    · next e => subst e; exact hT.lt
    · exact Nat.lt_of_lt_of_le (hG.tklt t1 c h) hT.len
  · simp only [Kx.setT] at h
    split at h
    · simp at h; subst h; exact ⟨k, by simp [Us.new]⟩
    · obtain ⟨n, hn⟩ := hG.tkus t1 c h
      exact ⟨n, by simp [Us.new, Nat.ne_of_lt (hG.uslt c n hn), hn]⟩
  · simp only [Us.new] at h
    split at h
    · next e => subst e; simp
    · have := hG.uslt c n h; simp; omega
  · have hlt := hG.lmltH h
    simp only [Us.new, Nat.ne_of_lt hlt, if_false]
    exact hG.disj l c h
  · simp only [Kx.setT] at h2
    have hlt := hG.lmltH h
    split at h2
    · simp at h2; omega
    · exact hG.lmtk l t1 c h h2

/-! in place -/

theorem usLe_place {c q k : Nat} {cur cells : Array Value} {ty : TypeId} (hu : us c = some q) (hb : w.heap[c]? = some (.cells cur ty (0, 0))) (hq : q ≤ k) (hsame : ∀ i, i < q → cells[i]? = cur[i]?) : UsLe us w (us.new c k) (w.setRow c cells) := by
  intro b n hn
  by_cases e : b = c
  · subst e
    rw [hu] at hn
    simp only [Option.some.injEq] at hn
    subst hn
    refine ⟨k, by simp [Us.new], hq, fun i hi => ?_⟩
    rw [cell_setRow_same w b i cur cells ty _ hb, hsame i hi, cell_of_row w b i cur ty _ hb]
  · exact ⟨n, by simp [Us.new, e, hn], Nat.le_refl _, fun i _ => cell_setRow_other w c cells ⟨b, i, none⟩ e⟩

theorem kLe_place (hG : Good us w K S) {c t k : Nat} {cells : Array Value} (ht : K.tk t = some c) (T' : List Nat) (hT : TipsGo S.tips T' t) : KLe us w K (us.new c k) (w.setRow c cells) (K.setT t c T') := by
  refine ⟨fun l b h => ⟨h, fun n ⟨cur, ty, h1, h2⟩ => ⟨cur, ty, (setRow_other w c b cells (fun e => hG.lmtk l t b h (by rw [e]; exact ht))).trans h1, h2⟩⟩, fun t' m hm => ?_⟩
  rw [hG.T] at hm
  obtain ⟨m', h1, h2, h3⟩ := hT.le t' m hm
  refine ⟨m', h1, h2, fun e b hb => ?_⟩
  have : b ≠ c := fun e' => h3 e (hG.tkinj t' t c (by rw [← e']; exact hb) ht)
  exact ⟨by simp [Kx.setT, h3 e, hb], by simp [Us.new, this], fun n ⟨cur, ty, h1, h2⟩ => ⟨cur, ty, (setRow_other w c b cells this).trans h1, h2⟩⟩

theorem ext_place (hG : Good us w K S) {c q t k : Nat} {cur cells : Array Value} {ty : TypeId} (ht : K.tk t = some c) (hu : us c = some q) (hb : w.heap[c]? = some (.cells cur ty (0, 0))) (hq : q ≤ k) (hsame : ∀ i, i < q → cells[i]? = cur[i]?)
    (T' : List Nat) (hT : TipsGo S.tips T' t) (hsz : cells.size = cur.size) : Ext us w K (us.new c k) (w.setRow c cells) (K.setT t c T') where
  os := rfl
  tape := rfl
  output := rfl
  size := by simp
  sz := fun b n h => h.setRow ⟨cur, ty, hb, hsz.symm⟩
  usle := usLe_place hu hb hq hsame
  kle := kLe_place hG ht T' hT
  frame := fun b _ _ hb2 => by
    have : b ≠ c := fun e => hb2 t (by rw [e]; exact ht)
    exact ⟨setRow_other w c b cells this, by simp [Us.new, this]⟩
  usNone := fun b _ h _ => by
    have : b ≠ c := fun e => by rw [e, hu] at h; exact absurd h (by simp)
    simp [Us.new, this, h]
  lmNew := fun l _ h => .inl ⟨l, h⟩
  tkNew := fun t' b h => by
    simp only [Kx.setT] at h
    split at h
    · next e => subst e; simp at h; subst h; exact .inl ht
    · exact .inl h

theorem good_place (hG : Good us w K S) {c q t k : Nat} {cur cells : Array Value} {ty : TypeId} (ht : K.tk t = some c) (hu : us c = some q) (hb : w.heap[c]? = some (.cells cur ty (0, 0))) (hq : q ≤ k) (hsame : ∀ i, i < q → cells[i]? = cur[i]?)
    (T' : List Nat) (hT : TipsGo S.tips T' t) (hsz : cells.size = cur.size) : Good (us.new c k) (w.setRow c cells) (K.setT t c T') ⟨S.store, T'⟩ := by
  have hx := ext_place hG ht hu hb hq hsame T' hT hsz
  have htk : ∀ t' b, (K.setT t c T').tk t' = some b → K.tk t' = some b := by
    intro t' b h
    simp only [Kx.setT] at h
    split at h
    · next e => subst e; simp at h; subst h; exact ht
    · exact h
  have hne : ∀ l b, K.lm l = some b → b ≠ c := fun l b h e => hG.lmtk l t b h (by rw [e]; exact ht)
  refine ⟨rfl, hG.lmlt, fun l b cs hl hs => ?_, hG.inj, fun t1 t2 b h1 h2 => hG.tkinj t1 t2 b (htk _ _ h1) (htk _ _ h2), fun t1 b h => Nat.lt_of_lt_of_le (hG.tklt t1 b (htk _ _ h)) hT.len, fun t1 b h => ?_, fun b n h => ?_, fun l b h => ?_, fun l t1 b h h2 => hG.lmtk l t1 b h (htk _ _ h2)⟩
  · exact (hG.blk l b cs hl hs).mono hx.usle hx.kle (setRow_other w c b cells (hne l b hl))
  · obtain ⟨n, hn⟩ := hG.tkus t1 b (htk _ _ h)
    by_cases e : b = c
    · exact ⟨k, by simp [Us.new, e]⟩
    · exact ⟨n, by simp [Us.new, e, hn]⟩
  · simp only [Us.new] at h
    split at h
    · next e => subst e; simpa using hG.uslt b q hu
    · simpa using hG.uslt b n h
  · simp only [Us.new, hne l b h, if_false]
    exact hG.disj l b h

/-! ### append -/

theorem fresh_tip (hS : st.tips = S.tips) {c : Nat} {T' : List Nat} {t : Nat} (h : t < st.tips.length → (K.tk t).isSome = true) (hle : t < st'.tips.length) : Fresh st st' K (K.setT t c T') := by
  refine ⟨fun _ _ h => .inl h, fun t' h' => ?_⟩
  simp only [Kx.setT] at h'
  split at h'
  · next e =>
    subst e
    rcases Nat.lt_or_ge t' st.tips.length with hlt | hge
    · exact .inl (h hlt)
    · exact .inr ⟨hge, hle⟩
  · exact .inl h'

/-- The slice moves to a new block. -/
theorem goes_grows {s y : Operand} {i : TypeInfo} {e : TypeId} {zv : Value} (h : AppOk P o s y i e zv) {b : Option Addr} {n cap t m : Nat} {x : Value} {xs ys : List AV} {olds news : List Value} {T' : List Nat} (hG : Good us w K S)
    (hs : a.eval s = .slice b n cap) (hx : a.eval y = x) (he : Elems P us w .nil i.size ys x news) (hold : (Builtin.firstCells i.size n (.slice b n cap)).run P w.drew = .ok olds.toArray w.drew)
    (hxs : xs.length = n) (hrx : Rels us w .nil (flat xs) olds) (heach : ∀ y ∈ xs, y.cells.length = i.size) (hone : ∀ y ∈ olds, y.oneCell' = true) (hg : cap < n + ys.length) (hmax : n + ys.length ≤ maxGrow)
    (hT : TipsGo S.tips T' t) (hTt : T'[t]? = some m) (hfresh : ∀ c, Fresh st st' K (K.setT t c T')) :
    Goes P o a us w K (.lst (.own t m) i.size (xs ++ ys)) st st' ⟨S.store, T'⟩ := by
  intro next Q hn
  unfold Oper.wp
  have hrun := app_run (o := o) (a := a) (w := w) h (fun ts ty t u d h4 h5 h6 h7 => by
    rw [hx]; exact app_grows (us := us) h.info h.zero h.bytes hs he (by rw [hs]; exact hold) hg hmax ts ty t u d h4 h5 h6 h7)
  rw [hrun]
  subst hxs
  have hge := grownCap_ge w (xs.length + ys.length) cap e
  have hol : olds.length = xs.length * i.size := by rw [← hrx.len, flat_len xs heach]
  have hnl : news.length = ys.length * i.size := by rw [← he.rels.len, flat_len ys he.each]
  have hlen : (olds ++ news).length = (xs.length + ys.length) * i.size := by rw [List.length_append, hol, hnl, Nat.add_mul]
  generalize hgc : grownCap w (xs.length + ys.length) cap e = nc at hge
  have hcs : (olds ++ news ++ (Builtin.zeroCells zv.cells (nc - (xs.length + ys.length))).toList).toArray.size = nc * i.size := by
    simp only [List.size_toArray, List.length_append, Array.length_toList, size_zeroCells, h.zsize, hol, hnl, ← Nat.add_mul]
    congr 1; omega
  generalize hce : (olds ++ news ++ (Builtin.zeroCells zv.cells (nc - (xs.length + ys.length))).toList).toArray = cells at hcs
  have hx1 := ext_grow hG (.cells cells e) ((xs.length + ys.length) * i.size) t T' hT
  have hg1 := good_grow hG (.cells cells e) ((xs.length + ys.length) * i.size) t T' hT
  refine hn _ _ _ _ ?_ hx1 hg1 (hfresh _)
  have key : LstAt (us.new w.heap.size ((xs.length + ys.length) * i.size)) (w.drew.alloc (.cells cells e)) (K.setT t w.heap.size T') (.own t m) i.size (xs ++ ys) w.heap.size 0 nc (olds ++ news) := by
    refine ⟨⟨(xs.length + ys.length) * i.size, by simp [Us.new], by rw [hlen]; omega⟩, ?_, ?_, ?_, by simpa using hge, ?_, ?_⟩
    · intro j hj
      have hnew : (w.drew.alloc (.cells cells e)).cell? ⟨w.heap.size, 0 + j, none⟩ = cells[j]? := by
        have := World.cell?_alloc_at (w := w.drew) cells e _ j rfl
        simpa using this
      rw [hnew, ← hce]
      simp only [List.getElem?_toArray]
      rw [List.getElem?_append_left (by simpa using hj), List.getElem?_eq_getElem hj]
    · intro v hv
      rcases List.mem_append.1 hv with hv | hv
      · exact hone v hv
      · exact he.one v hv
    · intro v hv
      rcases List.mem_append.1 hv with hv | hv
      · exact heach v hv
      · exact he.each v hv
    · rw [flat_append]
      exact (hrx.append he.rels).mono hx1.usle (.nil _ _ _ _ _)
    · refine ⟨m, hTt, Nat.le_refl _, fun _ => ⟨rfl, by simp [Kx.setT], by simp [Us.new], by simpa using hge, cells, e, heap_alloc_new w.drew _, Nat.le_of_eq hcs.symm⟩⟩
  have := key.rel
  rw [List.length_append] at this
  exact this

/-- The slice grows where it lies. -/
theorem goes_fits {s y : Operand} {i : TypeInfo} {e : TypeId} {zv : Value} (h : AppOk P o s y i e zv) {c n cap t m : Nat} {x : Value} {xs ys : List AV} {news : List Value} {cur : Array Value} {ty : TypeId} {olds : List Value} {T' : List Nat} (hG : Good us w K S)
    (hs : a.eval s = .slice (some ⟨c, 0, none⟩) n cap) (hx : a.eval y = x) (he : Elems P us w .nil i.size ys x news)
    (hxs : xs.length = n) (hrx : Rels us w .nil (flat xs) olds) (heach : ∀ y ∈ xs, y.cells.length = i.size) (hone : ∀ y ∈ olds, y.oneCell' = true) (hcells : CellsAt w c 0 olds) (hfit : n + ys.length ≤ cap)
    (ht : K.tk t = some c) (hu : us c = some (n * i.size)) (hb : w.heap[c]? = some (.cells cur ty (0, 0))) (hcur : cap * i.size ≤ cur.size)
    (hT : TipsGo S.tips T' t) (hTt : T'[t]? = some m) (hfresh : ∀ c, Fresh st st' K (K.setT t c T')) :
    Goes P o a us w K (.lst (.own t m) i.size (xs ++ ys)) st st' ⟨S.store, T'⟩ := by
  intro next Q hn
  unfold Oper.wp
  subst hxs
  have hol : olds.length = xs.length * i.size := by rw [← hrx.len, flat_len xs heach]
  have hnl : news.length = ys.length * i.size := by rw [← he.rels.len, flat_len ys he.each]
  have hlen : (olds ++ news).length = (xs.length + ys.length) * i.size := by rw [List.length_append, hol, hnl, Nat.add_mul]
  have hle : (xs.length + ys.length) * i.size ≤ cap * i.size := Nat.mul_le_mul_right _ hfit
  have hst := run_storeCells_at P c (xs.length * i.size) ty news 0 cur w hb (by rw [hnl, Nat.add_zero, ← Nat.add_mul]; omega) he.one
  simp only [Nat.add_zero] at hst
  have hrun := app_run (o := o) (a := a) (w := w) (v := .slice (some ⟨c, 0, none⟩) (xs.length + ys.length) cap) (w' := w.setRow c (cur.toList.take (xs.length * i.size) ++ news ++ cur.toList.drop (xs.length * i.size + news.length)).toArray) h (fun ts ty' t' u d h4 h5 h6 h7 => by
    rw [hx, app_fits (us := us) h.info hs he hfit ts ty' t' u d h4 h5 h6 h7]
    simp only [Addr.add_lit, Nat.zero_add, hst, Result.andThen_ok])
  rw [hrun]
  have hpre : cur.toList.take (xs.length * i.size) = olds := by
    apply List.ext_getElem
    · rw [List.length_take, Array.length_toList, hol]
      exact Nat.min_eq_left (Nat.le_trans (Nat.mul_le_mul_right i.size (show xs.length ≤ cap by omega)) hcur)
    · intro j h1 h2
      have h3 := hcells j h2
      rw [Nat.zero_add, cell_of_row w c j cur ty _ hb] at h3
      have h4 : j < cur.size := by simp at h1; omega
      rw [Array.getElem?_eq_getElem h4] at h3
      simp only [Option.some.injEq] at h3
      simpa using h3
  rw [hpre]
  generalize hce : (olds ++ news ++ cur.toList.drop (xs.length * i.size + news.length)).toArray = cells
  have hcs : cells.size = cur.size := by
    rw [← hce]
    simp only [List.size_toArray, List.length_append, List.length_drop, Array.length_toList, hol, hnl]
    rw [Nat.add_mul] at hle
    omega
  have hq : xs.length * i.size ≤ (xs.length + ys.length) * i.size := Nat.mul_le_mul_right _ (by omega)
  have hsame : ∀ j, j < xs.length * i.size → cells[j]? = cur[j]? := by
    intro j hj
    rw [← hce, List.getElem?_toArray, List.append_assoc, List.getElem?_append_left (by omega)]
    have h3 := hcells j (by omega)
    rw [Nat.zero_add, cell_of_row w c j cur ty _ hb] at h3
    rw [h3, List.getElem?_eq_getElem (by omega)]
  have hx1 := ext_place hG (k := (xs.length + ys.length) * i.size) ht hu hb hq hsame T' hT hcs
  have hg1 := good_place hG (k := (xs.length + ys.length) * i.size) ht hu hb hq hsame T' hT hcs
  refine hn _ _ _ _ ?_ hx1 hg1 (hfresh _)
  have key : LstAt (us.new c ((xs.length + ys.length) * i.size)) (w.setRow c cells) (K.setT t c T') (.own t m) i.size (xs ++ ys) c 0 cap (olds ++ news) := by
    refine ⟨⟨(xs.length + ys.length) * i.size, by simp [Us.new], by rw [hlen]; omega⟩, ?_, ?_, ?_, by simpa using hfit, ?_, ?_⟩
    · intro j hj
      rw [Nat.zero_add, cell_setRow_same w c j cur cells ty _ hb, ← hce]
      simp only [List.getElem?_toArray]
      rw [List.getElem?_append_left (by simpa using hj), List.getElem?_eq_getElem hj]
    · intro v hv
      rcases List.mem_append.1 hv with hv | hv
      · exact hone v hv
      · exact he.one v hv
    · intro v hv
      rcases List.mem_append.1 hv with hv | hv
      · exact heach v hv
      · exact he.each v hv
    · rw [flat_append]
      exact (hrx.append he.rels).mono hx1.usle (.nil _ _ _ _ _)
    · refine ⟨m, hTt, Nat.le_refl _, fun _ => ⟨rfl, by simp [Kx.setT], by simp [Us.new], by simpa using hfit, cells, ty, setRow_heap w c cur _ ty _ hb, by rw [hcs]; exact hcur⟩⟩
  have := key.rel
  rw [List.length_append] at this
  exact this

theorem goes_same {s y : Operand} {i : TypeInfo} {e : TypeId} {zv : Value} (h : AppOk P o s y i e zv) {b : Option Addr} {n cap : Nat} {x : Value} {news : List Value} {K' : Kx} (hG : Good us w K S) (hs : a.eval s = .slice b n cap) (hx : a.eval y = x) (he : Elems P us w K' i.size [] x news) (hcap : n ≤ cap)
    (hr : Rel us w K r (.slice b n cap)) : Goes P o a us w K r st st' S := by
  refine RunsTo.goes (.same hG (x := .slice b n cap) ?_ hr)
  have hnil : news = [] := by simpa [flat] using he.rels.nil_inv
  refine app_run h (fun ts ty t u d h4 h5 h6 h7 => ?_)
  rw [hx, app_fits (us := us) h.info hs he (by simpa using hcap) ts ty t u d h4 h5 h6 h7, hnil]
  cases b <;> simp [storeCells]

theorem appendAV_state {z : Nat} {s : AV} {ys : List AV} (h : appendAV z s ys st = some (r, st')) (S : St) (hS : S.tips = st.tips) : appendAV z s ys S = some (r, ⟨S.store, st'.tips⟩) := by
  unfold appendAV at h ⊢
  rw [hS]
  split at h
  · cases ys with
    | nil => simp only [Option.some.injEq, Prod.mk.injEq] at h ⊢; obtain ⟨rfl, rfl⟩ := h; exact ⟨rfl, by rw [← hS]⟩
    | cons y l =>
      simp only at h ⊢
      split at h
      · next hc => simp only [Option.some.injEq, Prod.mk.injEq] at h; obtain ⟨rfl, rfl⟩ := h; rw [if_pos hc]
      · simp at h
  · split at h
    · next hz =>
      rw [if_pos hz]
      cases ys with
      | nil => simp only [Option.some.injEq, Prod.mk.injEq] at h ⊢; obtain ⟨rfl, rfl⟩ := h; exact ⟨rfl, by rw [← hS]⟩
      | cons y l =>
        simp only at h ⊢
        split at h
        · next hc =>
          rw [if_pos hc]
          split at h
          · simp only [Option.some.injEq, Prod.mk.injEq] at h; obtain ⟨rfl, rfl⟩ := h; rfl
          · split at h
            · next ht => simp only [Option.some.injEq, Prod.mk.injEq] at h; obtain ⟨rfl, rfl⟩ := h; rw [if_pos ht]
            · simp at h
          · simp at h
        · simp at h
    · simp at h
  · simp at h

theorem rt_append {s y : Operand} {i : TypeInfo} {e : TypeId} {zv : Value} (h : AppOk P o s y i e zv) {ys : List AV} (hE : EnvRel us w K env a) (hG : Good us w K S) (hst : st.tips = S.tips) (hst' : st'.tips = S'.tips) (hys : elemsOf i.size S (aval env y) = some ys)
    (hv : appendAV i.size (aval env s) ys S = some (r, S')) : Goes P o a us w K r st st' S' := by
  have h1 := aval_rel hE s
  have h2 := aval_rel hE y
  obtain ⟨news, he⟩ := elems_of (P := P) hG hys h2
  generalize aval env s = as at hv h1
  unfold appendAV at hv
  split at hv
  · have h3 := h1.v_inv
    cases ys with
    | nil =>
      simp only [Option.some.injEq, Prod.mk.injEq] at hv
      obtain ⟨rfl, rfl⟩ := hv
      exact goes_same h hG h3 rfl he (Nat.le_refl _) (.v K _ rfl)
    | cons y0 l =>
      simp only at hv
      split at hv
      · next hc =>
        simp only [Option.some.injEq, Prod.mk.injEq] at hv
        obtain ⟨rfl, rfl⟩ := hv
        have := goes_grows (st := st) (st' := st') (m := (y0 :: l).length) (t := S.tips.length) (T' := S.tips ++ [(y0 :: l).length]) (xs := []) (olds := []) h hG h3 rfl he (by simp [Builtin.firstCells]) rfl .nil (by simp) (by simp) (by simp) (by simpa using hc)
          (tipsGo_new _ _) (by simp) (fun c => fresh_tip (S := S) hst (fun hlt => by rw [hst] at hlt; omega) (by rw [hst']; simp))
        simpa using this
      · simp at hv
  · rename_i g z' xs
    split at hv
    · next hz =>
      subst hz
      obtain ⟨c, p, cap, vs, h3, h4⟩ := h1.lst_inv
      have hvl : vs.length = xs.length * i.size := by rw [← h4.rels.len, flat_len xs h4.each]
      have hold : (Builtin.firstCells i.size xs.length (.slice (some ⟨c, p, none⟩) xs.length cap)).run P w.drew = .ok vs.toArray w.drew :=
        run_firstCells_some w.drew i.size xs.length ⟨c, p, none⟩ xs.length cap vs hvl (fun j v hj => by
          obtain ⟨hj1, rfl⟩ := List.getElem?_eq_some_iff.1 hj
          rw [Addr.add_lit]
          exact h4.cells j hj1)
      cases ys with
      | nil =>
        simp only [Option.some.injEq, Prod.mk.injEq] at hv
        obtain ⟨rfl, rfl⟩ := hv
        exact goes_same h hG h3 rfl he h4.fits h4.rel
      | cons y0 l =>
        simp only at hv
        split at hv
        · next hc =>
          split at hv
          · simp only [Option.some.injEq, Prod.mk.injEq] at hv
            obtain ⟨rfl, rfl⟩ := hv
            have hcap : cap = xs.length := h4.tag
            exact goes_grows (m := xs.length + (y0 :: l).length) (t := S.tips.length) h hG h3 rfl he hold rfl h4.rels h4.each h4.one (by simp; omega) hc
              (tipsGo_new _ _) (by simp) (fun c => fresh_tip (S := S) hst (fun hlt => by rw [hst] at hlt; omega) (by rw [hst']; simp))
          · rename_i t e'
            split at hv
            · next ht =>
              simp only [Option.some.injEq, Prod.mk.injEq] at hv
              obtain ⟨rfl, rfl⟩ := hv
              obtain ⟨m, hm, hle, htip⟩ := h4.tag
              rw [hG.T, ht] at hm
              simp only [Option.some.injEq] at hm
              obtain ⟨rfl, htk, hus, hcap, cur, ty, hb, hcur⟩ := htip hm
              have htl := (List.getElem?_eq_some_iff.1 ht).1
              have hTt : (S.tips.set t (e' + (y0 :: l).length))[t]? = some (e' + (y0 :: l).length) := by simp [htl]
              have hT := tipsGo_set S.tips t e' (y0 :: l).length ht (by simp)
              have hfr : ∀ c', Fresh st st' K (K.setT t c' (S.tips.set t (e' + (y0 :: l).length))) := fun c' => fresh_tip (S := S) hst (fun _ => by rw [htk]; rfl) (by rw [hst']; simpa using htl)
              by_cases hf : xs.length + (y0 :: l).length ≤ cap
              · exact goes_fits h hG h3 rfl he rfl h4.rels h4.each h4.one h4.cells hf htk hus hb hcur hT hTt hfr
              · exact goes_grows h hG h3 rfl he hold rfl h4.rels h4.each h4.one (by omega) hc hT hTt hfr
            · simp at hv
          · simp at hv
        · simp at hv
    · simp at hv
  · simp at hv
end
end Go.Ev

