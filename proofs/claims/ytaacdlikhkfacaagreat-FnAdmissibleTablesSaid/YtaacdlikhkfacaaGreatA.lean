/- Steps of the proof of FnAdmissibleTables: an abstract machine, its runs, and the plain law. -/
import Derived.Orders
import Derived.Calls
import Derived.KernelRfl
import Derived.WalkKit
import Derived.Lib.Strings
import Derived.MapKept
import Derived.Laws.IdiomStrings
import Derived.Laws.BytesString
import Derived.Laws.CopyRow
section

/- The abstract machine, part A: values, heap, operations, and the interpreter of the model's code. Plain definitions; nothing is claimed here. -/
namespace Go.Am

inductive AVal where
  | undef
  | bool (b : Bool)
  | int (k : IntKind) (n : Int)
  | str (s : List UInt8)
  | nil
  | ptr (id off : Nat)
  | nilS
  | slice (id off len sz : Nat)
  | nilM
  | map (id : Nat)
  | nilF
  | func (fn : Fn) (first captured : List AVal)
  | nilI
  | agg (cs : List AVal)
  | tuple (cs : List AVal)
  deriving Inhabited

inductive AObj where
  | cells (c : List AVal) (elem : TypeId) (fz : Nat)
  | map (es : List (AVal × AVal))
  | dead
  deriving Inhabited

structure AHeap where
  get : Nat → Option AObj
  next : Nat

def AHeap.set (H : AHeap) (id : Nat) (o : AObj) : AHeap := { H with get := fun i => if i = id then some o else H.get i }
def AHeap.push (H : AHeap) (o : AObj) : AHeap := { get := fun i => if i = H.next then some o else H.get i, next := H.next + 1 }

abbrev AM (α : Type) : Type := AHeap → Option (α × AHeap)
def ret {α : Type} (a : α) : AM α := fun H => some (a, H)
def fail {α : Type} : AM α := fun _ => none
def bnd {α β : Type} (m : AM α) (f : α → AM β) : AM β := fun H =>
  match m H with
  | some (a, H') => f a H'
  | none => none
def getH : AM AHeap := fun H => some (H, H)

/-- A constant of the code as an abstract value. -/
def absC1 : Value → AVal
  | .bool b => .bool b
  | .int k n => .int k n
  | .string s => .str s.data.toList
  | .pointer none => .nil
  | .slice none 0 0 => .nilS
  | .map none => .nilM
  | .nilFunc => .nilF
  | .nilIface => .nilI
  | .func fn ⟨[]⟩ ⟨[]⟩ => .func fn [] []
  | _ => .undef
def absC : Value → AVal
  | .agg cs => .agg (cs.toList.map absC1)
  | v => absC1 v

abbrev Env := List AVal
def gx (s : List AVal) (k : Nat) : AVal := s.getD k .undef
def ev (env : Env) : Operand → AVal
  | .tmp t => env.getD t .undef
  | .const v => absC v
  | .global _ => .undef
  | .func f => .func (.func f) [] []
def putE (env : Env) : Option Nat → AVal → Env
  | some d, v => env.set d v
  | none, _ => env

/-! ### Types -/
def szOf (P : Program) (t : TypeId) : Nat := ((P.info? t).map (·.size)).getD 0
def aggOf (P : Program) (t : TypeId) : Option Bool :=
  match P.underlying t with
  | some (.struct _) | some (.array _ _) => some true
  | some _ => some false
  | none => none
def ty {α : Type} (P : Program) (t : TypeId) (k : TypeInfo → AM α) : AM α :=
  match P.info? t with
  | some i => k i
  | none => fail
def zcells (i : TypeInfo) : Option (List AVal) :=
  match i.zero with
  | some (.agg cs) => some (cs.toList.map absC1)
  | some v => some [absC1 v]
  | none => none

/-! ### Operations on values alone -/
def cell1 : AVal → AM AVal
  | .undef | .tuple _ => fail
  | .agg [.undef] | .agg [.tuple _] | .agg [.agg _] => fail
  | .agg [x] => ret x
  | .agg _ => fail
  | v => ret v
def AVal.isCell : AVal → Bool
  | .undef | .tuple _ | .agg _ => false
  | _ => true
def cellsN (n : Nat) : AVal → AM (List AVal)
  | .agg cs => if cs.length = n ∧ cs.all AVal.isCell then ret cs else fail
  | _ => fail
def splice (cells : List AVal) (off : Nat) (vs : List AVal) : List AVal := cells.take off ++ vs ++ cells.drop (off + vs.length)

def pick3 (c a b : AVal) : AM AVal :=
  match c with
  | .bool true => ret a
  | .bool false => ret b
  | _ => fail
def br {α : Type} (c : AVal) (t e : AM α) : AM α :=
  match c with
  | .bool true => t
  | .bool false => e
  | _ => fail
def gd (c : AVal) (want : Bool) (m : AM AVal) : AM AVal :=
  match c with
  | .bool b => if b = want then m else ret (.tuple [])
  | .tuple [] => ret (.tuple [])
  | _ => fail
def ncheck : AVal → AM AVal
  | .ptr id off => ret (.ptr id off)
  | .func (.func f) a b => ret (.func (.func f) a b)
  | _ => fail

def wr (k : IntKind) (n : Int) : AM AVal := ret (.int k (k.wrap n))
def ibits (k : IntKind) (f : BitVec k.bits → BitVec k.bits → BitVec k.bits) (a b : Int) : AM AVal :=
  ret (.int k (k.wrap (f (BitVec.ofInt k.bits a) (BitVec.ofInt k.bits b)).toNat))
def maxStr : Nat := 1152921504606846976
/-- Binary operators on values of basic kinds. -/
def abin (op : BinOp) (x y : AVal) : AM AVal :=
  match op, x, y with
  | .shl, .int k a, .int _ b => if b < 0 then fail else wr k (a * 2 ^ (min b.toNat k.bits))
  | .shr, .int k a, .int _ b => if b < 0 then fail else ret (.int k (a.fdiv (2 ^ (min b.toNat k.bits))))
  | op, .int k a, .int k' b =>
    if k ≠ k' then fail else
    match op with
    | .add => wr k (a + b)
    | .sub => wr k (a - b)
    | .mul => wr k (a * b)
    | .quo => if b = 0 then fail else wr k (a.tdiv b)
    | .rem => if b = 0 then fail else ret (.int k (a.tmod b))
    | .and => ibits k (· &&& ·) a b
    | .or => ibits k (· ||| ·) a b
    | .xor => ibits k (· ^^^ ·) a b
    | .andNot => ibits k (fun x y => x &&& ~~~y) a b
    | .eql => ret (.bool (a == b))
    | .neq => ret (.bool (a != b))
    | .lss => ret (.bool (a < b))
    | .leq => ret (.bool (a ≤ b))
    | .gtr => ret (.bool (a > b))
    | .geq => ret (.bool (a ≥ b))
    | _ => fail
  | op, .str a, .str b =>
    match op with
    | .add => if a.length + b.length ≤ maxStr then ret (.str (a ++ b)) else fail
    | .eql => ret (.bool (a == b))
    | .neq => ret (.bool (!(a == b)))
    | .lss => ret (.bool (Op.bytesLess a b))
    | .leq => ret (.bool (Op.bytesLess a b || a == b))
    | .gtr => ret (.bool (!(Op.bytesLess a b || a == b)))
    | .geq => ret (.bool (!Op.bytesLess a b))
    | _ => fail
  | _, _, _ => fail
/-- Equality at a type that is neither an integer's nor a string's. -/
def aeqT (d : TypeDesc) (x y : AVal) : Option Bool :=
  match d, x, y with
  | .bool, .bool a, .bool b => some (a == b)
  | .pointer _, .nil, .nil => some true
  | .pointer _, .nil, .ptr _ _ => some false
  | .pointer _, .ptr _ _, .nil => some false
  | .slice _, .nilS, .nilS => some true
  | .slice _, .nilS, .slice _ _ _ _ => some false
  | .slice _, .slice _ _ _ _, .nilS => some false
  | .map _ _, .nilM, .nilM => some true
  | .map _ _, .nilM, .map _ => some false
  | .map _ _, .map _, .nilM => some false
  | .func _ _ _, .nilF, .nilF => some true
  | .func _ _ _, .nilF, .func _ _ _ => some false
  | .func _ _ _, .func _ _ _, .nilF => some false
  | _, _, _ => none
def aeq (d : TypeDesc) (neg : Bool) (x y : AVal) : AM AVal :=
  match aeqT d x y with
  | some b => ret (.bool (if neg then !b else b))
  | none => fail
def abinT (P : Program) (op : BinOp) (t : TypeId) (x y : AVal) : AM AVal :=
  match P.underlying t with
  | some (.int _) | some .string => abin op x y
  | some d => match op with
    | .eql => aeq d false x y
    | .neq => aeq d true x y
    | _ => fail
  | none => fail
def aun (op : UnOp) (x : AVal) : AM AVal :=
  match op, x with
  | .neg, .int k n => wr k (0 - n)
  | .xor, .int k n => ibits k (· ^^^ ·) (if k.signed then -1 else k.max) n
  | .not, .bool b => ret (.bool (!b))
  | _, _ => fail
def cvInt (k : IntKind) : AVal → AM AVal
  | .int _ n => wr k n
  | _ => fail
def cvStr : AVal → AM AVal
  | .str s => ret (.str s)
  | _ => fail
def lenT : AVal → AM AVal
  | .str s => ret (.int .i64 s.length)
  | _ => fail
def lenA : AVal → AM AVal
  | .nilS => ret (.int .i64 0)
  | .slice _ _ n _ => ret (.int .i64 n)
  | _ => fail
def fadd (n : Nat) : AVal → AM AVal
  | .ptr id off => ret (.ptr id (off + n))
  | _ => fail
def fld1 (n : Nat) : AVal → AM AVal
  | .agg cs => match cs[n]? with
    | some v => ret v
    | none => fail
  | _ => fail
def fldn (off n : Nat) : AVal → AM AVal
  | .agg cs => if off + n ≤ cs.length then ret (.agg ((cs.drop off).take n)) else fail
  | _ => fail
def extr (i : Nat) : AVal → AM AVal
  | .tuple cs => match cs[i]? with
    | some v => ret v
    | none => fail
  | _ => fail
/-- The address of an element of a slice. -/
def ixa (size : Nat) (x i : AVal) : AM AVal :=
  match x, i with
  | .slice id off len sz, .int _ i => if 0 ≤ i ∧ i < len ∧ sz = size then ret (.ptr id (off + i.toNat * size)) else fail
  | _, _ => fail
def ixArr (len size : Nat) (x i : AVal) : AM AVal :=
  match x, i with
  | .ptr id off, .int _ i => if 0 ≤ i ∧ i < len then ret (.ptr id (off + i.toNat * size)) else fail
  | _, _ => fail
def ixStr (x i : AVal) : AM AVal :=
  match x, i with
  | .str s, .int _ i => if 0 ≤ i then match s[i.toNat]? with
      | some b => ret (.int .u8 b.toNat)
      | none => fail
    else fail
  | _, _ => fail
def ixAgg1 (len : Nat) (x i : AVal) : AM AVal :=
  match x, i with
  | .agg cs, .int _ i => if 0 ≤ i ∧ i < len then match cs[i.toNat]? with
      | some v => ret v
      | none => fail
    else fail
  | _, _ => fail
def bndOf (d m : Nat) : Option AVal → Option Nat
  | none => some d
  | some (.int _ h) => if 0 ≤ h ∧ h ≤ m then some h.toNat else none
  | some _ => none
def bnds (len : Nat) (lo hi : Option AVal) : Option (Nat × Nat) :=
  match bndOf len len hi with
  | none => none
  | some h => match bndOf 0 h lo with
    | none => none
    | some l => some (l, h)
def slS (size : Nat) (x : AVal) (lo hi : Option AVal) : AM AVal :=
  match x with
  | .nilS => match bnds 0 lo hi with
    | some _ => ret .nilS
    | none => fail
  | .slice id off len sz => match bnds len lo hi with
    | some (l, h) => if sz = size then ret (.slice id (off + l * size) (h - l) sz) else fail
    | none => fail
  | _ => fail
def slStr (x : AVal) (lo hi : Option AVal) : AM AVal :=
  match x with
  | .str s => match bnds s.length lo hi with
    | some (l, h) => ret (.str ((s.take h).drop l))
    | none => fail
  | _ => fail
def amin2 (x y : AVal) : AM AVal :=
  match x, y with
  | .int k a, .int _ b => ret (.int k (if b < a then b else a))
  | _, _ => fail
def amax2 (x y : AVal) : AM AVal :=
  match x, y with
  | .int k a, .int _ b => ret (.int k (if b > a then b else a))
  | _, _ => fail
def afoldM (f : AVal → AVal → AM AVal) : List AVal → AVal → AM AVal
  | [], x => ret x
  | y :: r, x => bnd (f x y) (afoldM f r)

/-! ### Operations on the heap -/
/-- A new block: at a place kept for it, or the next one. -/
def newB : Option Nat → AObj → AM Nat
  | none, o => fun H => some (H.next, H.push o)
  | some id, o => fun H =>
    match H.get id with
    | some _ => none
    | none => if id < H.next then some (id, H.set id o) else none
def reserve (n : Nat) : AM Nat := fun H => some (H.next, { H with next := H.next + n })
def rd (id : Nat) (H : AHeap) : Option (List AVal) :=
  match H.get id with
  | some (.cells c _ _) => some c
  | _ => none
def ld1 (v : AVal) : AM AVal := fun H =>
  match v with
  | .ptr id off => match rd id H with
    | some c => match c[off]? with
      | some x => some (x, H)
      | none => none
    | none => none
  | _ => none
def ldn (n : Nat) (v : AVal) : AM AVal := fun H =>
  match v with
  | .ptr id off => match rd id H with
    | some c => if off + n ≤ c.length then some (.agg ((c.drop off).take n), H) else none
    | none => none
  | _ => none
def stCells (id off : Nat) (vs : List AVal) : AM AVal := fun H =>
  match H.get id with
  | some (.cells c e fz) => if fz ≤ off ∧ off + vs.length ≤ c.length then some (.undef, H.set id (.cells (splice c off vs) e fz)) else none
  | _ => none
def st1 (a v : AVal) : AM AVal :=
  match a with
  | .ptr id off => bnd (cell1 v) fun x => stCells id off [x]
  | _ => fail
def stn (n : Nat) (a v : AVal) : AM AVal :=
  match a with
  | .ptr id off => bnd (cellsN n v) fun xs => stCells id off xs
  | _ => fail
def allocC (rs : Option Nat) (elem : TypeId) (cs : List AVal) : AM AVal := bnd (newB rs (.cells cs elem 0)) fun id => ret (.ptr id 0)
def boxA (rs : Option Nat) (elem : TypeId) (size : Nat) (v : AVal) : AM AVal :=
  if size = 1 then bnd (cell1 v) fun x => allocC rs elem [x] else bnd (cellsN size v) fun xs => allocC rs elem xs
def allocS (rs : Option Nat) (elem : TypeId) (size len : Nat) (cs : List AVal) : AM AVal := bnd (newB rs (.cells cs elem 0)) fun id => ret (.slice id 0 len size)
def afillM (place : Nat → Option (Nat × Nat)) : List (Nat × AVal) → List AVal → AM (List AVal)
  | [], cells => ret cells
  | (i, v) :: rest, cells =>
    match place i with
    | none => fail
    | some (off, size) => if off + size ≤ cells.length then
        (if size = 1 then bnd (cell1 v) fun x => afillM place rest (cells.set off x)
         else bnd (cellsN size v) fun xs => afillM place rest (splice cells off xs))
      else fail
def zrep (n : Nat) (zs : List AVal) : List AVal := (List.replicate n zs).flatten
def maxLenA : Nat := 1073741824
def mkS (rs : Option Nat) (elem : TypeId) (size bytes : Nat) (zs : List AVal) (l c : AVal) : AM AVal :=
  match l, c with
  | .int _ l, .int _ c => if 0 ≤ l ∧ l ≤ c ∧ c ≤ maxLenA ∧ bytes ≤ 65536 then allocS rs elem size l.toNat (zrep l.toNat zs) else fail
  | _, _ => fail
/-- The cells that an append or a copy takes. -/
def srcCells (size : Nat) (v : AVal) (n : Nat) (H : AHeap) : Option (List AVal) :=
  match v with
  | .nilS => some []
  | .str s => if size = 1 then some ((s.take n).map fun b => .int .u8 b.toNat) else none
  | .slice id off _ sz => match rd id H with
    | some c => if sz = size ∧ off + n * size ≤ c.length then some ((c.drop off).take (n * size)) else none
    | none => none
  | _ => none
def srcLen : AVal → Option Nat
  | .nilS => some 0
  | .str s => some s.length
  | .slice _ _ n _ => some n
  | _ => none
def appS (elem : TypeId) (size bytes : Nat) (s x : AVal) : AM AVal := fun H =>
  match srcLen x with
  | none => none
  | some n => match srcCells size x n H with
    | none => none
    | some new =>
      match s with
      | .nilS => if n = 0 then some (.nilS, H) else
        if n ≤ maxLenA ∧ bytes ≤ 4096 then some (.slice H.next 0 n size, H.push (.cells new elem 0)) else none
      | .slice id off len sz =>
        if n = 0 then some (s, H) else
        match H.get id with
        | some (.cells c e fz) =>
          if sz = size ∧ off + len * size = c.length ∧ fz ≤ c.length ∧ len + n ≤ maxLenA ∧ bytes ≤ 4096 ∧ e = elem ∧ new.all AVal.isCell then
            some (.slice H.next 0 (len + n) size, (H.set id .dead).push (.cells (c.drop off ++ new) elem (fz - off)))
          else none
        | _ => none
      | _ => none
def copyS (size : Nat) (d x : AVal) : AM AVal := fun H =>
  match srcLen x, srcLen d with
  | some n, some m => match srcCells size x (min n m) H with
    | none => none
    | some new =>
      match d with
      | .nilS => some (.int .i64 0, H)
      | .slice id off _ sz => if sz = size ∧ new.all AVal.isCell then
          (if min n m = 0 then some (.int .i64 0, H) else
           match stCells id off new H with
           | some (_, H') => some (.int .i64 (min n m : Nat), H')
           | none => none)
        else none
      | _ => none
  | _, _ => none
def bytesStr : List AVal → Option (List UInt8)
  | [] => some []
  | .int .u8 n :: r => match bytesStr r with
    | some t => some (UInt8.ofNat n.toNat :: t)
    | none => none
  | _ => none
/-- string(b) -/
def b2s (v : AVal) : AM AVal := fun H =>
  match v with
  | .nilS => some (.str [], H)
  | .slice _ _ n _ => match srcCells 1 v n H with
    | some cs => match bytesStr cs with
      | some t => some (.str t, H)
      | none => none
    | none => none
  | _ => none
/-- []byte(s) -/
def s2b (rs : Option Nat) (elem : TypeId) (v : AVal) : AM AVal :=
  match v with
  | .str s => if s.length ≤ maxLenA then allocS rs elem 1 s.length (s.map fun b => .int .u8 b.toNat) else fail
  | _ => fail

/-- Where a key stands. -/
def keyEq : AVal → AVal → Option Bool
  | .str a, .str b => some (a == b)
  | .int k a, .int k' b => if k = k' then some (a == b) else none
  | .bool a, .bool b => some (a == b)
  | _, _ => none
def findK (k : AVal) : List (AVal × AVal) → Option (Option AVal)
  | [] => some none
  | (k', v) :: r => match keyEq k k' with
    | some true => some (some v)
    | some false => findK k r
    | none => none
def setK (k v : AVal) : List (AVal × AVal) → Option (List (AVal × AVal))
  | [] => some [(k, v)]
  | (k', v') :: r => match keyEq k k' with
    | some true => some ((k, v) :: r)
    | some false => match setK k v r with
      | some r' => some ((k', v') :: r')
      | none => none
    | none => none
def goodKey (d : TypeDesc) (k : AVal) : Bool :=
  match d, k with
  | .string, .str _ => true
  | .int k, .int k' _ => decide (k' = k)
  | .bool, .bool _ => true
  | _, _ => false
def lkp (d : TypeDesc) (zero : AVal) (ok : Bool) (m k : AVal) : AM AVal := fun H =>
  if goodKey d k then
    match m with
    | .nilM => some (if ok then .tuple [zero, .bool false] else zero, H)
    | .map id => match H.get id with
      | some (.map es) => match findK k es with
        | some (some v) => some (if ok then .tuple [v, .bool true] else v, H)
        | some none => some (if ok then .tuple [zero, .bool false] else zero, H)
        | none => none
      | _ => none
    | _ => none
  else none
def mupd (d : TypeDesc) (m k v : AVal) : AM AVal := fun H =>
  if goodKey d k then
    match m with
    | .map id => match H.get id with
      | some (.map es) => match setK k v es with
        | some es' => some (.undef, H.set id (.map es'))
        | none => none
      | _ => none
    | _ => none
  else none
def lenM (m : AVal) : AM AVal := fun H =>
  match m with
  | .nilM => some (.int .i64 0, H)
  | .map id => match H.get id with
    | some (.map es) => some (.int .i64 es.length, H)
    | _ => none
  | _ => none
def newM (rs : Option Nat) : AM AVal := bnd (newB rs (.map [])) fun id => ret (.map id)

/-! ### One operation -/
abbrev CallTab := Nat → List AVal → AM AVal
def callV (C : CallTab) (f : AVal) (args : List AVal) : AM AVal :=
  match f with
  | .func (.func f) first captured => C f (first ++ args ++ captured)
  | _ => fail
def zero1 (i : TypeInfo) : Option AVal :=
  match i.zero with
  | some z => some (absC z)
  | none => none
def structAt (P : Program) (t : TypeId) (f : Nat) : Option Field :=
  match P.underlying t with
  | some (.struct fs) => fs[f]?
  | _ => none
def aPlaces (P : Program) : List Field → Option (List (Nat × Nat))
  | [] => some []
  | f :: r => match P.info? f.type, aPlaces P r with
    | some i, some l => some ((f.offset, i.size) :: l)
    | _, _ => none
def plc (l : List (Nat × Nat)) (i : Nat) : Option (Nat × Nat) := l[i]?
def abLen (P : Program) (t : TypeId) (x : AVal) : AM AVal :=
  match P.underlying t with
  | some .string => lenT x
  | some (.slice _) => lenA x
  | some (.array n _) => ret (.int .i64 n)
  | some (.map _ _) => lenM x
  | _ => fail
def abApp (P : Program) (t xt : TypeId) (s x : AVal) : AM AVal :=
  match P.underlying t with
  | some (.slice e) => match P.underlying xt with
    | some (.slice _) | some .string => ty P e fun i => match zcells i with
      | some zs => if zs.length = i.size then appS e i.size i.bytes s x else fail
      | none => fail
    | _ => fail
  | _ => fail
def abCopy (P : Program) (t : TypeId) (d x : AVal) : AM AVal :=
  match P.underlying t with
  | some (.slice e) => ty P e fun i => copyS i.size d x
  | _ => fail
def abuiltin (P : Program) (b : Builtin) (ts : Array TypeId) (args : List AVal) : AM AVal :=
  match b with
  | .len => match ts.toList with
    | [t] => match args with
      | [x] => abLen P t x
      | _ => fail
    | _ => fail
  | .append => match ts.toList with
    | [t, xt] => match args with
      | [s, x] => abApp P t xt s x
      | _ => fail
    | _ => fail
  | .copy => match ts.toList with
    | [t, _] => match args with
      | [d, x] => abCopy P t d x
      | _ => fail
    | _ => fail
  | .min => match args with
    | x :: r => afoldM amin2 r x
    | _ => fail
  | .max => match args with
    | x :: r => afoldM amax2 r x
    | _ => fail
  | _ => fail
def exec (P : Program) (C : CallTab) (rs : Option Nat) (env : Env) (o : Oper) : AM AVal :=
  match o.op with
  | .move x | .assign x => ret (ev env x)
  | .pick c a b => pick3 (ev env c) (ev env a) (ev env b)
  | .alloc e => ty P e fun i => match zcells i with
    | some cs => allocC rs e cs
    | none => fail
  | .box e x => boxA rs e (szOf P e) (ev env x)
  | .build t parts => ty P t fun i => match P.underlying t, zcells i with
    | some (.struct fs), some zs => match aPlaces P fs.toList with
      | some pl => bnd (afillM (plc pl) (parts.toList.map fun (i, x) => (i, ev env x)) zs) fun cs => ret (.agg cs)
      | none => fail
    | some (.array _ e), some zs => ty P e fun j => bnd (afillM (fun i => some (i * j.size, j.size)) (parts.toList.map fun (i, x) => (i, ev env x)) zs) fun cs => ret (.agg cs)
    | _, _ => fail
  | .buildSlice t len parts => match P.underlying t with
    | some (.slice e) => ty P e fun i => if len * i.size ≤ 16777216 then
        (match (if len = 0 then some [] else zcells i) with
         | some zs => if len = 0 ∨ zs.length = i.size then bnd (afillM (fun k => some (k * i.size, i.size)) (parts.toList.map fun (i, x) => (i, ev env x)) (zrep len zs)) fun cs => allocS rs e i.size len cs else fail
         | none => fail)
      else fail
    | _ => fail
  | .load t a => match aggOf P t with
    | some true => ty P t fun i => ldn i.size (ev env a)
    | some false => ld1 (ev env a)
    | none => fail
  | .store t a x => ty P t fun i => if i.size = 1 then st1 (ev env a) (ev env x) else stn i.size (ev env a) (ev env x)
  | .nilCheck x => ncheck (ev env x)
  | .binOp op t x y _ => abinT P op t (ev env x) (ev env y)
  | .unOp op _ x => aun op (ev env x)
  | .convert s d x => match P.underlying s, P.underlying d with
    | some (.int _), some (.int k) => cvInt k (ev env x)
    | some .string, some .string => cvStr (ev env x)
    | some .string, some (.slice e) => match P.underlying e with
      | some (.int .u8) => s2b rs e (ev env x)
      | _ => fail
    | some (.slice e), some .string => match P.underlying e with
      | some (.int .u8) => b2s (ev env x)
      | _ => fail
    | _, _ => fail
  | .makeInterface t _ => match P.underlying t with
    | some (.interface _) => fail
    | some _ => ret .undef
    | none => fail
  | .makeFunc fn first captured => ret (.func fn (first.toList.map (ev env)) (captured.toList.map (ev env)))
  | .makeMap t r => match r with
    | none => newM rs
    | some r => match P.underlying t, ev env r with
      | some (.map _ _), .int _ _ => newM rs
      | _, _ => fail
  | .makeSlice t l c => match P.underlying t with
    | some (.slice e) => ty P e fun i => match zcells i with
      | some zs => if zs.length = i.size then mkS rs e i.size i.bytes zs (ev env l) (ev env c) else fail
      | none => fail
    | _ => fail
  | .slice t x lo hi mx => match mx with
    | some _ => fail
    | none => match P.underlying t with
      | some (.slice e) => ty P e fun i => slS i.size (ev env x) (lo.map (ev env)) (hi.map (ev env))
      | some .string => slStr (ev env x) (lo.map (ev env)) (hi.map (ev env))
      | _ => fail
  | .fieldAddr s x f => match structAt P s f with
    | some fl => ty P fl.type fun i => if i.size = 0 then fail else fadd fl.offset (ev env x)
    | none => fail
  | .field t x f => match structAt P t f with
    | some fl => match aggOf P fl.type with
      | some true => ty P fl.type fun i => fldn fl.offset i.size (ev env x)
      | some false => fld1 fl.offset (ev env x)
      | none => fail
    | none => fail
  | .indexAddr t x ix => match P.underlying t with
    | some (.slice e) => ty P e fun i => ixa i.size (ev env x) (ev env ix)
    | some (.array n e) => ty P e fun i => ixArr n i.size (ev env x) (ev env ix)
    | _ => fail
  | .index t x ix => match P.underlying t with
    | some .string => ixStr (ev env x) (ev env ix)
    | some (.array n e) => ty P e fun i => if aggOf P e = some false ∧ i.size = 1 then ixAgg1 n (ev env x) (ev env ix) else fail
    | _ => fail
  | .lookup t m k ok => match P.underlying t with
    | some (.map kt e) => ty P e fun i => match P.underlying kt, zero1 i with
      | some d, some z => lkp d z ok (ev env m) (ev env k)
      | _, _ => fail
    | _ => fail
  | .mapUpdate t m k x => match P.underlying t with
    | some (.map kt _) => match P.underlying kt with
      | some d => mupd d (ev env m) (ev env k) (ev env x)
      | none => fail
    | _ => fail
  | .extract t i => extr i (ev env t)
  | .call c => match c.callee with
    | .value f => callV C (ev env f) (c.args.toList.map (ev env))
    | .builtin b => abuiltin P b c.argTypes (c.args.toList.map (ev env))
    | .invoke _ _ => fail
  | _ => fail

/-- The value in the temporary of operation j. -/
def yv (ops : List Oper) (env : Env) (j : Nat) : AVal :=
  match ops[j]? with
  | some o => match o.dst with
    | some d => env.getD d .undef
    | none => .undef
  | none => .undef
def execG (P : Program) (C : CallTab) (ops : List Oper) (rs : Option Nat) (env : Env) (o : Oper) : AM AVal :=
  match o.guard with
  | none => exec P C rs env o
  | some (j, want) => gd (yv ops env j) want (exec P C rs env o)

/-! ### A region in the order of the text -/
/-- A bare copy of an operand. -/
def moveOf (o : Oper) : Option Operand :=
  match o.guard with
  | some _ => none
  | none => match o.op with
    | .move x => some x
    | .assign x => some x
    | _ => none
def runOps {α : Type} (P : Program) (C : CallTab) (ops : List Oper) : List Oper → Env → (Env → AM α) → AM α
  | [], env, K => K env
  | o :: rest, env, K =>
    match moveOf o with
    | some x => runOps P C ops rest (putE env o.dst (ev env x)) K
    | none => bnd (execG P C ops none env o) fun v => runOps P C ops rest (putE env o.dst v) K

/-! ### A region that draws its order -/
inductive OpKind where | pure | read | alloc | seq
  deriving DecidableEq
def kindOf (P : Program) : Op → OpKind
  | .move _ | .assign _ | .pick _ _ _ | .build _ _ | .nilCheck _ | .binOp _ _ _ _ _ | .unOp _ _ _ | .makeInterface _ _ | .makeFunc _ _ _
  | .slice _ _ _ _ _ | .fieldAddr _ _ _ | .field _ _ _ | .indexAddr _ _ _ | .index _ _ _ | .extract _ _ => .pure
  | .load _ _ | .lookup _ _ _ _ => .read
  | .convert s d _ => match P.underlying s, P.underlying d with
    | some .string, some (.slice _) => .alloc
    | some (.slice _), some .string => .read
    | _, _ => .pure
  | .alloc _ | .box _ _ | .buildSlice _ _ _ | .makeMap _ _ | .makeSlice _ _ _ => .alloc
  | .call c => match c.callee with
    | .builtin .len => .read
    | .builtin .min | .builtin .max => .pure
    | _ => .seq
  | _ => .seq
/-- Bit i of entry j: i comes ahead of j in every order. -/
def befores (ops : List Oper) : List Nat :=
  ops.foldl (init := []) fun acc o =>
    acc ++ [o.after.foldl (fun s e => if Region.binds .any e then s ||| 2 ^ e.on ||| acc.getD e.on 0 else s) 0]
def unord (bs : List Nat) (i j : Nat) : Bool := !(bs.getD j 0).testBit i && !(bs.getD i 0).testBit j
def kindAt (P : Program) (ops : List Oper) (i : Nat) : OpKind := match ops[i]? with
  | some o => kindOf P o.op
  | none => .seq
/-- Does a snapshot ahead of i serve a read that comes later in this order? -/
def wantSnap (P : Program) (ops : List Oper) (bs : List Nat) (i : Nat) (rest : List Nat) : Bool :=
  (kindAt P ops i == .seq || kindAt P ops i == .alloc) && rest.any fun j => kindAt P ops j == .read && unord bs i j
/-- The read again, in elder heaps: it must give the same. -/
noncomputable def agn (m : AM AVal) (v : AVal) : List AHeap → AM Unit
  | [] => ret ()
  | Hs :: r => fun H => open Classical in if (m Hs).map Prod.fst = some v then agn m v r H else none
noncomputable def runDraw {α : Type} (P : Program) (C : CallTab) (ops : List Oper) (bs : List Nat) (base : Nat) : List Nat → List (Nat × AHeap) → Env → (Env → AM α) → AM α
  | [], _, env, K => K env
  | i :: rest, snaps, env, K =>
    match ops[i]? with
    | none => fail
    | some o =>
      match moveOf o with
      | some x => runDraw P C ops bs base rest snaps (putE env o.dst (ev env x)) K
      | none =>
        match kindOf P o.op with
        | .read =>
          let sn := snaps.filter fun s => unord bs s.1 i
          match sn with
          | [] => bnd (execG P C ops none env o) fun v => runDraw P C ops bs base rest snaps (putE env o.dst v) K
          | _ => bnd (execG P C ops none env o) fun v => bnd (agn (execG P C ops none env o) v (sn.map Prod.snd)) fun _ =>
              runDraw P C ops bs base rest snaps (putE env o.dst v) K
        | .alloc =>
          if wantSnap P ops bs i rest then bnd getH fun H => bnd (execG P C ops (some (base + i)) env o) fun v => runDraw P C ops bs base rest ((i, H) :: snaps) (putE env o.dst v) K
          else bnd (execG P C ops (some (base + i)) env o) fun v => runDraw P C ops bs base rest snaps (putE env o.dst v) K
        | .seq =>
          if wantSnap P ops bs i rest then bnd getH fun H => bnd (execG P C ops none env o) fun v => runDraw P C ops bs base rest ((i, H) :: snaps) (putE env o.dst v) K
          else bnd (execG P C ops none env o) fun v => runDraw P C ops bs base rest snaps (putE env o.dst v) K
        | .pure => bnd (execG P C ops none env o) fun v => runDraw P C ops bs base rest snaps (putE env o.dst v) K
/-- What is asked of a region that draws its order, and of the order in which it is run here. -/
def allowed (a b : OpKind) : Bool :=
  match a, b with
  | .pure, _ => true
  | _, .pure => true
  | .read, .read => true
  | .read, .alloc => true
  | .alloc, .alloc => true
  | .alloc, .read => true
  | .seq, .read => true
  | .seq, .alloc => true
  | _, _ => false
def opAt (ops : List Oper) (i : Nat) : Oper := ops.getD i default
def edgesOK (ops : List Oper) (bs : List Nat) (i : Nat) : Bool :=
  (opAt ops i).after.toList.all (fun e => !Region.binds .any e || (decide (e.on < i))) &&
  (List.range ops.length).all (fun b => !(bs.getD i 0).testBit b || (opAt ops i).after.toList.any fun e => Region.binds .any e && (e.on == b || (bs.getD e.on 0).testBit b)) &&
  (bs.getD i 0) < 2 ^ i
def pairOK (P : Program) (ops : List Oper) (bs : List Nat) : List Nat → Bool
  | [] => true
  | i :: r => r.all (fun j => !(bs.getD i 0).testBit j && !(i == j) && ((bs.getD j 0).testBit i || ((opAt ops i).apart ops.toArray (opAt ops j) && allowed (kindAt P ops i) (kindAt P ops j)))) && pairOK P ops bs r
def drawOK (P : Program) (ops : List Oper) (bs : List Nat) (ord : List Nat) : Bool :=
  (List.range ops.length).all (edgesOK ops bs) && (List.range ops.length).all (fun k => ord.contains k) && ord.all (fun i => decide (i < ops.length)) && pairOK P ops bs ord
def hasAlloc (P : Program) (ops : List Oper) : Bool := ops.any fun o => kindOf P o.op == .alloc

/-! ### Code -/
inductive Ex where
  | normal
  | exit (id : Nat)
  | ret
  deriving DecidableEq, Inhabited
inductive Hint where
  | leaf
  | pair (a b : Hint)
  | join (J : List Nat) (exs : List Ex) (a b : Hint)
  | loop (S J : List Nat) (exs : List Ex) (b : Hint)
  | draw (ord : List Nat)
  deriving Inhabited
def Hint.l : Hint → Hint
  | .pair a _ => a
  | _ => .leaf
def Hint.r : Hint → Hint
  | .pair _ b => b
  | _ => .leaf
def asgOps (ops : List Oper) : List Nat := ops.filterMap (·.dst)
def asg : Code → List Nat
  | .region _ ops _ => asgOps ops.toList
  | .seq a b => asg a ++ asg b
  | .cond _ a b => asg a ++ asg b
  | .block _ b => asg b
  | .loop b => asg b
  | .scope b => asg b
  | _ => []
def proj (S : List Nat) (env : Env) : List AVal := S.map fun t => env.getD t .undef
def injF (S asgd : List Nat) (s : List AVal) : Nat → Env → Env
  | _, [] => []
  | k, x :: xs => (match S.idxOf? k with
    | some j => gx s j
    | none => if asgd.contains k then .undef else x) :: injF S asgd s (k + 1) xs
abbrev rx (e : Ex) (s : List AVal) : AM (Ex × List AVal) := ret (e, s)
/-- The loop: bounded by n rounds; and without a bound. -/
def loopN (body : List AVal → AM (Ex × List AVal)) : Nat → List AVal → AM (Ex × List AVal)
  | 0, _ => fail
  | n + 1, s => bnd (body s) fun r => match r.1 with
    | .normal => loopN body n r.2
    | e => ret (e, r.2)
noncomputable def loopL (body : List AVal → AM (Ex × List AVal)) (s : List AVal) : AM (Ex × List AVal) := fun H =>
  open Classical in if h : ∃ n r, loopN body n s H = some r then some h.choose_spec.choose else none
def ife {α : Type} (x e : Ex) (A B : AM α) : AM α := if x = e then A else B
def disp {α : Type} (x : Ex) (K : Ex → AM α) : List Ex → AM α
  | [] => fail
  | e :: es => ife x e (K e) (disp x K es)

noncomputable def run {α : Type} (P : Program) (C : CallTab) : Code → Hint → Env → (Ex → Env → AM α) → AM α
  | .skip, _, env, K => K .normal env
  | .region _ ops draw, h, env, K =>
    if draw then match h with
      | .draw ord => match drawOK P ops.toList (befores ops.toList) ord with
        | true => match hasAlloc P ops.toList with
          | true => bnd (reserve ops.size) fun base => runDraw P C ops.toList (befores ops.toList) base ord [] env fun env => K .normal env
          | false => runDraw P C ops.toList (befores ops.toList) 0 ord [] env fun env => K .normal env
        | false => fail
      | _ => fail
    else runOps P C ops.toList ops.toList env fun env => K .normal env
  | .seq a b, h, env, K => run P C a h.l env fun ex env' => match ex with
    | .normal => run P C b h.r env' K
    | e => K e env'
  | .cond c a b, h, env, K =>
    match h with
    | .join J exs ha hb =>
      bnd (br (ev env c) (run P C a ha env fun ex env' => ret (ex, proj J env')) (run P C b hb env fun ex env' => ret (ex, proj J env'))) fun r =>
        disp r.1 (fun ex => K ex (injF J (asg a ++ asg b) r.2 0 env)) exs
    | h => br (ev env c) (run P C a h.l env K) (run P C b h.r env K)
  | .block i b, h, env, K => run P C b h env fun ex env' => match ex with
    | .exit j => if j = i then K .normal env' else K (.exit j) env'
    | e => K e env'
  | .loop b, h, env, K =>
    match h with
    | .loop S J exs hb =>
      bnd (loopL (fun s => run P C b hb (injF S (asg b) s 0 env) fun ex env' => match ex with
        | .normal => ret (.normal, proj S env')
        | e => ret (e, proj J env')) (proj S env)) fun r => disp r.1 (fun ex => K ex (injF J (asg b) r.2 0 env)) exs
    | _ => fail
  | .exit i, _, env, K => K (.exit i) env
  | .ret, _, env, K => K .ret env
  | _, _, _, _ => fail

def resM (P : Program) (env : Env) : List ResultVar → (List AVal → AM AVal) → AM AVal
  | [], K => K []
  | .tmp t :: r, K => resM P env r fun vs => K (env.getD t .undef :: vs)
  | .cell a t :: r, K => bnd (match aggOf P t with
      | some true => ty P t fun i => ldn i.size (env.getD a .undef)
      | some false => ld1 (env.getD a .undef)
      | none => fail) fun v => resM P env r fun vs => K (v :: vs)
def tup : List AVal → AM AVal
  | [v] => ret v
  | vs => ret (.tuple vs)
/-- A function's run. -/
noncomputable def runF (P : Program) (C : CallTab) (fn : Func) (h : Hint) (args : List AVal) : AM AVal :=
  match fn.body with
  | some c => run P C c h (args ++ List.replicate (fn.ntmps - args.length) .undef) fun ex env => match ex with
    | .normal | .ret => resM P env fn.results.toList tup
    | _ => fail
  | none => fail
def ap0 (F : AM AVal) : List AVal → AM AVal
  | [] => F
  | _ => fail
def ap1 (F : AVal → AM AVal) : List AVal → AM AVal
  | [x0] => F x0
  | _ => fail
def ap2 (F : AVal → AVal → AM AVal) : List AVal → AM AVal
  | [x0, x1] => F x0 x1
  | _ => fail
def ap3 (F : AVal → AVal → AVal → AM AVal) : List AVal → AM AVal
  | [x0, x1, x2] => F x0 x1 x2
  | _ => fail
def ap4 (F : AVal → AVal → AVal → AVal → AM AVal) : List AVal → AM AVal
  | [x0, x1, x2, x3] => F x0 x1 x2 x3
  | _ => fail
def ap5 (F : AVal → AVal → AVal → AVal → AVal → AM AVal) : List AVal → AM AVal
  | [x0, x1, x2, x3, x4] => F x0 x1 x2 x3 x4
  | _ => fail
def ap6 (F : AVal → AVal → AVal → AVal → AVal → AVal → AM AVal) : List AVal → AM AVal
  | [x0, x1, x2, x3, x4, x5] => F x0 x1 x2 x3 x4 x5
  | _ => fail
def ap7 (F : AVal → AVal → AVal → AVal → AVal → AVal → AVal → AM AVal) : List AVal → AM AVal
  | [x0, x1, x2, x3, x4, x5, x6] => F x0 x1 x2 x3 x4 x5 x6
  | _ => fail
def ap8 (F : AVal → AVal → AVal → AVal → AVal → AVal → AVal → AVal → AM AVal) : List AVal → AM AVal
  | [x0, x1, x2, x3, x4, x5, x6, x7] => F x0 x1 x2 x3 x4 x5 x6 x7
  | _ => fail
def tab : List (Nat × (List AVal → AM AVal)) → CallTab
  | [] => fun _ _ => fail
  | (f, F) :: r => fun g args => if g = f then F args else tab r g args

end Go.Am

end

section

/- The abstract machine, part B: what it means that a concrete value or world fits an abstract one; that this is kept as the world grows. -/
namespace Go.Am

abbrev PMap := Nat → Option (Nat × Nat)
def PMap.le (π π' : PMap) : Prop := ∀ id x, π id = some x → π' id = some x

def Room (w : World) (b n : Nat) : Prop := ∃ c E fr, w.heap[b]? = some (.cells c E fr) ∧ n ≤ c.size

mutual
def Rel (π : PMap) (w : World) : AVal → Value → Prop
  | .undef, _ => True
  | .bool b, v => v = .bool b
  | .int k n, v => v = .int k n
  | .str s, v => v = .string ⟨s.toArray⟩
  | .nil, v => v = .pointer none
  | .ptr id off, v => ∃ b d, π id = some (b, d) ∧ v = .pointer (some ⟨b, d + off, none⟩)
  | .nilS, v => v = .slice none 0 0
  | .slice id off len sz, v => ∃ b d o cap, π id = some (b, d) ∧ v = .slice (some ⟨b, o, none⟩) len cap ∧ len ≤ cap ∧
      (cap ≠ 0 → o = d + off ∧ Room w b (d + off + cap * sz))
  | .nilM, v => v = .map none
  | .map id, v => ∃ b d, π id = some (b, d) ∧ v = .map (some b)
  | .nilF, v => v = .nilFunc
  | .func fn fs cs, v => ∃ fs' cs', v = .func fn fs' cs' ∧ RelL π w fs fs'.toList ∧ RelL π w cs cs'.toList
  | .nilI, v => v = .nilIface
  | .agg cs, v => ∃ cs', v = .agg cs' ∧ RelL π w cs cs'.toList
  | .tuple cs, v => ∃ cs', v = .tuple cs' ∧ RelL π w cs cs'.toList
def RelL (π : PMap) (w : World) : List AVal → List Value → Prop
  | [], vs => vs = []
  | a :: as, vs => match vs with
    | [] => False
    | v :: vs => Rel π w a v ∧ RelL π w as vs
end

def WLe (w w' : World) : Prop :=
  w.heap.size ≤ w'.heap.size ∧ ∀ (b : Nat) (c : Array Value) (E : TypeId) (fr : Nat × Nat), w.heap[b]? = some (.cells c E fr) → ∃ c' fr', w'.heap[b]? = some (.cells c' E fr') ∧ c'.size = c.size
theorem WLe.refl (w : World) : WLe w w := ⟨Nat.le_refl _, fun _ c _ fr h => ⟨c, fr, h, rfl⟩⟩
theorem WLe.trans {a b c : World} (h : WLe a b) (k : WLe b c) : WLe a c :=
  ⟨Nat.le_trans h.1 k.1, fun x cc E fr hx => by
    obtain ⟨c1, f1, h1, e1⟩ := h.2 x cc E fr hx
    obtain ⟨c2, f2, h2, e2⟩ := k.2 x c1 E f1 h1
    exact ⟨c2, f2, h2, e2.trans e1⟩⟩
theorem PMap.le_refl (π : PMap) : π.le π := fun _ _ h => h
theorem PMap.le_trans {a b c : PMap} (h : a.le b) (k : b.le c) : a.le c := fun _ _ e => k _ _ (h _ _ e)
theorem Room.mono {w w' : World} {b n : Nat} (h : Room w b n) (hw : WLe w w') : Room w' b n := by
  obtain ⟨c, E, fr, hb, hn⟩ := h
  obtain ⟨c', fr', hb', e⟩ := hw.2 _ _ _ _ hb
  exact ⟨c', E, fr', hb', by omega⟩

mutual
theorem Rel.mono {π π' : PMap} {w w' : World} (hp : π.le π') (hw : WLe w w') : (a : AVal) → (v : Value) → Rel π w a v → Rel π' w' a v
  | .undef, _, _ => by simp [Rel]
  | .bool _, _, h | .int _ _, _, h | .str _, _, h | .nil, _, h | .nilS, _, h | .nilM, _, h | .nilF, _, h | .nilI, _, h => by simpa [Rel] using h
  | .ptr id off, v, h => by
    simp only [Rel] at *
    obtain ⟨b, d, h1, h2⟩ := h
    exact ⟨b, d, hp _ _ h1, h2⟩
  | .slice id off len sz, v, h => by
    simp only [Rel] at *
    obtain ⟨b, d, o, cap, h1, h2, h3, h4⟩ := h
    exact ⟨b, d, o, cap, hp _ _ h1, h2, h3, fun hc => ⟨(h4 hc).1, (h4 hc).2.mono hw⟩⟩
  | .map id, v, h => by
    simp only [Rel] at *
    obtain ⟨b, d, h1, h2⟩ := h
    exact ⟨b, d, hp _ _ h1, h2⟩
  | .func fn fs cs, v, h => by
    simp only [Rel] at *
    obtain ⟨fs', cs', h1, h2, h3⟩ := h
    exact ⟨fs', cs', h1, RelL.mono hp hw fs _ h2, RelL.mono hp hw cs _ h3⟩
  | .agg cs, v, h => by
    simp only [Rel] at *
    obtain ⟨cs', h1, h2⟩ := h
    exact ⟨cs', h1, RelL.mono hp hw cs _ h2⟩
  | .tuple cs, v, h => by
    simp only [Rel] at *
    obtain ⟨cs', h1, h2⟩ := h
    exact ⟨cs', h1, RelL.mono hp hw cs _ h2⟩
theorem RelL.mono {π π' : PMap} {w w' : World} (hp : π.le π') (hw : WLe w w') : (as : List AVal) → (vs : List Value) → RelL π w as vs → RelL π' w' as vs
  | [], vs, h => by simpa [RelL] using h
  | a :: as, [], h => by simp [RelL] at h
  | a :: as, v :: vs, h => by
    simp only [RelL] at *
    exact ⟨Rel.mono hp hw a v h.1, RelL.mono hp hw as vs h.2⟩
end

theorem RelL.nil {π : PMap} {w : World} : RelL π w [] [] := by simp [RelL]
theorem RelL.cons {π : PMap} {w : World} {a : AVal} {v : Value} {as : List AVal} {vs : List Value} (h : Rel π w a v) (hs : RelL π w as vs) : RelL π w (a :: as) (v :: vs) := by
  simp [RelL, h, hs]
theorem RelL.nil_iff {π : PMap} {w : World} {vs : List Value} : RelL π w [] vs ↔ vs = [] := by simp [RelL]
theorem RelL.cons_iff {π : PMap} {w : World} {a : AVal} {as : List AVal} {vs : List Value} : RelL π w (a :: as) vs ↔ ∃ v vs', vs = v :: vs' ∧ Rel π w a v ∧ RelL π w as vs' := by
  cases vs with
  | nil => simp [RelL]
  | cons v vs =>
    simp only [RelL]
    constructor
    · intro h; exact ⟨v, vs, rfl, h.1, h.2⟩
    · rintro ⟨v', vs', e, h1, h2⟩
      injection e with e1 e2
      subst e1; subst e2
      exact ⟨h1, h2⟩
theorem RelL.length {π : PMap} {w : World} : {as : List AVal} → {vs : List Value} → RelL π w as vs → as.length = vs.length
  | [], vs, h => by simp [RelL] at h; simp [h]
  | a :: as, [], h => by simp [RelL] at h
  | a :: as, v :: vs, h => by simp only [RelL] at h; simp [RelL.length h.2]
theorem RelL.iff_get {π : PMap} {w : World} : {as : List AVal} → {vs : List Value} → (RelL π w as vs ↔ as.length = vs.length ∧ ∀ (i : Nat) (a : AVal) (v : Value), as[i]? = some a → vs[i]? = some v → Rel π w a v)
  | [], [] => by simp [RelL]
  | [], v :: vs => by simp [RelL]
  | a :: as, [] => by simp [RelL]
  | a :: as, v :: vs => by
    simp only [RelL, RelL.iff_get (as := as) (vs := vs), List.length_cons, Nat.add_right_cancel_iff]
    constructor
    · rintro ⟨h, hl, hs⟩
      refine ⟨hl, fun i x y hx hy => ?_⟩
      cases i with
      | zero => simp at hx hy; subst hx; subst hy; exact h
      | succ i => exact hs i x y (by simpa using hx) (by simpa using hy)
    · rintro ⟨hl, hs⟩
      exact ⟨hs 0 a v rfl rfl, hl, fun i x y hx hy => hs (i + 1) x y (by simpa using hx) (by simpa using hy)⟩
theorem RelL.get {π : PMap} {w : World} {as : List AVal} {vs : List Value} (h : RelL π w as vs) {i : Nat} {a : AVal} (ha : as[i]? = some a) : ∃ v, vs[i]? = some v ∧ Rel π w a v := by
  obtain ⟨hl, hs⟩ := RelL.iff_get.1 h
  have hi : i < as.length := by
    rcases Nat.lt_or_ge i as.length with h' | h'
    · exact h'
    · simp [List.getElem?_eq_none h'] at ha
  exact ⟨vs[i]'(by omega), by simp [List.getElem?_eq_getElem (show i < vs.length by omega)], hs i a _ ha (by simp [List.getElem?_eq_getElem (show i < vs.length by omega)])⟩
theorem RelL.append {π : PMap} {w : World} : {as bs : List AVal} → {vs us : List Value} → RelL π w as vs → RelL π w bs us → RelL π w (as ++ bs) (vs ++ us)
  | [], bs, vs, us, h, k => by simp [RelL] at h; subst h; simpa using k
  | a :: as, bs, [], us, h, k => by simp [RelL] at h
  | a :: as, bs, v :: vs, us, h, k => by
    simp only [RelL] at h
    simpa [RelL, h.1] using RelL.append h.2 k
theorem RelL.take {π : PMap} {w : World} (n : Nat) {as : List AVal} {vs : List Value} (h : RelL π w as vs) : RelL π w (as.take n) (vs.take n) := by
  obtain ⟨hl, hs⟩ := RelL.iff_get.1 h
  refine RelL.iff_get.2 ⟨by simp [hl], fun i a v ha hv => ?_⟩
  rw [List.getElem?_take] at ha hv
  split at ha <;> simp_all
  exact hs i a v ha hv
theorem RelL.drop {π : PMap} {w : World} (n : Nat) {as : List AVal} {vs : List Value} (h : RelL π w as vs) : RelL π w (as.drop n) (vs.drop n) := by
  obtain ⟨hl, hs⟩ := RelL.iff_get.1 h
  refine RelL.iff_get.2 ⟨by simp [hl], fun i a v ha hv => ?_⟩
  rw [List.getElem?_drop] at ha hv
  exact hs _ a v ha hv
theorem RelL.set {π : PMap} {w : World} (n : Nat) {as : List AVal} {vs : List Value} (h : RelL π w as vs) {a : AVal} {v : Value} (hr : Rel π w a v) : RelL π w (as.set n a) (vs.set n v) := by
  obtain ⟨hl, hs⟩ := RelL.iff_get.1 h
  refine RelL.iff_get.2 ⟨by simp [hl], fun i x y hx hy => ?_⟩
  rw [List.getElem?_set] at hx hy
  split at hx
  · rename_i e; subst e
    split at hx <;> simp_all
  · rename_i e
    simp only [e, if_false] at hy
    exact hs i x y hx hy
theorem RelL.replicate {π : PMap} {w : World} (n : Nat) {a : AVal} {v : Value} (hr : Rel π w a v) : RelL π w (List.replicate n a) (List.replicate n v) := by
  refine RelL.iff_get.2 ⟨by simp, fun i x y hx hy => ?_⟩
  simp only [List.getElem?_replicate] at hx hy
  split at hx <;> simp_all

/-- An object of the abstract heap and what lies at its place. -/
def ORel (π : PMap) (w : World) (b d : Nat) : AObj → Prop
  | .cells c E fz => ∃ carr fr, (∃ E', w.heap[b]? = some (.cells carr E' fr) ∧ (fz ≤ c.length → E' = E)) ∧ d + c.length ≤ carr.size ∧
      (∀ i a, c[i]? = some a → ∃ v, carr[d + i]? = some v ∧ Rel π w a v) ∧
      (∀ i, d + fz ≤ i → i < carr.size → ¬(fr.1 ≤ i ∧ i < fr.2))
  | .map es => ∃ ces clock, w.heap[b]? = some (.map ces clock) ∧ RelL π w (es.map Prod.fst) (ces.toList.map (·.key)) ∧ RelL π w (es.map Prod.snd) (ces.toList.map (·.val))
  | .dead => True
def AObj.live : AObj → Bool
  | .dead => false
  | _ => true
structure HRel (π : PMap) (H : AHeap) (w : World) : Prop where
  obj : ∀ id o, H.get id = some o → ∃ b d, π id = some (b, d) ∧ ORel π w b d o
  inj : ∀ id id' o o' b d d', H.get id = some o → H.get id' = some o' → o.live = true → o'.live = true → π id = some (b, d) → π id' = some (b, d') → id = id'
  bnd : ∀ id, H.next ≤ id → H.get id = none
  unm : ∀ id, H.get id = none → π id = none
  dom : ∀ id b d, π id = some (b, d) → b < w.heap.size

/-- Blocks that the abstract program may write. -/
def AObj.wr : AObj → Bool
  | .cells c _ fz => decide (fz ≤ c.length)
  | .map _ => true
  | .dead => false
def Wr (H : AHeap) (π : PMap) (b : Nat) : Prop := ∃ id d o, π id = some (b, d) ∧ H.get id = some o ∧ o.wr = true

structure Ext (π : PMap) (H : AHeap) (w : World) (π' : PMap) (H' : AHeap) (w' : World) : Prop where
  pi : π.le π'
  wl : WLe w w'
  os : w'.os = w.os
  tape : w'.tape = w.tape
  output : w'.output = w.output
  fr : ∀ b : Nat, b < w.heap.size → ¬ Wr H π b → w'.heap[b]? = w.heap[b]? ∧ ¬ Wr H' π' b
theorem Ext.refl (π : PMap) (H : AHeap) (w : World) : Ext π H w π H w := ⟨PMap.le_refl _, WLe.refl _, rfl, rfl, rfl, fun _ _ h => ⟨rfl, h⟩⟩
theorem Ext.trans {π π1 π2 : PMap} {H H1 H2 : AHeap} {w w1 w2 : World} (h : Ext π H w π1 H1 w1) (k : Ext π1 H1 w1 π2 H2 w2) : Ext π H w π2 H2 w2 :=
  ⟨PMap.le_trans h.pi k.pi, h.wl.trans k.wl, k.os.trans h.os, k.tape.trans h.tape, k.output.trans h.output, fun b hb hn => by
    obtain ⟨e1, n1⟩ := h.fr b hb hn
    obtain ⟨e2, n2⟩ := k.fr b (Nat.lt_of_lt_of_le hb h.wl.1) n1
    exact ⟨e2.trans e1, n2⟩⟩
/-- A draw of the tape changes nothing of this. -/
def World.drw (w : World) : World := { w with drawn := w.drawn + 1 }
theorem WLe.drw (w : World) : WLe w (World.drw w) := ⟨Nat.le_refl _, fun _ c _ fr h => ⟨c, fr, h, rfl⟩⟩
theorem ORel.congr {π : PMap} {w w' : World} {b d : Nat} {o : AObj} (hw : WLe w w') (hb : w'.heap[b]? = w.heap[b]?) {π' : PMap} (hp : π.le π') (h : ORel π w b d o) : ORel π' w' b d o := by
  cases o with
  | cells c E fz =>
    obtain ⟨carr, fr, ⟨E', h1, hE⟩, h2, h3, h4⟩ := h
    refine ⟨carr, fr, ⟨E', hb.trans h1, hE⟩, h2, fun i a ha => ?_, h4⟩
    obtain ⟨v, hv, hr⟩ := h3 i a ha
    exact ⟨v, hv, hr.mono hp hw⟩
  | map es =>
    obtain ⟨ces, clock, h1, h2, h3⟩ := h
    exact ⟨ces, clock, hb.trans h1, h2.mono hp hw, h3.mono hp hw⟩
  | dead => trivial
theorem HRel.drw {π : PMap} {H : AHeap} {w : World} (h : HRel π H w) : HRel π H (World.drw w) :=
  ⟨fun id o ho => by
    obtain ⟨b, d, h1, h2⟩ := h.obj id o ho
    exact ⟨b, d, h1, h2.congr (WLe.drw w) rfl (PMap.le_refl _)⟩, h.inj, h.bnd, h.unm, h.dom⟩
theorem Ext.drw (π : PMap) (H : AHeap) (w : World) : Ext π H w π H (World.drw w) := ⟨PMap.le_refl _, WLe.drw w, rfl, rfl, rfl, fun _ _ h => ⟨rfl, h⟩⟩
theorem HRel.live {π : PMap} {H : AHeap} {w : World} (h : HRel π H w) {id : Nat} {o : AObj} (ho : H.get id = some o) : id < H.next := by
  rcases Nat.lt_or_ge id H.next with h' | h'
  · exact h'
  · simp [h.bnd id h'] at ho

/-! ### A new block -/
theorem push_get (w : World) (o : Obj) {b : Nat} (hb : b < w.heap.size) : (w.heap.push o)[b]? = w.heap[b]? := by
  rw [Array.getElem?_push, if_neg (by omega)]
theorem WLe.push (w : World) (o : Obj) : WLe w { w with heap := w.heap.push o } :=
  ⟨by simp, fun b c E fr h => ⟨c, fr, by
    have hb : b < w.heap.size := (Array.getElem?_eq_some_iff.1 h).1
    show (w.heap.push o)[b]? = _
    rw [push_get w o hb]; exact h, rfl⟩⟩
def PMap.put (π : PMap) (id : Nat) (x : Nat × Nat) : PMap := fun i => if i = id then some x else π i
theorem PMap.le_put {π : PMap} {id : Nat} {x : Nat × Nat} (h : π id = none) : π.le (π.put id x) := fun i y hy => by
  unfold PMap.put
  split
  · rename_i e; subst e; rw [h] at hy; cases hy
  · exact hy
/-- Allocation at an id that was not in use. -/
theorem HRel.alloc {π : PMap} {H H' : AHeap} {w : World} (h : HRel π H w) {id : Nat} {o : AObj} {co : Obj}
    (hid : H.get id = none) (hg : ∀ i, H'.get i = if i = id then some o else H.get i) (hn : H.next ≤ H'.next) (hlt : id < H'.next) {d : Nat}
    (ho : ORel (π.put id (w.heap.size, d)) { w with heap := w.heap.push co } w.heap.size d o) :
    HRel (π.put id (w.heap.size, d)) H' { w with heap := w.heap.push co } ∧ Ext π H w (π.put id (w.heap.size, d)) H' { w with heap := w.heap.push co } := by
  have hle : π.le (π.put id (w.heap.size, d)) := PMap.le_put (h.unm id hid)
  have hwl := WLe.push w co
  refine ⟨⟨fun i x hx => ?_, fun i j x y b e f hx hy lx ly px py => ?_, fun i hi => ?_, fun i hi => ?_, fun i b e hp => ?_⟩, ⟨hle, hwl, rfl, rfl, rfl, fun b hb hnw => ⟨push_get w co hb, ?_⟩⟩⟩
  · rw [hg] at hx
    by_cases e : i = id
    · subst e; simp at hx; subst hx; exact ⟨w.heap.size, d, by simp [PMap.put], ho⟩
    · simp only [e, if_false] at hx
      obtain ⟨b, f, h1, h2⟩ := h.obj i x hx
      exact ⟨b, f, hle _ _ h1, h2.congr hwl (push_get w co (h.dom _ _ _ h1)) hle⟩
  · rw [hg] at hx hy
    simp only [PMap.put] at px py
    by_cases ei : i = id
    · by_cases ej : j = id
      · rw [ei, ej]
      · simp only [ei, if_true, Option.some.injEq, Prod.mk.injEq] at px
        simp only [ej, if_false] at py
        have := h.dom _ _ _ py
        omega
    · simp only [ei, if_false] at px hx
      by_cases ej : j = id
      · simp only [ej, if_true, Option.some.injEq, Prod.mk.injEq] at py
        have := h.dom _ _ _ px
        omega
      · simp only [ej, if_false] at py hy
        exact h.inj i j x y b e f hx hy lx ly px py
  · rw [hg, if_neg (by omega)]; exact h.bnd i (by omega)
  · rw [hg] at hi
    by_cases e : i = id
    · simp [e] at hi
    · simp only [e, if_false] at hi; simp [PMap.put, e, h.unm i hi]
  · simp only [PMap.put] at hp
    by_cases e : i = id
    · simp [e] at hp; simp; omega
    · simp only [e, if_false] at hp; have := h.dom _ _ _ hp; simp; omega
  · rintro ⟨i, e, x, hp, hx, hw⟩
    simp only [PMap.put] at hp
    rw [hg] at hx
    by_cases ei : i = id
    · simp [ei] at hp; omega
    · simp only [ei, if_false] at hp hx
      exact hnw ⟨i, e, x, hp, hx, hw⟩

/-! ### A change of a live block in place -/
theorem HRel.update {π : PMap} {H H' : AHeap} {w w' : World} (h : HRel π H w) {id b d : Nat} {o o' : AObj} (ho : H.get id = some o) (hlv : o.live = true) (_hlv' : o'.live = true) (hwr : o.wr = true)
    (hp : π id = some (b, d)) (hg : ∀ i, H'.get i = if i = id then some o' else H.get i) (hn : H'.next = H.next)
    (hw : WLe w w') (hsz : w'.heap.size = w.heap.size) (hoth : ∀ k, k ≠ b → w'.heap[k]? = w.heap[k]?) (hos : w'.os = w.os) (htp : w'.tape = w.tape) (hou : w'.output = w.output)
    (hor : ORel π w' b d o') : HRel π H' w' ∧ Ext π H w π H' w' := by
  refine ⟨⟨fun i x hx => ?_, fun i j x y b' e f hx hy lx ly px py => ?_, fun i hi => ?_, fun i hi => ?_, fun i b' e hp' => ?_⟩, ⟨PMap.le_refl _, hw, hos, htp, hou, fun k hk hnw => ?_⟩⟩
  · rw [hg] at hx
    by_cases e : i = id
    · subst e; simp at hx; subst hx; exact ⟨b, d, hp, hor⟩
    · simp only [e, if_false] at hx
      obtain ⟨b', f, h1, h2⟩ := h.obj i x hx
      cases hx' : x.live with
      | false =>
        cases x with
        | dead => exact ⟨b', f, h1, trivial⟩
        | cells _ _ _ => simp [AObj.live] at hx'
        | map _ => simp [AObj.live] at hx'
      | true =>
        refine ⟨b', f, h1, h2.congr hw (hoth b' ?_) (PMap.le_refl _)⟩
        intro eb; subst eb
        exact e (h.inj i id x o b' f d hx ho hx' hlv h1 hp)
  · rw [hg] at hx hy
    by_cases ei : i = id
    · by_cases ej : j = id
      · rw [ei, ej]
      · simp only [ej, if_false] at hy
        subst ei
        exact h.inj i j o y b' e f ho hy hlv ly px py
    · simp only [ei, if_false] at hx
      by_cases ej : j = id
      · subst ej
        exact h.inj i j x o b' e f hx ho lx hlv px py
      · simp only [ej, if_false] at hy
        exact h.inj i j x y b' e f hx hy lx ly px py
  · rw [hg]
    have := h.live ho
    rw [if_neg (by omega)]; exact h.bnd i (by omega)
  · rw [hg] at hi
    by_cases e : i = id
    · simp [e] at hi
    · simp only [e, if_false] at hi; exact h.unm i hi
  · rw [hsz]; exact h.dom _ _ _ hp'
  · have hkb : k ≠ b := fun e => hnw ⟨id, d, o, by rw [e]; exact hp, ho, hwr⟩
    refine ⟨hoth k hkb, ?_⟩
    rintro ⟨i, e, x, hpi, hx, hxw⟩
    rw [hg] at hx
    by_cases ei : i = id
    · subst ei; rw [hp] at hpi; simp at hpi; exact hkb hpi.1.symm
    · simp only [ei, if_false] at hx
      exact hnw ⟨i, e, x, hpi, hx, hxw⟩

/-! ### Temporaries -/
structure ERel (π : PMap) (w : World) (env : Env) (a : Act) : Prop where
  len : env.length ≤ a.tmps.size
  val : ∀ t, Rel π w (env.getD t .undef) (a.tmps.getD t Go.undef)
  dfr : a.defers = []
theorem ERel.mono {π π' : PMap} {w w' : World} {env : Env} {a : Act} (h : ERel π w env a) (hp : π.le π') (hw : WLe w w') : ERel π' w' env a :=
  ⟨h.len, fun t => (h.val t).mono hp hw, h.dfr⟩
theorem ERel.put {π : PMap} {w : World} {env : Env} {a : Act} (h : ERel π w env a) {dst : Option Tmp} {x : AVal} {v : Value} (hr : Rel π w x v) : ERel π w (putE env dst x) (a.put dst v) := by
  cases dst with
  | none => exact h
  | some d =>
    refine ⟨by simpa [putE, Act.put] using h.len, fun t => ?_, h.dfr⟩
    have hv := h.val t
    simp only [putE, Act.put]
    by_cases e : d = t
    · subst e
      by_cases hd : d < env.length
      · have hd' : d < a.tmps.size := Nat.lt_of_lt_of_le hd h.len
        simpa [List.getD, hd, hd'] using hr
      · simp [List.getD, Rel, Nat.le_of_not_lt hd]
    · simpa [List.getD, List.getElem?_set_ne e, Array.getElem?_setIfInBounds_ne e] using hv

theorem rel_absC1 (π : PMap) (w : World) (v : Value) : Rel π w (absC1 v) v := by
  unfold absC1
  split <;> simp [Rel]
  all_goals first
    | rfl
    | exact ⟨⟨[]⟩, rfl, by simp [RelL], ⟨[]⟩, rfl, by simp [RelL]⟩
    | simp [RelL]
theorem relL_absC1 (π : PMap) (w : World) : (vs : List Value) → RelL π w (vs.map absC1) vs
  | [] => by simp [RelL]
  | v :: vs => by simp only [List.map_cons, RelL]; exact ⟨rel_absC1 π w v, relL_absC1 π w vs⟩
theorem rel_absC (π : PMap) (w : World) (v : Value) : Rel π w (absC v) v := by
  unfold absC
  split
  · simp only [Rel]; exact ⟨_, rfl, relL_absC1 π w _⟩
  · exact rel_absC1 π w _
/-- What an operand is. (A package-level variable: nothing is known here.) -/
theorem rel_ev {π : PMap} {w : World} {env : Env} {a : Act} (h : ERel π w env a) (x : Operand) : Rel π w (ev env x) (a.eval x) := by
  cases x with
  | tmp t => exact h.val t
  | const v => exact rel_absC π w v
  | global g => simp only [ev, Rel]
  | func f => simp only [ev, Act.eval, Rel]; exact ⟨#[], #[], rfl, by simp [RelL], by simp [RelL]⟩

end Go.Am

end

section
set_option linter.unusedSimpArgs false
set_option linter.unusedVariables false
/- The abstract machine, part C: each operation of the model does, on related worlds, what the abstract one does. -/
namespace Go.Am
section
variable {P : Program}

theorem bnd_some {α β : Type} {m : AM α} {f : α → AM β} {H : AHeap} {r : β × AHeap} : bnd m f H = some r ↔ ∃ a H1, m H = some (a, H1) ∧ f a H1 = some r := by
  unfold bnd
  cases h : m H with
  | none => simp
  | some x =>
    obtain ⟨a, H1⟩ := x
    constructor
    · intro e; exact ⟨a, H1, rfl, e⟩
    · rintro ⟨a', H1', e, e'⟩
      cases e; exact e'
theorem ret_some {α : Type} {a b : α} {H H' : AHeap} : ret a H = some (b, H') ↔ a = b ∧ H = H' := by simp [ret]
theorem fail_some {α : Type} {H : AHeap} {r : α × AHeap} : (fail : AM α) H = some r ↔ False := by simp [fail]
theorem ty_some {α : Type} {t : TypeId} {k : TypeInfo → AM α} {H : AHeap} {r : α × AHeap} : ty P t k H = some r ↔ ∃ i, P.info? t = some i ∧ k i H = some r := by
  unfold ty
  cases h : P.info? t <;> simp [fail]

theorem run_info {t : TypeId} {i : TypeInfo} (h : P.info? t = some i) (w : World) : (typeInfo t).run P w = .ok i w := by
  simp [typeInfo, h]
theorem run_size {t : TypeId} {i : TypeInfo} (h : P.info? t = some i) (w : World) : (sizeOf t).run P w = .ok i.size w := by
  simp [sizeOf, run_info h]
theorem run_agg {t : TypeId} {b : Bool} (h : aggOf P t = some b) (w : World) : (isAgg t).run P w = .ok b w := by
  unfold aggOf at h
  split at h
  · rename_i d hd; cases h; simp [isAgg, run_underlying hd]
  · rename_i d n hd; cases h; simp [isAgg, run_underlying hd]
  · rename_i d h1 h2 hd
    cases h
    simp only [isAgg, Sem.run_bind, run_underlying hd, Result.andThen_ok]
    cases d <;> simp_all
  · cases h

/-! ### Values alone -/
def PureS (m : AM AVal) (s : Sem Value) (P : Program) (π : PMap) (w : World) : Prop :=
  ∀ H r H', m H = some (r, H') → H' = H ∧ ∃ v, s.run P w = .ok v w ∧ Rel π w r v
theorem pureS_ret {x : AVal} {v : Value} {π : PMap} {w : World} (h : Rel π w x v) : PureS (ret x) (pure v) P π w := fun H r H' hr => by
  obtain ⟨rfl, rfl⟩ := ret_some.1 hr
  exact ⟨rfl, v, by simp, h⟩
theorem pureS_fail {s : Sem Value} {π : PMap} {w : World} : PureS fail s P π w := fun H r H' hr => by simp [fail] at hr

theorem pick3_s {π : PMap} {w : World} {c a b : AVal} {cc ca cb : Value} (hc : Rel π w c cc) (ha : Rel π w a ca) (hb : Rel π w b cb) :
    PureS (pick3 c a b) (do pure (if ← asBool cc then ca else cb)) P π w := by
  intro H r H' hr
  cases c <;> simp only [pick3, fail_some] at hr
  rename_i t
  simp only [Rel] at hc
  subst hc
  cases t <;> simp only [ret_some] at hr <;> obtain ⟨rfl, rfl⟩ := hr
  · exact ⟨rfl, cb, by simp [asBool], hb⟩
  · exact ⟨rfl, ca, by simp [asBool], ha⟩

theorem abin_s {π : PMap} {w : World} (op : BinOp) (t : TypeId) (xo yo : Operand) {x y : AVal} {cx cy : Value} (hx : Rel π w x cx) (hy : Rel π w y cy) :
    PureS (abin op x y) (do eqGuard op t xo yo cx cy; Go.binOp op t cx cy) P π w := by
  intro H r H' hr
  cases x <;> cases y <;> try (cases op <;> simp [abin, fail] at hr; done)
  · rename_i k a k' b
    simp only [Rel] at hx hy
    subst hx; subst hy
    have hg : ∀ w, (eqGuard op t xo yo (.int k a) (.int k' b)).run P w = .ok () w := fun w => by
      cases op <;> simp [eqGuard]
    simp only [Sem.run_bind, hg, Result.andThen_ok]
    cases op
    case shl =>
      simp only [abin] at hr
      split at hr
      · simp [fail] at hr
      · rename_i hb
        simp only [wr, ret_some] at hr
        obtain ⟨rfl, rfl⟩ := hr
        exact ⟨rfl, _, by simp [Go.binOp, Op.shift, hb], rfl⟩
    case shr =>
      simp only [abin] at hr
      split at hr
      · simp [fail] at hr
      · rename_i hb
        simp only [ret_some] at hr
        obtain ⟨rfl, rfl⟩ := hr
        exact ⟨rfl, _, by simp [Go.binOp, Op.shift, hb], rfl⟩
    case quo =>
      simp only [abin] at hr
      split at hr
      · simp [fail] at hr
      · rename_i hk
        split at hr
        · simp [fail] at hr
        · rename_i hb
          simp only [wr, ret_some] at hr
          obtain ⟨rfl, rfl⟩ := hr
          exact ⟨rfl, _, by simp [Go.binOp, hk, Op.intDiv, hb], rfl⟩
    case rem =>
      simp only [abin] at hr
      split at hr
      · simp [fail] at hr
      · rename_i hk
        split at hr
        · simp [fail] at hr
        · rename_i hb
          simp only [ret_some] at hr
          obtain ⟨rfl, rfl⟩ := hr
          exact ⟨rfl, _, by simp [Go.binOp, hk, Op.intDiv, hb], rfl⟩
    all_goals
      simp only [abin] at hr
      split at hr
      · simp [fail] at hr
      · rename_i hk
        simp only [wr, ibits, ret_some] at hr
        obtain ⟨rfl, rfl⟩ := hr
        exact ⟨rfl, _, by simp [Go.binOp, hk, Op.intArith, Op.intBits, Op.intCmp], rfl⟩
  · rename_i a b
    simp only [Rel] at hx hy
    subst hx; subst hy
    have hg : ∀ w, (eqGuard op t xo yo (.string ⟨a.toArray⟩) (.string ⟨b.toArray⟩)).run P w = .ok () w := fun w => by
      cases op <;> simp [eqGuard]
    simp only [Sem.run_bind, hg, Result.andThen_ok]
    cases op
    case add =>
      simp only [abin] at hr
      split at hr
      · rename_i hl
        simp only [ret_some] at hr
        obtain ⟨rfl, rfl⟩ := hr
        have hs : ¬ (((ByteArray.mk a.toArray).size + (ByteArray.mk b.toArray).size : Nat) : Int) > IntKind.i64.max := by
          have e1 : (ByteArray.mk a.toArray).size = a.length := by simp [ByteArray.size]
          have e2 : (ByteArray.mk b.toArray).size = b.length := by simp [ByteArray.size]
          rw [e1, e2]
          have : IntKind.i64.max = 9223372036854775807 := by decide
          rw [this]
          unfold maxStr at hl
          omega
        refine ⟨rfl, _, ?_, rfl⟩
        simp only [Go.binOp, Op.stringOp, hs, if_false, Sem.run_pure]
        rw [ByteArray.mk_append_mk]
      · simp [fail] at hr
    all_goals
      simp only [abin, ret_some, fail_some] at hr
      try
        obtain ⟨rfl, rfl⟩ := hr
        exact ⟨rfl, _, by simp [Go.binOp, Op.stringOp, ByteArray.toList_mk], rfl⟩


theorem equal_run {π : PMap} {w : World} {t : TypeId} {d : TypeDesc} (hd : P.underlying t = some d) {x y : AVal} {b : Bool} (h : aeqT d x y = some b) {cx cy : Value} (hx : Rel π w x cx) (hy : Rel π w y cy) :
    (Op.equal t cx cy).run P w = .ok b w := by
  have e : ∀ cx cy, Op.equal t cx cy = Op.equalIn (9999 + 1) t cx cy := fun _ _ => rfl
  rw [e]
  generalize 9999 = n
  unfold aeqT at h
  split at h <;> cases h <;> simp only [Rel] at hx hy
  · subst hx; subst hy; simp [Op.equalIn, run_underlying hd]
  · subst hx; subst hy; simp [Op.equalIn, run_underlying hd]
  · obtain ⟨b1, d1, hp, rfl⟩ := hy; subst hx; simp [Op.equalIn, run_underlying hd]
  · obtain ⟨b1, d1, hp, rfl⟩ := hx; subst hy; simp [Op.equalIn, run_underlying hd]
  · subst hx; subst hy; simp [Op.equalIn, run_underlying hd]
  · obtain ⟨b1, d1, o, cap, hp, rfl, _⟩ := hy; subst hx; simp [Op.equalIn, run_underlying hd]
  · obtain ⟨b1, d1, o, cap, hp, rfl, _⟩ := hx; subst hy; simp [Op.equalIn, run_underlying hd]
  · subst hx; subst hy; simp [Op.equalIn, run_underlying hd]
  · obtain ⟨b1, d1, hp, rfl⟩ := hy; subst hx; simp [Op.equalIn, run_underlying hd]
  · obtain ⟨b1, d1, hp, rfl⟩ := hx; subst hy; simp [Op.equalIn, run_underlying hd]
  · subst hx; subst hy; simp [Op.equalIn, run_underlying hd]
  · obtain ⟨fs, cs, rfl, _⟩ := hy; subst hx; simp [Op.equalIn, run_underlying hd]
  · obtain ⟨fs, cs, rfl, _⟩ := hx; subst hy; simp [Op.equalIn, run_underlying hd]

theorem aeq_s {π : PMap} {w : World} {t : TypeId} {d : TypeDesc} (hd : P.underlying t = some d) (neg : Bool) (xo yo : Operand) {x y : AVal} {cx cy : Value} (hx : Rel π w x cx) (hy : Rel π w y cy) :
    PureS (aeq d neg x y) (do eqGuard (if neg then .neq else .eql) t xo yo cx cy; Go.binOp (if neg then .neq else .eql) t cx cy) P π w := by
  intro H r H' hr
  unfold aeq at hr
  cases hb : aeqT d x y with
  | none => simp [hb, fail] at hr
  | some b =>
    rw [hb] at hr
    simp only [ret_some] at hr
    obtain ⟨rfl, rfl⟩ := hr
    have he := equal_run hd hb hx hy
    refine ⟨rfl, .bool (if neg then !b else b), ?_, rfl⟩
    have hg : ∀ op, (eqGuard op t xo yo cx cy).run P w = .ok () w := by
      intro op
      unfold aeqT at hb
      split at hb <;> cases hb <;> simp only [Rel] at hx hy
      all_goals first
        | (subst hx; subst hy; cases op <;> simp [eqGuard])
        | (obtain ⟨b1, d1, hp, rfl⟩ := hy; subst hx; cases op <;> simp [eqGuard])
        | (obtain ⟨b1, d1, hp, rfl⟩ := hx; subst hy; cases op <;> simp [eqGuard])
        | (obtain ⟨b1, d1, o, cap, hp, rfl, _⟩ := hy; subst hx; cases op <;> simp [eqGuard])
        | (obtain ⟨b1, d1, o, cap, hp, rfl, _⟩ := hx; subst hy; cases op <;> simp [eqGuard])
        | (obtain ⟨fs, cs, rfl, _⟩ := hy; subst hx; cases op <;> simp [eqGuard])
        | (obtain ⟨fs, cs, rfl, _⟩ := hx; subst hy; cases op <;> simp [eqGuard])
    have hbin : ∀ op, op = .eql ∨ op = .neq → (Go.binOp op t cx cy).run P w = .ok (.bool (if op = .neq then !b else b)) w := by
      intro op hop
      unfold aeqT at hb
      split at hb <;> cases hb <;> simp only [Rel] at hx hy
      all_goals rcases hop with rfl | rfl
      all_goals first
        | (subst hx; subst hy; simp [Go.binOp, he])
        | (obtain ⟨b1, d1, hp, rfl⟩ := hy; subst hx; simp [Go.binOp, he])
        | (obtain ⟨b1, d1, hp, rfl⟩ := hx; subst hy; simp [Go.binOp, he])
        | (obtain ⟨b1, d1, o, cap, hp, rfl, _⟩ := hy; subst hx; simp [Go.binOp, he])
        | (obtain ⟨b1, d1, o, cap, hp, rfl, _⟩ := hx; subst hy; simp [Go.binOp, he])
        | (obtain ⟨fs, cs, rfl, _⟩ := hy; subst hx; simp [Go.binOp, he])
        | (obtain ⟨fs, cs, rfl, _⟩ := hx; subst hy; simp [Go.binOp, he])
    simp only [Sem.run_bind, hg, Result.andThen_ok]
    cases neg
    · simpa using hbin .eql (.inl rfl)
    · simpa using hbin .neq (.inr rfl)

theorem abinT_s {π : PMap} {w : World} (op : BinOp) (t : TypeId) (xo yo : Operand) {x y : AVal} {cx cy : Value} (hx : Rel π w x cx) (hy : Rel π w y cy) :
    PureS (abinT P op t x y) (do eqGuard op t xo yo cx cy; Go.binOp op t cx cy) P π w := by
  unfold abinT
  split
  · exact abin_s op t xo yo hx hy
  · exact abin_s op t xo yo hx hy
  · rename_i d _ _ hd
    split
    · exact aeq_s hd false xo yo hx hy
    · exact aeq_s hd true xo yo hx hy
    · exact pureS_fail
  · exact pureS_fail

theorem aun_s {π : PMap} {w : World} (op : UnOp) {x : AVal} {cx : Value} (hx : Rel π w x cx) : PureS (aun op x) (Op.unary op cx) P π w := by
  intro H r H' hr
  unfold aun at hr
  split at hr <;> simp only [wr, ibits, ret_some, fail_some] at hr
  · obtain ⟨rfl, rfl⟩ := hr
    simp only [Rel] at hx; subst hx
    exact ⟨rfl, _, by simp [Op.unary, Op.intArith], rfl⟩
  · obtain ⟨rfl, rfl⟩ := hr
    simp only [Rel] at hx; subst hx
    exact ⟨rfl, _, by simp [Op.unary, Op.intBits], rfl⟩
  · obtain ⟨rfl, rfl⟩ := hr
    simp only [Rel] at hx; subst hx
    exact ⟨rfl, _, by simp [Op.unary], rfl⟩

theorem ncheck_s {π : PMap} {w : World} {x : AVal} {cx : Value} (hx : Rel π w x cx) {H H' : AHeap} {r : AVal} (hr : ncheck x H = some (r, H')) :
    H' = H ∧ Rel π w r cx ∧ ((∃ a, cx = .pointer (some a)) ∨ ∃ f a b, cx = .func (.func f) a b) := by
  unfold ncheck at hr
  split at hr <;> simp only [ret_some, fail_some] at hr
  · obtain ⟨rfl, rfl⟩ := hr
    refine ⟨rfl, hx, .inl ?_⟩
    simp only [Rel] at hx
    obtain ⟨b, d, _, rfl⟩ := hx
    exact ⟨_, rfl⟩
  · obtain ⟨rfl, rfl⟩ := hr
    refine ⟨rfl, hx, .inr ?_⟩
    simp only [Rel] at hx
    obtain ⟨b, d, rfl, _⟩ := hx
    exact ⟨_, _, _, rfl⟩

theorem bsz (s : List UInt8) : (ByteArray.mk s.toArray).size = s.length := by simp [ByteArray.size]
theorem lenT_s {π : PMap} {w : World} {t ty : TypeId} (ht : P.underlying t = some .string) {x : AVal} {cx : Value} (hx : Rel π w x cx) : PureS (lenT x) (Builtin.len_ #[t] ty #[cx]) P π w := by
  intro H r H' hr
  cases x <;> simp only [lenT, ret_some, fail_some] at hr
  rename_i s
  obtain ⟨rfl, rfl⟩ := hr
  simp only [Rel] at hx; subst hx
  exact ⟨rfl, goInt (ByteArray.mk s.toArray).size, by simp [Builtin.len_, run_underlying ht], by rw [bsz]; rfl⟩
theorem lenA_s {π : PMap} {w : World} {t ty e : TypeId} (ht : P.underlying t = some (.slice e)) {x : AVal} {cx : Value} (hx : Rel π w x cx) : PureS (lenA x) (Builtin.len_ #[t] ty #[cx]) P π w := by
  intro H r H' hr
  cases x <;> simp only [lenA, ret_some, fail_some] at hr
  · obtain ⟨rfl, rfl⟩ := hr
    simp only [Rel] at hx; subst hx
    exact ⟨rfl, _, by simp [Builtin.len_, run_underlying ht, goInt], rfl⟩
  · obtain ⟨rfl, rfl⟩ := hr
    simp only [Rel] at hx
    obtain ⟨b, d, o, cap, _, rfl, _⟩ := hx
    exact ⟨rfl, _, by simp [Builtin.len_, run_underlying ht, goInt], rfl⟩

theorem addr_add (b o n : Nat) : (⟨b, o, none⟩ : Addr).add n = ⟨b, o + n, none⟩ := by
  unfold Addr.add; split <;> simp_all

theorem extr_s {π : PMap} {w : World} {i : Nat} {x : AVal} {cx : Value} (hx : Rel π w x cx) : PureS (extr i x) (Instr.extract cx i) P π w := by
  intro H r H' hr
  cases x <;> simp only [extr, fail_some] at hr
  rename_i cs
  cases hv : cs[i]? with
  | none => simp [hv, fail] at hr
  | some v =>
    simp only [hv, ret_some] at hr
    obtain ⟨rfl, rfl⟩ := hr
    simp only [Rel] at hx
    obtain ⟨cs', rfl, hl⟩ := hx
    obtain ⟨u, hu, hr⟩ := hl.get hv
    exact ⟨rfl, u, by simp [Instr.extract] at hu ⊢; simp [hu], hr⟩

theorem fieldAt_s {π : PMap} {w : World} {s : TypeId} {f : Nat} {fl : Field} (hs : structAt P s f = some fl) {i : TypeInfo} (hi : P.info? fl.type = some i) (hz : i.size ≠ 0) {x : AVal} {cx : Value} (hx : Rel π w x cx) :
    PureS (fadd fl.offset x) (Instr.fieldAt s cx f) P π w := by
  intro H r H' hr
  cases x <;> simp only [fadd, ret_some, fail_some] at hr
  rename_i id off
  obtain ⟨rfl, rfl⟩ := hr
  simp only [Rel] at hx
  obtain ⟨b, d, hp, rfl⟩ := hx
  unfold structAt at hs
  split at hs
  · rename_i fs hfs
    refine ⟨rfl, .pointer (some ⟨b, d + (off + fl.offset), none⟩), ?_, ⟨b, d, hp, rfl⟩⟩
    simp [Instr.fieldAt, run_underlying hfs, hs, Instr.sureAddr, fieldPlace, run_size hi, hz, addr_add, Nat.add_assoc]
  · cases hs

theorem field_s {π : PMap} {w : World} {s : TypeId} {f : Nat} {fl : Field} (hs : structAt P s f = some fl) (ha : aggOf P fl.type = some false) {x : AVal} {cx : Value} (hx : Rel π w x cx) :
    PureS (fld1 fl.offset x) (Instr.field s cx f) P π w := by
  intro H r H' hr
  cases x <;> simp only [fld1, fail_some] at hr
  rename_i cs
  cases hv : cs[fl.offset]? with
  | none => simp [hv, fail] at hr
  | some v =>
    simp only [hv, ret_some] at hr
    obtain ⟨rfl, rfl⟩ := hr
    simp only [Rel] at hx
    obtain ⟨cs', rfl, hl⟩ := hx
    obtain ⟨u, hu, hr⟩ := hl.get hv
    unfold structAt at hs
    split at hs
    · rename_i fs hfs
      exact ⟨rfl, u, by simp [Instr.field, run_underlying hfs, hs, asAgg, part, run_agg ha] at hu ⊢; simp [hu], hr⟩
    · cases hs
theorem fieldn_s {π : PMap} {w : World} {s : TypeId} {f : Nat} {fl : Field} (hs : structAt P s f = some fl) (ha : aggOf P fl.type = some true) {i : TypeInfo} (hi : P.info? fl.type = some i) {x : AVal} {cx : Value} (hx : Rel π w x cx) :
    PureS (fldn fl.offset i.size x) (Instr.field s cx f) P π w := by
  intro H r H' hr
  cases x <;> simp only [fldn, fail_some] at hr
  rename_i cs
  split at hr
  · obtain ⟨rfl, rfl⟩ := ret_some.1 hr
    simp only [Rel] at hx
    obtain ⟨cs', rfl, hl⟩ := hx
    unfold structAt at hs
    split at hs
    · rename_i fs hfs
      refine ⟨rfl, .agg (cs'.extract fl.offset (fl.offset + i.size)), by simp [Instr.field, run_underlying hfs, hs, asAgg, part, run_agg ha, run_size hi], ?_⟩
      refine ⟨_, rfl, ?_⟩
      have := (hl.drop fl.offset).take i.size
      simpa [Array.toList_extract, List.extract_eq_take_drop] using this
    · cases hs
  · simp [fail] at hr

theorem ixa_s {π : PMap} {w : World} {t e : TypeId} (ht : P.underlying t = some (.slice e)) {i : TypeInfo} (hi : P.info? e = some i) {x ix : AVal} {cx cix : Value} (hx : Rel π w x cx) (hix : Rel π w ix cix) :
    PureS (ixa i.size x ix) (Instr.indexAt t cx cix) P π w := by
  intro H r H' hr
  cases x <;> try (simp [ixa, fail] at hr; done)
  cases ix <;> try (simp [ixa, fail] at hr; done)
  rename_i id off len sz k n
  simp only [ixa] at hr
  split at hr
  · rename_i h
    obtain ⟨rfl, rfl⟩ := ret_some.1 hr
    simp only [Rel] at hx hix
    obtain ⟨b, d, o, cap, hp, rfl, hle, hcap⟩ := hx
    subst hix
    obtain ⟨h1, h2, h3⟩ := h
    have hc : cap ≠ 0 := by omega
    obtain ⟨rfl, _⟩ := hcap hc
    refine ⟨rfl, .pointer (some ⟨b, d + (off + n.toNat * i.size), none⟩), ?_, ⟨b, d, hp, rfl⟩⟩
    have hb : (0 ≤ n ∧ n < (len : Int)) := ⟨h1, h2⟩
    simp [Instr.indexAt, run_underlying ht, asIntOf, hb, run_size hi, addr_add, Nat.add_assoc]
  · simp [fail] at hr
theorem ixArr_s {π : PMap} {w : World} {t e : TypeId} {n : Nat} (ht : P.underlying t = some (.array n e)) {i : TypeInfo} (hi : P.info? e = some i) {x ix : AVal} {cx cix : Value} (hx : Rel π w x cx) (hix : Rel π w ix cix) :
    PureS (ixArr n i.size x ix) (Instr.indexAt t cx cix) P π w := by
  intro H r H' hr
  cases x <;> try (simp [ixArr, fail] at hr; done)
  cases ix <;> try (simp [ixArr, fail] at hr; done)
  rename_i id off k j
  simp only [ixArr] at hr
  split at hr
  · rename_i h
    obtain ⟨rfl, rfl⟩ := ret_some.1 hr
    simp only [Rel] at hx hix
    obtain ⟨b, d, hp, rfl⟩ := hx
    subst hix
    refine ⟨rfl, .pointer (some ⟨b, d + (off + j.toNat * i.size), none⟩), ?_, ⟨b, d, hp, rfl⟩⟩
    simp [Instr.indexAt, run_underlying ht, asIntOf, h, run_size hi, addr_add, Nat.add_assoc, Instr.sureAddr]
  · simp [fail] at hr
theorem ixStr_s {π : PMap} {w : World} {t : TypeId} (ht : P.underlying t = some .string) {x ix : AVal} {cx cix : Value} (hx : Rel π w x cx) (hix : Rel π w ix cix) :
    PureS (ixStr x ix) (Instr.index t cx cix) P π w := by
  intro H r H' hr
  cases x <;> try (simp [ixStr, fail] at hr; done)
  cases ix <;> try (simp [ixStr, fail] at hr; done)
  rename_i s k n
  simp only [ixStr] at hr
  split at hr
  · rename_i h
    cases hb : s[n.toNat]? with
    | none => simp [hb, fail] at hr
    | some b =>
      simp only [hb, ret_some] at hr
      obtain ⟨rfl, rfl⟩ := hr
      simp only [Rel] at hx hix
      subst hx; subst hix
      refine ⟨rfl, .int .u8 b.toNat, ?_, rfl⟩
      have hsz : n.toNat < s.length := by
        rcases Nat.lt_or_ge n.toNat s.length with h' | h'
        · exact h'
        · simp [List.getElem?_eq_none h'] at hb
      have e : (ByteArray.mk s.toArray)[n.toNat]? = some b := by
        rw [getElem?_pos _ _ (by rw [bsz]; exact hsz)]
        rw [List.getElem?_eq_getElem hsz] at hb
        simpa [ByteArray.getElem_eq_getElem_data] using hb
      simp [Instr.index, asIntOf, run_underlying ht, h, e]
  · simp [fail] at hr
theorem ixAgg1_s {π : PMap} {w : World} {t e : TypeId} {n : Nat} (ht : P.underlying t = some (.array n e)) {i : TypeInfo} (hi : P.info? e = some i) (ha : aggOf P e = some false) (hz : i.size = 1) {x ix : AVal} {cx cix : Value} (hx : Rel π w x cx) (hix : Rel π w ix cix) :
    PureS (ixAgg1 n x ix) (Instr.index t cx cix) P π w := by
  intro H r H' hr
  cases x <;> try (simp [ixAgg1, fail] at hr; done)
  cases ix <;> try (simp [ixAgg1, fail] at hr; done)
  rename_i cs k j
  simp only [ixAgg1] at hr
  split at hr
  · rename_i h
    cases hv : cs[j.toNat]? with
    | none => simp [hv, fail] at hr
    | some v =>
      simp only [hv, ret_some] at hr
      obtain ⟨rfl, rfl⟩ := hr
      simp only [Rel] at hx hix
      obtain ⟨cs', rfl, hl⟩ := hx
      subst hix
      obtain ⟨u, hu, hr⟩ := hl.get hv
      exact ⟨rfl, u, by simp [Instr.index, asIntOf, run_underlying ht, h, run_size hi, part, run_agg ha, hz] at hu ⊢; simp [hu], hr⟩
  · simp [fail] at hr

end
end Go.Am

end

section
set_option linter.unusedSimpArgs false
set_option linter.unusedVariables false
/- The abstract machine, part D: operations on strings and slices as values, loads, lookups. -/
namespace Go.Am
section
variable {P : Program}

theorem cvInt_s {π : PMap} {w : World} {s d : TypeId} {j k : IntKind} (hs : P.underlying s = some (.int j)) (hd : P.underlying d = some (.int k)) {x : AVal} {cx : Value} (hx : Rel π w x cx) :
    PureS (cvInt k x) (Go.convert s d cx) P π w := by
  intro H r H' hr
  cases x <;> simp only [cvInt, wr, ret_some, fail_some] at hr
  obtain ⟨rfl, rfl⟩ := hr
  simp only [Rel] at hx; subst hx
  exact ⟨rfl, _, by simp [Go.convert, run_underlying hs, run_underlying hd, Conv.intToInt], rfl⟩
theorem cvStr_s {π : PMap} {w : World} {s d : TypeId} (hs : P.underlying s = some .string) (hd : P.underlying d = some .string) {x : AVal} {cx : Value} (hx : Rel π w x cx) :
    PureS (cvStr x) (Go.convert s d cx) P π w := by
  intro H r H' hr
  cases x <;> simp only [cvStr, ret_some, fail_some] at hr
  obtain ⟨rfl, rfl⟩ := hr
  have hx' := hx
  simp only [Rel] at hx; subst hx
  exact ⟨rfl, _, by simp [Go.convert, run_underlying hs, run_underlying hd], hx'⟩

def OptRel (π : PMap) (w : World) : Option AVal → Option Value → Prop
  | none, none => True
  | some a, some v => Rel π w a v
  | _, _ => False
theorem bndOf_run {π : PMap} {w : World} {d m : Nat} {o : Option AVal} {co : Option Value} (ho : OptRel π w o co) {r : Nat} (hr : bndOf d m o = some r) :
    (o = none ∧ co = none ∧ r = d) ∨ (∃ v, co = some v ∧ r ≤ m ∧ ∀ cap code, m ≤ cap → (Instr.sliceBound v cap code).run P w = .ok r w) := by
  cases o with
  | none =>
    cases co with
    | none => simp [bndOf] at hr; exact .inl ⟨rfl, rfl, hr.symm⟩
    | some v => exact ho.elim
  | some a =>
    cases co with
    | none => exact ho.elim
    | some v =>
      right
      refine ⟨v, rfl, ?_⟩
      cases a <;> try (simp [bndOf] at hr; done)
      rename_i k n
      simp only [OptRel, Rel] at ho
      subst ho
      simp only [bndOf] at hr
      split at hr
      · rename_i hc
        cases hr
        refine ⟨by omega, fun cap code hm => ?_⟩
        have : 0 ≤ n ∧ n ≤ (cap : Int) := by omega
        simp [Instr.sliceBound, asIntOf, this]
      · cases hr
/-- Bounds of a slice expression. -/
theorem bnds_run {π : PMap} {w : World} {isS : Bool} {len cap : Nat} (hlc : len ≤ cap) {lo hi : Option AVal} {clo chi : Option Value}
    (hlo : OptRel π w lo clo) (hhi : OptRel π w hi chi) {l h : Nat} (hb : bnds len lo hi = some (l, h)) :
    (Instr.sliceBounds isS len cap clo chi none).run P w = .ok (l, h, cap) w ∧ l ≤ h ∧ h ≤ len := by
  unfold bnds at hb
  cases h1 : bndOf len len hi with
  | none => simp [h1] at hb
  | some h' =>
    simp only [h1] at hb
    cases h2 : bndOf 0 h' lo with
    | none => simp [h2] at hb
    | some l' =>
      simp only [h2, Option.some.injEq, Prod.mk.injEq] at hb
      obtain ⟨rfl, rfl⟩ := hb
      rcases bndOf_run (P := P) hhi h1 with ⟨rfl, rfl, rfl⟩ | ⟨v, rfl, hle, hr⟩ <;> rcases bndOf_run (P := P) hlo h2 with ⟨rfl, rfl, rfl⟩ | ⟨u, rfl, hle', hr'⟩
      · exact ⟨by simp [Instr.sliceBounds], Nat.zero_le _, Nat.le_refl _⟩
      · exact ⟨by simp [Instr.sliceBounds, hr' _ _ (Nat.le_refl _)], hle', Nat.le_refl _⟩
      · exact ⟨by simp [Instr.sliceBounds, hr _ _ hlc], Nat.zero_le _, hle⟩
      · exact ⟨by simp [Instr.sliceBounds, hr _ _ hlc, hr' _ _ (Nat.le_refl _)], hle', hle⟩

theorem optRel_map {π : PMap} {w : World} {env : Env} {a : Act} (hev : ∀ x, Rel π w (ev env x) (a.eval x)) (o : Option Operand) :
    OptRel π w (o.map (ev env)) (o.map a.eval) := by
  cases o with
  | none => trivial
  | some x => exact hev x

theorem slS_s {π : PMap} {w : World} {t e : TypeId} (ht : P.underlying t = some (.slice e)) {i : TypeInfo} (hi : P.info? e = some i) {x : AVal} {cx : Value} (hx : Rel π w x cx) {lo hi' : Option AVal} {clo chi : Option Value}
    (hlo : OptRel π w lo clo)
    (hhi : OptRel π w hi' chi) :
    PureS (slS i.size x lo hi') (Instr.sliceAt t cx clo chi none) P π w := by
  intro H r H' hr
  cases x <;> try (simp [slS, fail] at hr; done)
  · simp only [slS] at hr
    cases hb : bnds 0 lo hi' with
    | none => simp [hb, fail] at hr
    | some p =>
      obtain ⟨l, h⟩ := p
      simp only [hb, ret_some] at hr
      obtain ⟨rfl, rfl⟩ := hr
      simp only [Rel] at hx; subst hx
      obtain ⟨h1, h2, h3⟩ := bnds_run (P := P) (isS := true) (Nat.le_refl 0) hlo hhi hb
      have : h = 0 := by omega
      subst this
      have : l = 0 := by omega
      subst this
      refine ⟨rfl, .slice none 0 0, ?_, rfl⟩
      simp [Instr.sliceAt, Instr.slice, run_underlying ht, h1, run_size hi]
  · rename_i id off len sz
    simp only [slS] at hr
    cases hb : bnds len lo hi' with
    | none => simp [hb, fail] at hr
    | some p =>
      obtain ⟨l, h⟩ := p
      simp only [hb] at hr
      split at hr
      · rename_i hsz
        obtain ⟨rfl, rfl⟩ := ret_some.1 hr
        simp only [Rel] at hx
        obtain ⟨b, d, o, cap, hp, rfl, hle, hcap⟩ := hx
        obtain ⟨h1, h2, h3⟩ := bnds_run (P := P) (isS := true) hle hlo hhi hb
        refine ⟨rfl, .slice (some (if cap = l then ⟨b, o, none⟩ else ⟨b, o + l * i.size, none⟩)) (h - l) (cap - l), ?_, ?_⟩
        · simp only [Instr.sliceAt, Instr.slice, Sem.run_bind, run_underlying ht, Result.andThen_ok, h1, run_size hi, Sem.run_pure]
          split <;> simp [addr_add]
        · simp only [Rel]
          by_cases hc : cap = l
          · refine ⟨b, d, o, cap - l, hp, by simp [hc], by omega, fun h0 => by omega⟩
          · refine ⟨b, d, o + l * i.size, cap - l, hp, by simp [hc], by omega, fun h0 => ?_⟩
            obtain ⟨rfl, hroom⟩ := hcap (by omega)
            subst hsz
            refine ⟨by omega, ?_⟩
            have : d + (off + l * i.size) + (cap - l) * i.size = d + off + cap * i.size := by
              have : l * i.size + (cap - l) * i.size = cap * i.size := by rw [← Nat.add_mul]; congr 1; omega
              omega
            rw [this]; exact hroom
      · simp [fail] at hr

theorem slStr_s {π : PMap} {w : World} {t : TypeId} (ht : P.underlying t = some .string) {x : AVal} {cx : Value} (hx : Rel π w x cx) {lo hi' : Option AVal} {clo chi : Option Value}
    (hlo : OptRel π w lo clo)
    (hhi : OptRel π w hi' chi) :
    PureS (slStr x lo hi') (Instr.sliceAt t cx clo chi none) P π w := by
  intro H r H' hr
  cases x <;> try (simp [slStr, fail] at hr; done)
  rename_i s
  simp only [slStr] at hr
  cases hb : bnds s.length lo hi' with
  | none => simp [hb, fail] at hr
  | some p =>
    obtain ⟨l, h⟩ := p
    simp only [hb, ret_some] at hr
    obtain ⟨rfl, rfl⟩ := hr
    simp only [Rel] at hx; subst hx
    obtain ⟨h1, h2, h3⟩ := bnds_run (P := P) (isS := false) (Nat.le_refl s.length) hlo hhi hb
    refine ⟨rfl, .string ((ByteArray.mk s.toArray).extract l h), ?_, ?_⟩
    · simp [Instr.sliceAt, Instr.slice, run_underlying ht, bsz, h1]
    · simp only [Rel]
      congr 1
      have := Lib.extract_data (ByteArray.mk s.toArray) l h
      generalize (ByteArray.mk s.toArray).extract l h = B at this
      cases B with
      | mk data =>
        congr 1
        simp only at this
        rw [List.take_drop] at this
        rw [show l + (h - l) = h by omega] at this
        rw [← this]

theorem min_s {π : PMap} {w : World} : ∀ (xs : List AVal) (cxs : List Value) (x : AVal) (cx : Value), RelL π w xs cxs → Rel π w x cx → PureS (afoldM amin2 xs x) (cxs.foldlM Builtin.min2 cx) P π w
  | [], cxs, x, cx, hl, hx => by
    have := RelL.nil_iff.1 hl; subst this
    exact pureS_ret hx
  | y :: ys, cxs, x, cx, hl, hx => by
    obtain ⟨cy, cys, rfl, hy, hl'⟩ := RelL.cons_iff.1 hl
    intro H r H' hr
    simp only [afoldM, bnd_some] at hr
    obtain ⟨z, H1, hz, hr⟩ := hr
    cases x <;> cases y <;> simp only [amin2, ret_some, fail_some] at hz
    obtain ⟨rfl, rfl⟩ := hz
    simp only [Rel] at hx hy; subst hx; subst hy
    rename_i k a k' b
    obtain ⟨e, v, h1, h2⟩ := min_s ys cys (.int k (if b < a then b else a)) (.int k (if b < a then b else a)) hl' rfl H r H' hr
    exact ⟨e, v, by simpa [List.foldlM, Builtin.min2] using h1, h2⟩
theorem max_s {π : PMap} {w : World} : ∀ (xs : List AVal) (cxs : List Value) (x : AVal) (cx : Value), RelL π w xs cxs → Rel π w x cx → PureS (afoldM amax2 xs x) (cxs.foldlM Builtin.max2 cx) P π w
  | [], cxs, x, cx, hl, hx => by
    have := RelL.nil_iff.1 hl; subst this
    exact pureS_ret hx
  | y :: ys, cxs, x, cx, hl, hx => by
    obtain ⟨cy, cys, rfl, hy, hl'⟩ := RelL.cons_iff.1 hl
    intro H r H' hr
    simp only [afoldM, bnd_some] at hr
    obtain ⟨z, H1, hz, hr⟩ := hr
    cases x <;> cases y <;> simp only [amax2, ret_some, fail_some] at hz
    obtain ⟨rfl, rfl⟩ := hz
    simp only [Rel] at hx hy; subst hx; subst hy
    rename_i k a k' b
    obtain ⟨e, v, h1, h2⟩ := max_s ys cys (.int k (if b > a then b else a)) (.int k (if b > a then b else a)) hl' rfl H r H' hr
    exact ⟨e, v, by simpa [List.foldlM, Builtin.max2] using h1, h2⟩

/-! ### Reads -/
/-- The cells behind an id, as the world has them. -/
theorem rd_cells {π : PMap} {H : AHeap} {w : World} (hH : HRel π H w) {id : Nat} {c : List AVal} (hr : rd id H = some c) {b d : Nat} (hp : π id = some (b, d)) :
    ∃ carr E fr, w.heap[b]? = some (.cells carr E fr) ∧ d + c.length ≤ carr.size ∧ (∀ i a, c[i]? = some a → ∃ v, carr[d + i]? = some v ∧ Rel π w a v) := by
  unfold rd at hr
  split at hr
  · rename_i cs e fz hg
    cases hr
    obtain ⟨b', d', hp', carr, fr, ⟨E', h1, _⟩, h2, h3, h4⟩ := hH.obj id _ hg
    rw [hp] at hp'
    cases hp'
    exact ⟨carr, E', fr, h1, h2, h3⟩
  · cases hr
theorem cell_at {w : World} {b : Nat} {carr : Array Value} {E : TypeId} {fr : Nat × Nat} (h : w.heap[b]? = some (.cells carr E fr)) (o : Nat) : w.cell? ⟨b, o, none⟩ = carr[o]? := by
  simp [World.cell?, h]
theorem ld1_s {π : PMap} {H : AHeap} {w : World} (hH : HRel π H w) {t : TypeId} (ht : aggOf P t = some false) {x : AVal} {cx : Value} (hx : Rel π w x cx) {r : AVal} {H' : AHeap} (hr : ld1 x H = some (r, H')) :
    H' = H ∧ ∃ v, (Instr.loadAt t cx).run P w = .ok v w ∧ Rel π w r v := by
  cases x <;> try (simp [ld1] at hr; done)
  rename_i id off
  simp only [ld1] at hr
  cases hc : rd id H with
  | none => simp [hc] at hr
  | some c =>
    simp only [hc] at hr
    cases hv : c[off]? with
    | none => simp [hv] at hr
    | some y =>
      simp only [hv, Option.some.injEq, Prod.mk.injEq] at hr
      obtain ⟨rfl, rfl⟩ := hr
      simp only [Rel] at hx
      obtain ⟨b, d, hp, rfl⟩ := hx
      obtain ⟨carr, E, fr, h1, h2, h3⟩ := rd_cells hH hc hp
      obtain ⟨v, hv', hrel⟩ := h3 off y hv
      refine ⟨rfl, v, ?_, hrel⟩
      simp [Instr.loadAt, Instr.sureAddr, loadVar, run_agg ht, run_load, cell_at h1, hv']
theorem relL_cells {π : PMap} {w : World} {c : List AVal} {carr : Array Value} {d : Nat} (h2 : d + c.length ≤ carr.size) (h3 : ∀ i a, c[i]? = some a → ∃ v, carr[d + i]? = some v ∧ Rel π w a v) {off n : Nat} (hn : off + n ≤ c.length) :
    RelL π w ((c.drop off).take n) (((carr.toList.drop (d + off)).take n)) := by
  refine RelL.iff_get.2 ⟨by simp; omega, fun i a v ha hv => ?_⟩
  rw [List.getElem?_take] at ha hv
  split at ha
  · rename_i hi
    simp only [hi, if_true, List.getElem?_drop] at ha hv
    obtain ⟨u, hu, hrel⟩ := h3 _ _ ha
    have : carr[d + (off + i)]? = carr.toList[d + off + i]? := by rw [Array.getElem?_toList]; congr 1; omega
    rw [this, hv] at hu
    cases hu
    exact hrel
  · cases ha
theorem run_cells {w : World} {b : Nat} {carr : Array Value} {E : TypeId} {fr : Nat × Nat} (h : w.heap[b]? = some (.cells carr E fr)) (o n : Nat) (hn : o + n ≤ carr.size) :
    (loadCells ⟨b, o, none⟩ n).run P w = .ok ((carr.toList.drop o).take n).toArray w := by
  have hl : ((carr.toList.drop o).take n).length = n := by simp; omega
  have := run_loadCells_list (P := P) w ⟨b, o, none⟩ ((carr.toList.drop o).take n) (fun j v hv => by
    rw [addr_add, cell_at h]
    rw [List.getElem?_take] at hv
    split at hv
    · rw [List.getElem?_drop] at hv
      simpa using hv
    · cases hv)
  rwa [hl] at this
theorem ldn_s {π : PMap} {H : AHeap} {w : World} (hH : HRel π H w) {t : TypeId} (ht : aggOf P t = some true) {i : TypeInfo} (hi : P.info? t = some i) {x : AVal} {cx : Value} (hx : Rel π w x cx) {r : AVal} {H' : AHeap} (hr : ldn i.size x H = some (r, H')) :
    H' = H ∧ ∃ v, (Instr.loadAt t cx).run P w = .ok v w ∧ Rel π w r v := by
  cases x <;> try (simp [ldn] at hr; done)
  rename_i id off
  simp only [ldn] at hr
  cases hc : rd id H with
  | none => simp [hc] at hr
  | some c =>
    simp only [hc] at hr
    split at hr
    · rename_i hn
      simp only [Option.some.injEq, Prod.mk.injEq] at hr
      obtain ⟨rfl, rfl⟩ := hr
      simp only [Rel] at hx
      obtain ⟨b, d, hp, rfl⟩ := hx
      obtain ⟨carr, E, fr, h1, h2, h3⟩ := rd_cells hH hc hp
      refine ⟨rfl, .agg ((carr.toList.drop (d + off)).take i.size).toArray, ?_, ⟨_, rfl, by simpa using relL_cells h2 h3 hn⟩⟩
      simp [Instr.loadAt, Instr.sureAddr, loadVar, run_agg ht, run_size hi, run_cells h1 (d + off) i.size (by omega)]
    · cases hr

theorem srcLen_run {π : PMap} {w : World} {x : AVal} {cx : Value} (hx : Rel π w x cx) {n : Nat} (hn : srcLen x = some n) : (Builtin.lenOf cx).run P w = .ok n w := by
  cases x <;> simp only [srcLen, Option.some.injEq] at hn <;> try (cases hn; done)
  · simp only [Rel] at hx; subst hx; subst hn; simp [Builtin.lenOf, bsz]
  · simp only [Rel] at hx; subst hx; subst hn; simp [Builtin.lenOf]
  · simp only [Rel] at hx; obtain ⟨b, d, o, cap, _, rfl, _⟩ := hx; subst hn; simp [Builtin.lenOf]
/-- What an append or a copy reads. -/
theorem src_run {π : PMap} {H : AHeap} {w : World} (hH : HRel π H w) {size : Nat} {x : AVal} {cx : Value} (hx : Rel π w x cx) {m n : Nat} (hm : srcLen x = some m) (hnm : n ≤ m) {cs : List AVal} (hc : srcCells size x n H = some cs) :
    ∃ vs : Array Value, (Builtin.firstCells size n cx).run P w = .ok vs w ∧ RelL π w cs vs.toList ∧ (size = 0 ∨ cs.length = n * size) := by
  cases x <;> simp only [srcLen, Option.some.injEq] at hm <;> try (cases hm; done)
  · rename_i s
    subst hm
    simp only [Rel] at hx; subst hx
    simp only [srcCells] at hc
    split at hc
    · rename_i hs
      cases hc
      refine ⟨((ByteArray.mk s.toArray).extract 0 n).data.map fun b => .int .u8 b.toNat, by simp [Builtin.firstCells], ?_, .inr (by simp [hs]; omega)⟩
      have := Lib.extract_data (ByteArray.mk s.toArray) 0 n
      rw [Array.toList_map, this]
      simp only [List.drop_zero, Nat.sub_zero]
      refine RelL.iff_get.2 ⟨by simp, fun i a v ha hv => ?_⟩
      simp only [List.getElem?_map] at ha hv
      cases hg : (List.take n s)[i]? with
      | none => simp [hg] at ha
      | some y =>
        rw [hg] at ha hv
        simp only [Option.map_some, Option.some.injEq] at ha hv
        subst ha; subst hv
        rfl
    · cases hc
  · subst hm
    simp only [Rel] at hx; subst hx
    simp only [srcCells, Option.some.injEq] at hc
    subst hc
    have : n = 0 := by omega
    subst this
    exact ⟨#[], by simp [Builtin.firstCells], by simp [RelL], .inr (by simp)⟩
  · rename_i id off len sz
    subst hm
    simp only [srcCells] at hc
    cases hr : rd id H with
    | none => simp [hr] at hc
    | some c =>
      simp only [hr] at hc
      split at hc
      · rename_i hs
        cases hc
        obtain ⟨rfl, hn⟩ := hs
        simp only [Rel] at hx
        obtain ⟨b, d, o, cap, hp, rfl, hle, hcap⟩ := hx
        obtain ⟨carr, E, fr, h1, h2, h3⟩ := rd_cells hH hr hp
        by_cases h0 : cap = 0
        · have : n = 0 := by omega
          subst this
          refine ⟨#[], by simp [Builtin.firstCells, loadCells, loadCellsFrom], by simp [RelL], .inr (by simp)⟩
        · obtain ⟨rfl, _⟩ := hcap h0
          refine ⟨_, by simpa [Builtin.firstCells] using run_cells h1 (d + off) (n * sz) (by omega), by simpa using relL_cells h2 h3 hn, .inr (by simp; omega)⟩
      · cases hc

end
end Go.Am

end

section
set_option linter.unusedSimpArgs false
set_option linter.unusedVariables false
/- The abstract machine, part E: allocation, stores, appends, copies, maps. -/
namespace Go.Am
section
variable {P : Program}

def Sim (π : PMap) (H : AHeap) (w : World) (H' : AHeap) (r : AVal) (v : Value) (w' : World) : Prop :=
  ∃ π', Rel π' w' r v ∧ HRel π' H' w' ∧ Ext π H w π' H' w'

theorem isCell_one {π : PMap} {w : World} {x : AVal} {v : Value} (hc : x.isCell = true) (hx : Rel π w x v) : v.oneCell' = true := by
  cases x <;> simp only [AVal.isCell] at hc <;> simp only [Rel] at hx <;> first
    | (cases hc; done)
    | (subst hx; rfl)
    | (obtain ⟨b, d, _, rfl⟩ := hx; rfl)
    | (obtain ⟨b, d, o, cap, _, rfl, _⟩ := hx; rfl)
    | (obtain ⟨b, d, rfl, _⟩ := hx; rfl)
theorem cell1_cells {π : PMap} {w : World} {x y : AVal} {v : Value} {H H' : AHeap} (hr : cell1 x H = some (y, H')) (hx : Rel π w x v) :
    H' = H ∧ ∃ u, v.cells = #[u] ∧ Rel π w y u ∧ u.oneCell' = true := by
  unfold cell1 at hr
  split at hr <;> simp only [ret_some, fail_some] at hr
  · rename_i z h1 h2 h3
    obtain ⟨rfl, rfl⟩ := hr
    simp only [Rel] at hx
    obtain ⟨cs', rfl, hl⟩ := hx
    obtain ⟨u, us, he, hu, hus⟩ := RelL.cons_iff.1 hl
    have := RelL.nil_iff.1 hus
    subst this
    refine ⟨rfl, u, ?_, hu, isCell_one ?_ hu⟩
    · simp only [Value.cells]
      apply Array.ext'
      simpa using he
    · cases z <;> simp_all [AVal.isCell]
  · rename_i h1 h2 h3 h4 h5 h6 h7
    obtain ⟨rfl, rfl⟩ := hr
    have hc : x.isCell = true := by cases x <;> simp_all [AVal.isCell]
    refine ⟨rfl, v, ?_, hx, isCell_one hc hx⟩
    have := isCell_one hc hx
    cases v <;> simp_all [Value.cells, Value.oneCell']
theorem cellsN_cells {π : PMap} {w : World} {n : Nat} {x : AVal} {ys : List AVal} {v : Value} {H H' : AHeap} (hr : cellsN n x H = some (ys, H')) (hx : Rel π w x v) :
    H' = H ∧ RelL π w ys v.cells.toList ∧ ys.length = n ∧ (∀ u ∈ v.cells.toList, u.oneCell' = true) := by
  unfold cellsN at hr
  split at hr
  · rename_i cs
    split at hr
    · rename_i h
      obtain ⟨rfl, rfl⟩ := ret_some.1 hr
      simp only [Rel] at hx
      obtain ⟨cs', rfl, hl⟩ := hx
      refine ⟨rfl, hl, h.1, fun u hu => ?_⟩
      obtain ⟨i, hi⟩ := List.getElem?_of_mem hu
      have hlt : i < cs.length := by
        rw [hl.length]
        rcases Nat.lt_or_ge i cs'.toList.length with h' | h'
        · exact h'
        · simp only [Value.cells] at hi; simp [List.getElem?_eq_none h'] at hi
      have hc := List.getElem?_eq_getElem hlt
      have hrel := (RelL.iff_get.1 hl).2 i _ _ hc hi
      have hall := h.2
      simp only [List.all_eq_true] at hall
      exact isCell_one (hall _ (List.getElem_mem hlt)) hrel
    · simp [fail] at hr
  · simp [fail] at hr

theorem newB_spec {π : PMap} {H H' : AHeap} {w : World} (hH : HRel π H w) {rs : Option Nat} {o : AObj} {id : Nat} (h : newB rs o H = some (id, H')) :
    H.get id = none ∧ (∀ i, H'.get i = if i = id then some o else H.get i) ∧ H.next ≤ H'.next ∧ id < H'.next := by
  cases rs with
  | none =>
    simp only [newB, Option.some.injEq, Prod.mk.injEq] at h
    obtain ⟨rfl, rfl⟩ := h
    exact ⟨hH.bnd _ (Nat.le_refl _), fun i => rfl, by simp [AHeap.push], by simp [AHeap.push]⟩
  | some k =>
    simp only [newB] at h
    split at h
    · cases h
    · rename_i hg
      split at h
      · rename_i hlt
        simp only [Option.some.injEq, Prod.mk.injEq] at h
        obtain ⟨rfl, rfl⟩ := h
        exact ⟨hg, fun i => rfl, Nat.le_refl _, hlt⟩
      · cases h
/-- New cells, with room behind them. -/
theorem alloc_cells {π : PMap} {H H' : AHeap} {w : World} (hH : HRel π H w) {rs : Option Nat} {cs : List AVal} {elem : TypeId} {id : Nat} (h : newB rs (.cells cs elem 0) H = some (id, H'))
    {carr : Array Value} {fr : Nat × Nat} (hl : cs.length ≤ carr.size) (hc : ∀ (i : Nat) (a : AVal), cs[i]? = some a → ∃ v, carr[i]? = some v ∧ Rel π w a v) (hf : ∀ i, i < carr.size → ¬(fr.1 ≤ i ∧ i < fr.2)) :
    HRel (π.put id (w.heap.size, 0)) H' { w with heap := w.heap.push (.cells carr elem fr) } ∧ Ext π H w (π.put id (w.heap.size, 0)) H' { w with heap := w.heap.push (.cells carr elem fr) } := by
  obtain ⟨h1, h2, h3, h4⟩ := newB_spec hH h
  refine hH.alloc h1 h2 h3 h4 ⟨carr, fr, ⟨elem, by simp, fun _ => rfl⟩, by omega, fun i a ha => ?_, fun i _ hi => hf i hi⟩
  obtain ⟨v, hv, hr⟩ := hc i a ha
  exact ⟨v, by simpa using hv, hr.mono (PMap.le_put (hH.unm _ h1)) (WLe.push w _)⟩
theorem relL_get' {π : PMap} {w : World} {cs : List AVal} {carr : Array Value} (h : RelL π w cs carr.toList) : cs.length ≤ carr.size ∧ ∀ (i : Nat) (a : AVal), cs[i]? = some a → ∃ v, carr[i]? = some v ∧ Rel π w a v := by
  refine ⟨by have := h.length; simp at this; omega, fun i a ha => ?_⟩
  obtain ⟨v, hv, hr⟩ := h.get ha
  exact ⟨v, by simpa using hv, hr⟩
theorem allocC_s {π : PMap} {H H' : AHeap} {w : World} (hH : HRel π H w) {rs : Option Nat} {elem : TypeId} {cs : List AVal} {r : AVal} (hr : allocC rs elem cs H = some (r, H')) {carr : Array Value} (hl : RelL π w cs carr.toList) :
    Sim π H w H' r (.pointer (some ⟨w.heap.size, 0, none⟩)) { w with heap := w.heap.push (.cells carr elem (0, 0)) } := by
  simp only [allocC, bnd_some] at hr
  obtain ⟨id, H1, h1, h2⟩ := hr
  obtain ⟨rfl, rfl⟩ := ret_some.1 h2
  obtain ⟨g1, g2⟩ := relL_get' hl
  obtain ⟨a1, a2⟩ := alloc_cells hH h1 (fr := (0, 0)) g1 g2 (by simp)
  exact ⟨_, ⟨w.heap.size, 0, by simp [PMap.put], by simp⟩, a1, a2⟩
theorem allocS_s {π : PMap} {H H' : AHeap} {w : World} (hH : HRel π H w) {rs : Option Nat} {elem : TypeId} {size len cap : Nat} {cs : List AVal} {r : AVal} (hr : allocS rs elem size len cs H = some (r, H')) {carr : Array Value} {fr : Nat × Nat}
    (hlc : len ≤ cap) (hsz : cap * size ≤ carr.size) (hl : cs.length ≤ carr.size) (hc : ∀ (i : Nat) (a : AVal), cs[i]? = some a → ∃ v, carr[i]? = some v ∧ Rel π w a v) (hf : ∀ i, i < carr.size → ¬(fr.1 ≤ i ∧ i < fr.2)) :
    Sim π H w H' r (.slice (some ⟨w.heap.size, 0, none⟩) len cap) { w with heap := w.heap.push (.cells carr elem fr) } := by
  simp only [allocS, bnd_some] at hr
  obtain ⟨id, H1, h1, h2⟩ := hr
  obtain ⟨rfl, rfl⟩ := ret_some.1 h2
  obtain ⟨a1, a2⟩ := alloc_cells hH h1 (fr := fr) hl hc hf
  exact ⟨_, ⟨w.heap.size, 0, 0, cap, by simp [PMap.put], rfl, hlc, fun _ => ⟨rfl, ⟨carr, elem, fr, by simp, by simpa using hsz⟩⟩⟩, a1, a2⟩

theorem run_newRow (w : World) (elem : TypeId) (cells : Array Value) : (newRow elem cells).run P w = .ok ⟨w.heap.size, 0, none⟩ { w with heap := w.heap.push (.cells cells elem (0, 0)) } := by
  simp [newRow]
theorem zcells_rel {π : PMap} {w : World} {i : TypeInfo} {z : List AVal} (h : zcells i = some z) : ∃ v, i.zero = some v ∧ RelL π w z v.cells.toList := by
  unfold zcells at h
  split at h
  · rename_i cs hz
    cases h
    exact ⟨_, hz, relL_absC1 π w _⟩
  · rename_i v hv hz
    cases h
    refine ⟨v, hz, ?_⟩
    have : v.cells = #[v] := by cases v <;> simp_all [Value.cells]
    rw [this]
    exact RelL.cons (rel_absC1 π w v) RelL.nil
  · cases h
theorem run_zero {t : TypeId} {i : TypeInfo} (h : P.info? t = some i) {v : Value} (hz : i.zero = some v) (w : World) : (zeroValue t).run P w = .ok v w := by
  simp [zeroValue, run_info h, hz]
theorem alloc_s {π : PMap} {H H' : AHeap} {w : World} (hH : HRel π H w) {rs : Option Nat} {t : TypeId} {i : TypeInfo} (hi : P.info? t = some i) {cs : List AVal} (hz : zcells i = some cs) {r : AVal} (hr : allocC rs t cs H = some (r, H')) :
    ∃ v w', (Instr.alloc t true (.tuple #[])).run P w = .ok v w' ∧ Sim π H w H' r v w' := by
  obtain ⟨z, hz1, hz2⟩ := zcells_rel (π := π) (w := w) hz
  exact ⟨_, _, by simp [Instr.alloc, run_zero hi hz1, newVar, run_newRow], allocC_s hH hr hz2⟩
theorem box_s {π : PMap} {H H' : AHeap} {w : World} (hH : HRel π H w) {rs : Option Nat} {t : TypeId} {n : Nat} {x : AVal} {cx : Value} (hx : Rel π w x cx) {r : AVal} (hr : boxA rs t n x H = some (r, H')) :
    ∃ v w', (Instr.box t cx).run P w = .ok v w' ∧ Sim π H w H' r v w' := by
  refine ⟨.pointer (some ⟨w.heap.size, 0, none⟩), { w with heap := w.heap.push (.cells cx.cells t (0, 0)) }, by simp [Instr.box, newVar, run_newRow], ?_⟩
  unfold boxA at hr
  split at hr
  · simp only [bnd_some] at hr
    obtain ⟨y, H1, h1, h2⟩ := hr
    obtain ⟨rfl, u, hu, hy, _⟩ := cell1_cells h1 hx
    exact allocC_s hH h2 (by rw [hu]; exact RelL.cons hy RelL.nil)
  · simp only [bnd_some] at hr
    obtain ⟨ys, H1, h1, h2⟩ := hr
    obtain ⟨rfl, hl, _⟩ := cellsN_cells h1 hx
    exact allocC_s hH h2 hl

/-! ### Composite values -/
theorem fold_set : ∀ (vs : List Value) (k off : Nat) (cells : Array Value), off + k + vs.length ≤ cells.size →
    ((vs.zipIdx k).foldl (fun cs (c, j) => cs.setIfInBounds (off + j) c) cells).toList = cells.toList.take (off + k) ++ vs ++ cells.toList.drop (off + k + vs.length)
  | [], k, off, cells, _ => by simp
  | v :: vs, k, off, cells, h => by
    simp only [List.zipIdx_cons, List.foldl_cons]
    rw [fold_set vs (k + 1) off _ (by simp at h ⊢; omega)]
    simp only [Array.toList_setIfInBounds]
    have := list_seg_step cells.toList (off + k) v vs (by simp at h ⊢; omega)
    simpa [Nat.add_assoc] using this
theorem fill_s {π : PMap} {w : World} (place : Nat → Option (Nat × Nat)) : ∀ (parts : List (Nat × AVal)) (cparts : List (Nat × Value)) (cells : List AVal) (ccells : Array Value),
    parts.map Prod.fst = cparts.map Prod.fst → RelL π w (parts.map Prod.snd) (cparts.map Prod.snd) → RelL π w cells ccells.toList →
    ∀ {H H' : AHeap} {out : List AVal}, afillM place parts cells H = some (out, H') → H' = H ∧ ∃ cout, Instr.fill place ccells cparts = some cout ∧ RelL π w out cout.toList
  | [], cparts, cells, ccells, h1, h2, h3, H, H', out, hr => by
    simp only [afillM] at hr
    obtain ⟨rfl, rfl⟩ := ret_some.1 hr
    cases cparts with
    | nil => exact ⟨rfl, ccells, rfl, h3⟩
    | cons x xs => simp at h1
  | (i, x) :: parts, cparts, cells, ccells, h1, h2, h3, H, H', out, hr => by
    cases cparts with
    | nil => simp at h1
    | cons y cparts =>
      obtain ⟨j, v⟩ := y
      simp only [List.map_cons, List.cons.injEq] at h1
      obtain ⟨rfl, h1⟩ := h1
      simp only [List.map_cons, RelL] at h2
      obtain ⟨hx, h2⟩ := h2
      have hlen := h3.length
      simp only [Array.length_toList] at hlen
      simp only [afillM] at hr
      cases hp : place i with
      | none => simp [hp, fail] at hr
      | some p =>
        obtain ⟨off, size⟩ := p
        simp only [hp] at hr
        split at hr
        · rename_i hle
          split at hr
          · rename_i hs
            simp only [bnd_some] at hr
            obtain ⟨z, H1, hz, hr⟩ := hr
            obtain ⟨rfl, u, hu, hzu, _⟩ := cell1_cells hz hx
            have := fill_s place parts cparts (cells.set off z) (ccells.setIfInBounds off u) h1 h2 (by simpa using h3.set off hzu) hr
            obtain ⟨e, cout, hc, hl⟩ := this
            refine ⟨e, cout, ?_, hl⟩
            simp only [Instr.fill, hp, hu]
            have : ¬ (((#[u] : Array Value).size ≠ size) ∨ off + (#[u] : Array Value).size > ccells.size) := by simp; omega
            simp only [decide_not, Bool.or_eq_true, Bool.not_eq_eq_eq_not, Bool.not_true, decide_eq_false_iff_not, decide_eq_true_eq, this, if_false]
            simpa using hc
          · rename_i hs
            simp only [bnd_some] at hr
            obtain ⟨zs, H1, hz, hr⟩ := hr
            obtain ⟨rfl, hzl, hzn, _⟩ := cellsN_cells hz hx
            have hvl : v.cells.size = size := by have := hzl.length; simp at this; omega
            let cnew : Array Value := (v.cells.zipIdx.foldl (fun cs (c, j) => cs.setIfInBounds (off + j) c) ccells)
            have hnew : cnew.toList = ccells.toList.take off ++ v.cells.toList ++ ccells.toList.drop (off + v.cells.toList.length) := by
              have := fold_set v.cells.toList 0 off ccells (by simp; omega)
              simp only [Nat.add_zero] at this
              rw [← this]
              show (v.cells.zipIdx.foldl _ ccells).toList = _
              rw [← Array.foldl_toList]
              simp [Array.toList_zipIdx]
            have hsp : RelL π w (splice cells off zs) cnew.toList := by
              rw [hnew]
              unfold splice
              have : zs.length = v.cells.toList.length := hzl.length
              rw [this]
              exact ((h3.take off).append hzl).append (h3.drop _)
            have := fill_s place parts cparts (splice cells off zs) cnew h1 h2 hsp hr
            obtain ⟨e, cout, hc, hl⟩ := this
            refine ⟨e, cout, ?_, hl⟩
            simp only [Instr.fill, hp]
            have : ¬ ((v.cells.size ≠ size) ∨ off + v.cells.size > ccells.size) := by simp; omega
            simp only [decide_not, Bool.or_eq_true, Bool.not_eq_eq_eq_not, Bool.not_true, decide_eq_false_iff_not, decide_eq_true_eq, this, if_false]
            exact hc
        · simp [fail] at hr

theorem places_run {w : World} : ∀ (fs : List Field) (l : List (Nat × Nat)), aPlaces P fs = some l →
    (fs.mapM fun f => do pure (f.offset, ← sizeOf f.type) : Sem (List (Nat × Nat))).run P w = .ok l w
  | [], l, h => by simp only [aPlaces, Option.some.injEq] at h; subst h; simp
  | f :: fs, l, h => by
    simp only [aPlaces] at h
    split at h
    · rename_i i r hi hr
      cases h
      have ih := places_run (w := w) fs r hr
      simp at ih
      simp [List.mapM_cons, run_size hi, ih]
    · cases h

end
end Go.Am

end

section
set_option linter.unusedSimpArgs false
set_option linter.unusedVariables false
/- The abstract machine, part F: composite values, make, conversions to and from bytes, stores, appends, copies, maps. -/
namespace Go.Am
section
variable {P : Program}

theorem build_struct_s {π : PMap} {w : World} {t : TypeId} {i : TypeInfo} (hi : P.info? t = some i) {fs : Array Field} (hu : P.underlying t = some (.struct fs)) {zs : List AVal} (hz : zcells i = some zs) {pl : List (Nat × Nat)} (hp : aPlaces P fs.toList = some pl)
    {parts : List (Nat × AVal)} {cparts : Array (Nat × Value)} (h1 : parts.map Prod.fst = cparts.toList.map Prod.fst) (h2 : RelL π w (parts.map Prod.snd) (cparts.toList.map Prod.snd)) {H H' : AHeap} {out : List AVal} (hr : afillM (plc pl) parts zs H = some (out, H')) :
    H' = H ∧ ∃ v, (Instr.build t cparts).run P w = .ok v w ∧ Rel π w (.agg out) v := by
  obtain ⟨z, hz1, hz2⟩ := zcells_rel (π := π) (w := w) hz
  obtain ⟨e, cout, hf, hl⟩ := fill_s (plc pl) parts cparts.toList zs z.cells h1 h2 hz2 hr
  refine ⟨e, .agg cout, ?_, ⟨cout, rfl, hl⟩⟩
  have hm : (fs.mapM fun f => do pure (f.offset, ← sizeOf f.type) : Sem (Array (Nat × Nat))).run P w = .ok pl.toArray w := by
    rw [Array.mapM_eq_mapM_toList]
    simp only [Sem.run_map, places_run fs.toList pl hp, Result.andThen_ok]
  have hpl : (fun k => pl.toArray[k]?) = plc pl := by funext k; simp [plc]
  simp only [Instr.build, Sem.run_bind, run_zero hi hz1, Result.andThen_ok, run_underlying hu, hm]
  simp only [hpl, hf, Sem.run_pure]
theorem build_array_s {π : PMap} {w : World} {t e : TypeId} {n : Nat} {i j : TypeInfo} (hi : P.info? t = some i) (hu : P.underlying t = some (.array n e)) (hj : P.info? e = some j) {zs : List AVal} (hz : zcells i = some zs)
    {parts : List (Nat × AVal)} {cparts : Array (Nat × Value)} (h1 : parts.map Prod.fst = cparts.toList.map Prod.fst) (h2 : RelL π w (parts.map Prod.snd) (cparts.toList.map Prod.snd)) {H H' : AHeap} {out : List AVal} (hr : afillM (fun k => some (k * j.size, j.size)) parts zs H = some (out, H')) :
    H' = H ∧ ∃ v, (Instr.build t cparts).run P w = .ok v w ∧ Rel π w (.agg out) v := by
  obtain ⟨z, hz1, hz2⟩ := zcells_rel (π := π) (w := w) hz
  obtain ⟨e', cout, hf, hl⟩ := fill_s _ parts cparts.toList zs z.cells h1 h2 hz2 hr
  refine ⟨e', .agg cout, ?_, ⟨cout, rfl, hl⟩⟩
  simp only [Instr.build, Sem.run_bind, run_zero hi hz1, Result.andThen_ok, run_underlying hu, run_size hj]
  simp only [hf, Sem.run_pure]

theorem zrep_length (n : Nat) (zs : List AVal) : (zrep n zs).length = n * zs.length := by
  simp [zrep]
theorem zrep_get (zs : List AVal) : ∀ (n i : Nat), i < n * zs.length → (zrep n zs)[i]? = zs[i % zs.length]?
  | 0, i, h => by omega
  | n + 1, i, h => by
    have e : zrep (n + 1) zs = zs ++ zrep n zs := by simp [zrep, List.replicate_succ]
    rw [e, List.getElem?_append]
    split
    · rename_i hlt; rw [Nat.mod_eq_of_lt hlt]
    · rename_i hge
      have hge' : zs.length ≤ i := Nat.le_of_not_lt hge
      rw [zrep_get zs n (i - zs.length) (by rw [Nat.add_mul] at h; omega), Nat.mod_eq_sub_mod hge']
/-- A row of zero values, and room behind it. -/
theorem zero_row {π : PMap} {w : World} {zs : List AVal} {z : Array Value} (hz : RelL π w zs z.toList) {l c : Nat} (hlc : l ≤ c) :
    ∀ (i : Nat) (a : AVal), (zrep l zs)[i]? = some a → ∃ v, ((Array.range (c * zs.length)).map (fun k => z[k % z.size]!))[i]? = some v ∧ Rel π w a v := by
  intro i a ha
  have hlen : zs.length = z.size := by simpa using hz.length
  have hi : i < l * zs.length := by
    rcases Nat.lt_or_ge i (zrep l zs).length with h | h
    · rwa [zrep_length] at h
    · simp [List.getElem?_eq_none h] at ha
  rw [zrep_get zs l i hi] at ha
  have hic : i < c * zs.length := Nat.lt_of_lt_of_le hi (Nat.mul_le_mul_right _ hlc)
  have hpos : 0 < zs.length := by
    rcases Nat.eq_zero_or_pos zs.length with h | h
    · rw [h] at hi; omega
    · exact h
  obtain ⟨v, hv, hr⟩ := hz.get ha
  refine ⟨v, ?_, hr⟩
  have hmod : i % z.size < z.size := Nat.mod_lt _ (by omega)
  rw [Array.getElem?_map, Array.getElem?_range, if_pos hic]
  simp only [Option.map_some, Option.some.injEq]
  rw [hlen] at hv
  rw [getElem!_pos z (i % z.size) hmod]
  simpa [hmod] using hv

theorem buildSlice_s {π : PMap} {w : World} {H H' : AHeap} (hH : HRel π H w) {rs : Option Nat} {t e : TypeId} (hu : P.underlying t = some (.slice e)) {i : TypeInfo} (hi : P.info? e = some i) {len : Nat} (hcap : len * i.size ≤ 16777216) {zs : List AVal}
    (hz : (if len = 0 then some [] else zcells i) = some zs) (hzl : len = 0 ∨ zs.length = i.size)
    {parts : List (Nat × AVal)} {cparts : Array (Nat × Value)} (h1 : parts.map Prod.fst = cparts.toList.map Prod.fst) (h2 : RelL π w (parts.map Prod.snd) (cparts.toList.map Prod.snd))
    {H1 : AHeap} {out : List AVal} (hr : afillM (fun k => some (k * i.size, i.size)) parts (zrep len zs) H = some (out, H1)) {r : AVal} (hr2 : allocS rs e i.size len out H1 = some (r, H')) :
    ∃ v w', (Instr.buildSlice t len cparts).run P w = .ok v w' ∧ Sim π H w H' r v w' := by
  have key : ∀ (zero : Array Value), RelL π w (zrep len zs) ((Array.range (len * i.size)).map (fun k => zero[k % zero.size]!)).toList →
      (len * i.size = 0 ∧ zero = #[] ∨ len * i.size ≠ 0 ∧ ∃ z, i.zero = some z ∧ zero = z.cells) →
      ∃ v w', (Instr.buildSlice t len cparts).run P w = .ok v w' ∧ Sim π H w H' r v w' := by
    intro zero hrow hzero
    obtain ⟨rfl, cout, hf, hl⟩ := fill_s _ parts cparts.toList _ _ h1 h2 hrow hr
    obtain ⟨g1, g2⟩ := relL_get' hl
    have hlen : cout.size = len * i.size := by
      have := hl.length
      have hz' : ∀ (ps : List (Nat × AVal)) (cs : List AVal) {Ha Hb : AHeap} {o : List AVal}, afillM (fun k => some (k * i.size, i.size)) ps cs Ha = some (o, Hb) → o.length = cs.length := by
        intro ps
        induction ps with
        | nil => intro cs Ha Hb o h; simp only [afillM] at h; obtain ⟨rfl, rfl⟩ := ret_some.1 h; rfl
        | cons p ps ih =>
          intro cs Ha Hb o h
          obtain ⟨k, x⟩ := p
          simp only [afillM] at h
          split at h
          · rename_i hle
            split at h
            · simp only [bnd_some] at h
              obtain ⟨y, Hy, _, h⟩ := h
              have := ih _ h
              simpa using this
            · simp only [bnd_some] at h
              obtain ⟨ys, Hy, hy, h⟩ := h
              have hyl : ys.length = i.size := by
                unfold cellsN at hy
                split at hy
                · split at hy
                  · rename_i hc; obtain ⟨rfl, rfl⟩ := ret_some.1 hy; exact hc.1
                  · simp [fail] at hy
                · simp [fail] at hy
              have := ih _ h
              rw [this]
              simp [splice]
              omega
          · simp [fail] at h
      have := hz' parts _ hr
      have e2 := hl.length
      have e3 := hrow.length
      simp at e2 e3
      omega
    refine ⟨_, _, ?_, allocS_s hH hr2 (carr := cout) (fr := (0, 0)) (Nat.le_refl len) (by omega) g1 g2 (by simp)⟩
    have hc : ¬ (len * i.size > 2 ^ 24) := by omega
    rcases hzero with ⟨h0, rfl⟩ | ⟨h0, z, hz1, rfl⟩
    · simp only [Instr.buildSlice, Sem.run_bind, run_underlying hu, Result.andThen_ok, run_size hi, hc, if_false, Sem.run_pure, h0, if_true]
      rw [h0] at hf
      rw [if_neg (by omega : ¬ (0 > 2 ^ 24))]
      simp only [Sem.run_bind, Sem.run_pure, Result.andThen_ok]
      simp only [hf, Sem.run_bind, run_newRow, Result.andThen_ok, Sem.run_pure]
    · simp only [Instr.buildSlice, Sem.run_bind, run_underlying hu, Result.andThen_ok, run_size hi, hc, if_false, Sem.run_pure, h0, run_zero hi hz1]
      simp only [hf, Sem.run_bind, run_newRow, Result.andThen_ok, Sem.run_pure]
  by_cases h0 : len * i.size = 0
  · refine key #[] ?_ (.inl ⟨h0, rfl⟩)
    have : zrep len zs = [] := by
      apply List.eq_nil_of_length_eq_zero
      rw [zrep_length]
      rcases Nat.eq_zero_or_pos len with h | h
      · simp [h]
      · rcases hzl with h' | h'
        · omega
        · rw [h']; exact h0
    rw [this, h0]
    simp [RelL]
  · have hl0 : len ≠ 0 := fun h => h0 (by simp [h])
    rw [if_neg hl0] at hz
    obtain ⟨z, hz1, hz2⟩ := zcells_rel (π := π) (w := w) hz
    refine key z.cells ?_ (.inr ⟨h0, z, hz1, rfl⟩)
    have hzs : zs.length = i.size := hzl.resolve_left hl0
    rw [← hzs]
    refine RelL.iff_get.2 ⟨by simp [zrep_length], fun k a v ha hv => ?_⟩
    obtain ⟨u, hu', hr'⟩ := zero_row hz2 (Nat.le_refl len) k a ha
    rw [Array.getElem?_toList, hu'] at hv
    cases hv
    exact hr'

theorem wrap_id {n : Int} (h0 : 0 ≤ n) (h1 : n ≤ 1073741824) : IntKind.i64.wrap n = n := by
  unfold IntKind.wrap
  simp [IntKind.bits, IntKind.signed]
  omega
theorem mkS_s {π : PMap} {w : World} {H H' : AHeap} (hH : HRel π H w) {rs : Option Nat} {t e : TypeId} (hu : P.underlying t = some (.slice e)) {i : TypeInfo} (hi : P.info? e = some i) {zs : List AVal} (hz : zcells i = some zs) (hzl : zs.length = i.size)
    {l c : AVal} {cl cc : Value} (hl : Rel π w l cl) (hc : Rel π w c cc) {r : AVal} (hr : mkS rs e i.size i.bytes zs l c H = some (r, H')) :
    ∃ v w', (Instr.makeSlice t cl cc).run P w = .ok v w' ∧ Sim π H w H' r v w' := by
  cases l <;> try (simp [mkS, fail] at hr; done)
  cases c <;> try (simp [mkS, fail] at hr; done)
  rename_i k1 l k2 c
  simp only [Rel] at hl hc
  subst hl; subst hc
  simp only [mkS] at hr
  split at hr
  · rename_i h
    obtain ⟨h0, hle, hmax, hby⟩ := h
    unfold maxLenA at hmax
    have wl : IntKind.i64.wrap l = l := wrap_id h0 (by omega)
    have wc : IntKind.i64.wrap c = c := wrap_id (by omega) (by omega)
    obtain ⟨z, hz1, hz2⟩ := zcells_rel (π := π) (w := w) hz
    have hbig : ∀ n : Int, 0 ≤ n → n ≤ 1073741824 → ¬ ((i.bytes : Int) * n > 2 ^ 48) := by
      intro n hn hn'
      have h1 : (i.bytes : Int) * n ≤ 65536 * 1073741824 := Int.mul_le_mul (by omega) hn' hn (by omega)
      omega
    have hc1 := hbig c (by omega) (by omega)
    have hzlen : z.cells.size = i.size := by have := hz2.length; simp at this; omega
    refine ⟨_, _, ?_, allocS_s hH hr (carr := (Array.range (c.toNat * i.size)).map (fun k => (if c.toNat * i.size = 0 then #[] else z.cells)[k % (if c.toNat * i.size = 0 then #[] else z.cells).size]!)) (fr := (0, 0)) (cap := c.toNat) (by omega) (by simp) (by simp [zrep_length, hzl]; exact Nat.mul_le_mul_right _ (by omega)) ?_ (by simp)⟩
    · have e1 : ¬ (c < 0) := by omega
      have e2 : ¬ (l < 0) := by omega
      have e3 : ¬ (l > c) := by omega
      simp only [Instr.makeSlice, Sem.run_bind, run_underlying hu, Result.andThen_ok, asInt, asIntOf, Sem.run_pure, run_info hi, wl, wc]
      simp only [e1, e2, e3, hc1, decide_false, Bool.false_or, Bool.or_false, Bool.or_self, Bool.false_eq_true, if_false, Sem.run_bind, run_askRoom, Result.andThen_ok, run_size hi]
      by_cases hz0 : c.toNat * i.size = 0
      · simp only [hz0, if_true, Sem.run_bind, Sem.run_pure, Result.andThen_ok, run_newRow]
      · simp only [hz0, if_false, Sem.run_bind, Sem.run_pure, Result.andThen_ok, run_newRow, run_zero hi hz1]
    · intro k a ha
      by_cases hz0 : c.toNat * i.size = 0
      · have : zrep l.toNat zs = [] := by
          apply List.eq_nil_of_length_eq_zero
          rw [zrep_length, hzl]
          have : l.toNat * i.size ≤ c.toNat * i.size := Nat.mul_le_mul_right _ (by omega)
          omega
        rw [this] at ha; simp at ha
      · simp only [hz0, if_false]
        have := zero_row hz2 (show l.toNat ≤ c.toNat by omega) k a ha
        rwa [hzl] at this
  · simp [fail] at hr

theorem s2b_s {π : PMap} {w : World} {H H' : AHeap} (hH : HRel π H w) {rs : Option Nat} {src dst e : TypeId} (hs : P.underlying src = some .string) (hd : P.underlying dst = some (.slice e)) (he : P.underlying e = some (.int .u8))
    {x : AVal} {cx : Value} (hx : Rel π w x cx) {r : AVal} (hr : s2b rs e x H = some (r, H')) :
    ∃ v w', (Go.convert src dst cx).run P w = .ok v w' ∧ Sim π H w H' r v w' := by
  cases x <;> try (simp [s2b, fail] at hr; done)
  rename_i s
  simp only [s2b] at hr
  split at hr
  · simp only [Rel] at hx
    subst hx
    have hrun := run_bytes_of_string (P := P) w src dst e (ByteArray.mk s.toArray) hs hd he
    refine ⟨_, _, hrun, ?_⟩
    rw [bsz]
    have hge : s.length ≤ grownCap w s.length 0 e := by simp [grownCap, Question.cut]
    generalize grownCap w s.length 0 e = cap at hge ⊢
    have hsz : (bytesRow (ByteArray.mk s.toArray) cap).size = cap := by simp [bytesRow, bsz]; omega
    obtain ⟨π', h1, h2, h3⟩ := allocS_s (HRel.drw hH) hr (carr := bytesRow (ByteArray.mk s.toArray) cap) (fr := (cap, cap + 1)) hge (by rw [hsz]; omega) (by rw [hsz]; simpa using hge) (fun i a ha => by
        simp only [List.getElem?_map] at ha
        cases hb : s[i]? with
        | none => simp [hb] at ha
        | some b =>
          rw [hb] at ha
          simp only [Option.map_some, Option.some.injEq] at ha
          subst ha
          refine ⟨.int .u8 b.toNat, ?_, rfl⟩
          have hlt : i < s.length := by
            rcases Nat.lt_or_ge i s.length with h | h
            · exact h
            · simp [List.getElem?_eq_none h] at hb
          simp only [bytesRow]
          rw [Array.getElem?_append_left (by simpa using hlt)]
          simp [hb]) (fun i hi => by rw [hsz] at hi; simp only; omega)
    rw [hsz]
    exact ⟨π', h1, h2, (Ext.drw π H w).trans h3⟩
  · simp [fail] at hr

theorem bytesStr_ns {π : PMap} {w : World} : ∀ (cs : List AVal) (vs : List Value) (t : List UInt8), RelL π w cs vs → bytesStr cs = some t → ∃ ns : List Int, vs = ns.map (Value.int .u8) ∧ t = ns.map (fun n => UInt8.ofNat n.toNat)
  | [], vs, t, hl, h => by
    have := RelL.nil_iff.1 hl; subst this
    simp only [bytesStr, Option.some.injEq] at h; subst h
    exact ⟨[], rfl, rfl⟩
  | x :: cs, vs, t, hl, h => by
    obtain ⟨v, vs', rfl, hx, hl'⟩ := RelL.cons_iff.1 hl
    unfold bytesStr at h
    split at h
    · cases ‹_ = []›
    · rename_i n r heq
      cases heq
      cases hb : bytesStr cs with
      | none => simp [hb] at h
      | some u =>
        simp only [hb, Option.some.injEq] at h
        subst h
        obtain ⟨ns, rfl, rfl⟩ := bytesStr_ns cs vs' u hl' hb
        simp only [Rel] at hx; subst hx
        exact ⟨n :: ns, rfl, rfl⟩
    · cases h
theorem foldl_push : ∀ (ns : List Int) (r : ByteArray), ns.foldl (fun r n => r.push (UInt8.ofNat n.toNat)) r = ⟨r.data ++ (ns.map fun n => UInt8.ofNat n.toNat).toArray⟩
  | [], r => by simp
  | b :: l, r => by
    simp only [List.map_cons, List.foldl_cons]
    rw [foldl_push l]
    simp [ByteArray.push]
theorem b2s_s {π : PMap} {w : World} {H H' : AHeap} (hH : HRel π H w) {src dst e : TypeId} (hs : P.underlying src = some (.slice e)) (hd : P.underlying dst = some .string) (he : P.underlying e = some (.int .u8))
    {x : AVal} {cx : Value} (hx : Rel π w x cx) {r : AVal} (hr : b2s x H = some (r, H')) :
    H' = H ∧ ∃ v, (Go.convert src dst cx).run P w = .ok v w ∧ Rel π w r v := by
  cases x <;> try (simp [b2s] at hr; done)
  · simp only [b2s, Option.some.injEq, Prod.mk.injEq] at hr
    obtain ⟨rfl, rfl⟩ := hr
    simp only [Rel] at hx; subst hx
    exact ⟨rfl, _, by simp [Go.convert, run_underlying hs, run_underlying hd, run_underlying he, Conv.bytesToString]; rfl, rfl⟩
  · rename_i id off len sz
    simp only [b2s] at hr
    cases hc : srcCells 1 (.slice id off len sz) len H with
    | none => simp [hc] at hr
    | some cs =>
      simp only [hc] at hr
      cases hb : bytesStr cs with
      | none => simp [hb] at hr
      | some t =>
        simp only [hb, Option.some.injEq, Prod.mk.injEq] at hr
        obtain ⟨rfl, rfl⟩ := hr
        obtain ⟨vs, hrun, hl, _⟩ := src_run (P := P) hH hx rfl (Nat.le_refl len) hc
        obtain ⟨ns, e1, rfl⟩ := bytesStr_ns cs vs.toList t hl hb
        simp only [Rel] at hx
        obtain ⟨b, d, o, cap, hp, rfl, hle, hcap⟩ := hx
        simp only [Builtin.firstCells, Nat.mul_one] at hrun
        have hv : vs = (ns.map (Value.int .u8)).toArray := by apply Array.ext'; simpa using e1
        rw [hv] at hrun
        have := run_bytesToString (P := P) w ⟨b, o, none⟩ len cap ns hrun
        refine ⟨rfl, .string ⟨(ns.map fun (n : Int) => UInt8.ofNat n.toNat).toArray⟩, ?_, rfl⟩
        simp only [Go.convert, Sem.run_bind, run_underlying hs, run_underlying hd, Result.andThen_ok, run_underlying he, this]
        rw [foldl_push]
        simp [ByteArray.empty, ByteArray.emptyWithCapacity]
        try rfl

end
end Go.Am

end

section
set_option linter.unusedSimpArgs false
set_option linter.unusedVariables false
/- The abstract machine, part G: stores, appends, copies. -/
namespace Go.Am
section
variable {P : Program}

theorem storeCells_run (g o : Nat) (t : TypeId) (fz : Nat × Nat) : ∀ (vs : List Value) (i : Nat) (cur : Array Value) (w : World), w.heap[g]? = some (.cells cur t fz) → (∀ j, o + i ≤ j → j < o + i + vs.length → ¬(fz.1 ≤ j ∧ j < fz.2)) → o + i + vs.length ≤ cur.size → (∀ v ∈ vs, v.oneCell' = true) →
    (storeCells ⟨g, o, none⟩ vs i).run P w = .ok () (w.setRow g (cur.toList.take (o + i) ++ vs ++ cur.toList.drop (o + i + vs.length)).toArray)
  | [], i, cur, w, hg, _, _, _ => by
    simp only [storeCells, List.append_nil, List.length_nil, Nat.add_zero, List.take_append_drop, Array.toArray_toList]
    rw [setRow_self w g cur t fz hg]
    rfl
  | v :: rest, i, cur, w, hg, hfz, hl, h1 => by
    have hi : o + i < cur.size := by simp at hl; omega
    have hcell : w.cell? ⟨g, o + i, none⟩ = some cur[o + i] := by simp [World.cell?, hg, hi]
    have hfro : w.frozen? ⟨g, o + i, none⟩ = false := by
      have := hfz (o + i) (Nat.le_refl _) (by simp)
      obtain ⟨lo, hi'⟩ := fz
      simp only [World.frozen?, hg]
      simp only at this
      rw [Bool.eq_false_iff]
      intro hc
      simp at hc
      exact this hc
    have hst : (store ((⟨g, o, none⟩ : Addr).add i) v).run P w = .ok () (w.setRow g (cur.setIfInBounds (o + i) v)) := by
      rw [addr_add, run_store P w _ v _ (h1 v (by simp)), hcell]
      simp [hfro, setCell_eq_setRow w g (o + i) cur t fz v hg]
    have ih := storeCells_run g o t fz rest (i + 1) (cur.setIfInBounds (o + i) v) (w.setRow g (cur.setIfInBounds (o + i) v)) (setRow_heap w g cur _ t _ hg) (fun j h h' => hfz j (by omega) (by simp; omega)) (by simp at hl ⊢; omega) (fun x hx => h1 x (by simp [hx]))
    simp only [storeCells, Sem.run_bind, hst, Result.andThen_ok, ih, setRow_setRow]
    congr 3
    have e := list_seg_step cur.toList (o + i) v rest (by simp at hl ⊢; omega)
    simpa [Array.toList_setIfInBounds, Nat.add_assoc] using e
theorem splice_get {α : Type} (l : List α) (o : Nat) (vs : List α) (h : o + vs.length ≤ l.length) (i : Nat) :
    (l.take o ++ vs ++ l.drop (o + vs.length))[i]? = if i < o then l[i]? else if i < o + vs.length then vs[i - o]? else l[i]? := by
  have ht : (l.take o).length = o := by simp; omega
  by_cases h1 : i < o
  · rw [List.append_assoc, List.getElem?_append_left (by rw [ht]; exact h1), List.getElem?_take, if_pos h1, if_pos h1]
  · rw [if_neg h1, List.append_assoc, List.getElem?_append_right (by rw [ht]; omega), ht]
    by_cases h2 : i < o + vs.length
    · rw [List.getElem?_append_left (by omega), if_pos h2]
    · rw [List.getElem?_append_right (by omega), List.getElem?_drop, if_neg h2]
      congr 1
      omega
theorem setRow_other (w : World) (g : Nat) (cs : Array Value) (k : Nat) (h : k ≠ g) : (w.setRow g cs).heap[k]? = w.heap[k]? := by
  simp only [World.setRow, Array.getElem?_modify]
  rw [if_neg (by omega)]
theorem setRow_size (w : World) (g : Nat) (cs : Array Value) : (w.setRow g cs).heap.size = w.heap.size := by simp [World.setRow]
theorem WLe.setRow {w : World} {g : Nat} {cur cs : Array Value} {t : TypeId} {fz : Nat × Nat} (hg : w.heap[g]? = some (.cells cur t fz)) (hs : cs.size = cur.size) : WLe w (w.setRow g cs) := by
  refine ⟨by rw [setRow_size]; exact Nat.le_refl _, fun b c E fr h => ?_⟩
  by_cases e : b = g
  · subst e
    rw [hg] at h
    cases h
    exact ⟨cs, fz, setRow_heap w b cur cs t fz hg, hs⟩
  · exact ⟨c, fr, by rw [setRow_other w g cs b e]; exact h, rfl⟩

/-- A store into a live block. -/
theorem stCells_s {π : PMap} {H H' : AHeap} {w : World} (hH : HRel π H w) {id off : Nat} {xs : List AVal} {r : AVal} (hr : stCells id off xs H = some (r, H')) {b d : Nat} (hp : π id = some (b, d)) {vs : List Value} (hl : RelL π w xs vs) (h1 : ∀ v ∈ vs, v.oneCell' = true) :
    ∃ w', (storeCells ⟨b, d + off, none⟩ vs).run P w = .ok () w' ∧ HRel π H' w' ∧ Ext π H w π H' w' ∧ r = .undef := by
  unfold stCells at hr
  split at hr
  · rename_i c e fz hg
    split at hr
    · rename_i h
      simp only [Option.some.injEq, Prod.mk.injEq] at hr
      obtain ⟨rfl, rfl⟩ := hr
      obtain ⟨b', d', hp', carr, fr, ⟨E', g1, hE⟩, g2, g3, g4⟩ := hH.obj id _ hg
      have hE := hE (by omega)
      rw [hE] at g1
      rw [hp] at hp'
      cases hp'
      have hlen := hl.length
      refine ⟨_, storeCells_run (P := P) b (d + off) _ fr vs 0 carr w g1 (fun j h h' => g4 j (by omega) (by omega)) (by omega) h1, ?_⟩
      simp only [Nat.add_zero]
      have hsz : ((carr.toList.take (d + off) ++ vs ++ carr.toList.drop (d + off + vs.length)).toArray).size = carr.size := by simp; omega
      have hwl : WLe w (w.setRow b (carr.toList.take (d + off) ++ vs ++ carr.toList.drop (d + off + vs.length)).toArray) := WLe.setRow g1 hsz
      have := hH.update (H' := H.set id (.cells (splice c off xs) e fz)) (o := .cells c e fz) (o' := .cells (splice c off xs) e fz) hg rfl rfl (by simp [AObj.wr]; omega) hp (fun i => rfl) rfl hwl (setRow_size _ _ _) (fun k hk => setRow_other _ _ _ _ hk) rfl rfl rfl ?_
      · exact ⟨this.1, this.2, by simp⟩
      · have hsl : (splice c off xs).length = c.length := by simp [splice]; omega
        refine ⟨_, fr, ⟨_, setRow_heap w b carr _ _ fr g1, fun _ => rfl⟩, by rw [hsl, hsz]; exact g2, fun i a ha => ?_, fun i hi hlt => g4 i hi (by rw [hsz] at hlt; exact hlt)⟩
        unfold splice at ha
        rw [splice_get c off xs (by omega)] at ha
        simp only [List.getElem?_toArray]
        rw [splice_get carr.toList (d + off) vs (by simp; omega)]
        by_cases h2 : i < off
        · rw [if_pos h2] at ha
          rw [if_pos (by omega)]
          obtain ⟨v, hv, hr⟩ := g3 i a ha
          exact ⟨v, by simpa using hv, hr.mono (PMap.le_refl _) hwl⟩
        · rw [if_neg h2] at ha
          rw [if_neg (by omega)]
          by_cases h3 : i < off + xs.length
          · rw [if_pos h3] at ha
            rw [if_pos (by omega)]
            obtain ⟨v, hv, hr⟩ := hl.get ha
            refine ⟨v, ?_, hr.mono (PMap.le_refl _) hwl⟩
            rw [show d + i - (d + off) = i - off by omega]
            exact hv
          · rw [if_neg h3] at ha
            rw [if_neg (by omega)]
            obtain ⟨v, hv, hr⟩ := g3 i a ha
            exact ⟨v, by simpa using hv, hr.mono (PMap.le_refl _) hwl⟩
    · cases hr
  · cases hr
theorem st1_s {π : PMap} {H H' : AHeap} {w : World} (hH : HRel π H w) {t : TypeId} {i : TypeInfo} (hi : P.info? t = some i) (hz : i.size = 1) {x y : AVal} {cx cy : Value} (hx : Rel π w x cx) (hy : Rel π w y cy) {r : AVal} (hr : st1 x y H = some (r, H')) :
    ∃ w', (Instr.storeAt t cx cy).run P w = .ok () w' ∧ HRel π H' w' ∧ Ext π H w π H' w' ∧ r = .undef := by
  cases x <;> try (simp [st1, fail] at hr; done)
  rename_i id off
  simp only [st1, bnd_some] at hr
  obtain ⟨z, H1, h1, h2⟩ := hr
  obtain ⟨rfl, u, hu, hzu, hone⟩ := cell1_cells h1 hy
  simp only [Rel] at hx
  obtain ⟨b, d, hp, rfl⟩ := hx
  obtain ⟨w', g1, g2, g3, g4⟩ := stCells_s (P := P) hH h2 hp (RelL.cons hzu RelL.nil) (by simpa using hone)
  exact ⟨w', by simp [Instr.storeAt, Instr.sureAddr, storeVar, run_size hi, hu, hz, g1], g2, g3, g4⟩
theorem stn_s {π : PMap} {H H' : AHeap} {w : World} (hH : HRel π H w) {t : TypeId} {i : TypeInfo} (hi : P.info? t = some i) {x y : AVal} {cx cy : Value} (hx : Rel π w x cx) (hy : Rel π w y cy) {r : AVal} (hr : stn i.size x y H = some (r, H')) :
    ∃ w', (Instr.storeAt t cx cy).run P w = .ok () w' ∧ HRel π H' w' ∧ Ext π H w π H' w' ∧ r = .undef := by
  cases x <;> try (simp [stn, fail] at hr; done)
  rename_i id off
  simp only [stn, bnd_some] at hr
  obtain ⟨z, H1, h1, h2⟩ := hr
  obtain ⟨rfl, hl, hn, hone⟩ := cellsN_cells h1 hy
  simp only [Rel] at hx
  obtain ⟨b, d, hp, rfl⟩ := hx
  obtain ⟨w', g1, g2, g3, g4⟩ := stCells_s (P := P) hH h2 hp hl hone
  have hsz : cy.cells.size = i.size := by have := hl.length; simp at this; omega
  exact ⟨w', by simp [Instr.storeAt, Instr.sureAddr, storeVar, run_size hi, hsz, g1], g2, g3, g4⟩

theorem HRel.kill {π : PMap} {H : AHeap} {w : World} (hH : HRel π H w) {id : Nat} {o : AObj} (ho : H.get id = some o) : HRel π (H.set id .dead) w ∧ Ext π H w π (H.set id .dead) w := by
  refine ⟨⟨fun i x hx => ?_, fun i j x y b e f hx hy lx ly px py => ?_, fun i hi => ?_, fun i hi => ?_, hH.dom⟩, ⟨PMap.le_refl _, WLe.refl _, rfl, rfl, rfl, fun b hb hn => ⟨rfl, ?_⟩⟩⟩
  · simp only [AHeap.set] at hx
    by_cases e : i = id
    · subst e
      simp at hx; subst hx
      obtain ⟨b, d, h1, _⟩ := hH.obj i o ho
      exact ⟨b, d, h1, trivial⟩
    · simp only [e, if_false] at hx; exact hH.obj i x hx
  · simp only [AHeap.set] at hx hy
    by_cases ei : i = id
    · simp [ei] at hx; subst hx; simp [AObj.live] at lx
    · by_cases ej : j = id
      · simp [ej] at hy; subst hy; simp [AObj.live] at ly
      · simp only [ei, if_false] at hx
        simp only [ej, if_false] at hy
        exact hH.inj i j x y b e f hx hy lx ly px py
  · have := hH.live ho
    simp only [AHeap.set] at hi ⊢
    rw [if_neg (by omega)]; exact hH.bnd i hi
  · simp only [AHeap.set] at hi
    by_cases e : i = id
    · simp [e] at hi
    · simp only [e, if_false] at hi; exact hH.unm i hi
  · rintro ⟨i, e, x, hp, hx, hw⟩
    simp only [AHeap.set] at hx
    by_cases ei : i = id
    · simp [ei] at hx; subst hx; simp [AObj.wr] at hw
    · simp only [ei, if_false] at hx; exact hn ⟨i, e, x, hp, hx, hw⟩

/-- The new cells lie behind the old ones, in the old block. -/
theorem HRel.regrow {π : PMap} {H : AHeap} {w w' : World} (hH : HRel π H w) {id b d off fz : Nat} {c new : List AVal} {e : TypeId} (ho : H.get id = some (.cells c e fz)) (hfz : fz ≤ c.length) (hp : π id = some (b, d)) {id' : Nat} (hid : id' = H.next)
    (hw : WLe w w') (hsz : w'.heap.size = w.heap.size) (hoth : ∀ k, k ≠ b → w'.heap[k]? = w.heap[k]?) (hos : w'.os = w.os) (htp : w'.tape = w.tape) (hou : w'.output = w.output)
    (hor : ORel (π.put id' (b, d + off)) w' b (d + off) (.cells (c.drop off ++ new) e (fz - off))) (hwr : fz - off ≤ (c.drop off ++ new).length) :
    HRel (π.put id' (b, d + off)) ((H.set id .dead).push (.cells (c.drop off ++ new) e (fz - off))) w' ∧ Ext π H w (π.put id' (b, d + off)) ((H.set id .dead).push (.cells (c.drop off ++ new) e (fz - off))) w' := by
  subst hid
  have hlt := hH.live ho
  have hle : π.le (π.put H.next (b, d + off)) := PMap.le_put (hH.unm _ (hH.bnd _ (Nat.le_refl _)))
  have hget : ∀ i, ((H.set id .dead).push (.cells (c.drop off ++ new) e (fz - off))).get i = if i = H.next then some (.cells (c.drop off ++ new) e (fz - off)) else if i = id then some .dead else H.get i := fun i => rfl
  refine ⟨⟨fun i x hx => ?_, fun i j x y b' s f hx hy lx ly px py => ?_, fun i hi => ?_, fun i hi => ?_, fun i b' s hq => ?_⟩, ⟨hle, hw, hos, htp, hou, fun k hk hnw => ?_⟩⟩
  · rw [hget] at hx
    by_cases e1 : i = H.next
    · rw [if_pos e1] at hx; cases hx; exact ⟨b, d + off, by simp [PMap.put, e1], hor⟩
    · rw [if_neg e1] at hx
      by_cases e2 : i = id
      · rw [if_pos e2] at hx; cases hx; exact ⟨b, d, hle _ _ (by rw [e2]; exact hp), trivial⟩
      · rw [if_neg e2] at hx
        obtain ⟨b', s, h1, h2⟩ := hH.obj i x hx
        cases hxl : x.live with
        | false =>
          cases x with
          | dead => exact ⟨b', s, hle _ _ h1, trivial⟩
          | cells _ _ _ => simp [AObj.live] at hxl
          | map _ => simp [AObj.live] at hxl
        | true =>
          refine ⟨b', s, hle _ _ h1, h2.congr hw (hoth b' ?_) hle⟩
          intro eb; subst eb
          exact e2 (hH.inj i id x _ b' s d hx ho hxl rfl h1 hp)
  · rw [hget] at hx hy
    simp only [PMap.put] at px py
    by_cases i1 : i = H.next
    · by_cases j1 : j = H.next
      · rw [i1, j1]
      · rw [if_neg j1] at hy py
        rw [if_pos i1] at px
        cases px
        by_cases j2 : j = id
        · rw [if_pos j2] at hy; cases hy; simp [AObj.live] at ly
        · rw [if_neg j2] at hy
          exact absurd (hH.inj j id y _ b f d hy ho ly rfl py hp) j2
    · rw [if_neg i1] at hx px
      by_cases i2 : i = id
      · rw [if_pos i2] at hx; cases hx; simp [AObj.live] at lx
      · rw [if_neg i2] at hx
        by_cases j1 : j = H.next
        · rw [if_pos j1] at py
          cases py
          exact absurd (hH.inj i id x _ b s d hx ho lx rfl px hp) i2
        · rw [if_neg j1] at hy py
          by_cases j2 : j = id
          · rw [if_pos j2] at hy; cases hy; simp [AObj.live] at ly
          · rw [if_neg j2] at hy
            exact hH.inj i j x y b' s f hx hy lx ly px py
  · have hi' : H.next + 1 ≤ i := hi
    rw [hget, if_neg (by omega), if_neg (by omega)]; exact hH.bnd i (by omega)
  · rw [hget] at hi
    by_cases e1 : i = H.next
    · rw [if_pos e1] at hi; cases hi
    · rw [if_neg e1] at hi
      by_cases e2 : i = id
      · rw [if_pos e2] at hi; cases hi
      · rw [if_neg e2] at hi; simp [PMap.put, e1, hH.unm i hi]
  · simp only [PMap.put] at hq
    rw [hsz]
    by_cases e1 : i = H.next
    · rw [if_pos e1] at hq; cases hq; exact hH.dom _ _ _ hp
    · rw [if_neg e1] at hq; exact hH.dom _ _ _ hq
  · have hkb : k ≠ b := fun e' => hnw ⟨id, d, _, by rw [e']; exact hp, ho, by simp [AObj.wr, hfz]⟩
    refine ⟨hoth k hkb, ?_⟩
    rintro ⟨i, s, x, hq, hx, hxw⟩
    rw [hget] at hx
    simp only [PMap.put] at hq
    by_cases e1 : i = H.next
    · rw [if_pos e1] at hq; cases hq; exact hkb rfl
    · rw [if_neg e1] at hq hx
      by_cases e2 : i = id
      · rw [if_pos e2] at hx; cases hx; simp [AObj.wr] at hxw
      · rw [if_neg e2] at hx
        exact hnw ⟨i, s, x, hq, hx, hxw⟩

end
end Go.Am

end

section
set_option linter.unusedSimpArgs false
set_option linter.unusedVariables false
/- The abstract machine, part H: append, copy. -/
namespace Go.Am
section
variable {P : Program}

theorem nextcap_le (need cap : Nat) (h : cap < need) : Builtin.nextslicecap need cap ≤ 4 * need + 1024 := by
  unfold Builtin.nextslicecap
  split
  · omega
  · split
    · omega
    · have : ∀ (r c : Nat), c ≤ 2 * need + 1024 → Builtin.growBy need r c ≤ 4 * need + 1024 := by
        intro r
        induction r with
        | zero => intro c hc; simp [Builtin.growBy]; omega
        | succ r ih =>
          intro c hc
          simp only [Builtin.growBy]
          split
          · omega
          · exact ih _ (by omega)
      exact this 4 cap (by omega)

theorem zeroCells_size (z : Array Value) (n : Nat) : (Builtin.zeroCells z n).size = n * z.size := by simp [Builtin.zeroCells]

def SrcTy (P : Program) (xt : TypeId) : Prop := P.underlying xt = some .string ∨ ∃ e, P.underlying xt = some (.slice e)
/-- What append computes where there is no room. -/
theorem append_grow {w : World} {t xt e : TypeId} (hu : P.underlying t = some (.slice e)) {i : TypeInfo} (hi : P.info? e = some i) (hx : SrcTy P xt) {z : Value} (hz : i.zero = some z)
    {base : Option Addr} {sLen sCap n : Nat} {cx : Value} (hn : (Builtin.lenOf cx).run P w = .ok n w) (hgt : sCap < sLen + n) (hmax : sLen + n ≤ 1073741824) (hby : i.bytes ≤ 4096)
    {old new : Array Value} (ho : (Builtin.firstCells i.size sLen (.slice base sLen sCap)).run P (World.drw w) = .ok old (World.drw w)) (hnew : (Builtin.firstCells i.size n cx).run P (World.drw w) = .ok new (World.drw w)) (ty : TypeId) :
    ∃ cap, sLen + n ≤ cap ∧ (Builtin.append_ #[t, xt] ty #[.slice base sLen sCap, cx]).run P w =
      .ok (.slice (some ⟨w.heap.size, 0, none⟩) (sLen + n) cap) { World.drw w with heap := (World.drw w).heap.push (.cells (old ++ new ++ Builtin.zeroCells z.cells (cap - (sLen + n))) e (0, 0)) } := by
  have h1 : ¬ (sLen + n ≤ sCap) := by omega
  have h2 : ¬ (((sLen + n : Nat) : Int) > IntKind.i64.max ∧ (False ∨ i.bytes = 0)) := by
    have : IntKind.i64.max = 9223372036854775807 := by decide
    rw [this]; omega
  have h3 : ¬ (Builtin.nextslicecap (sLen + n) sCap * i.bytes > 2 ^ 48) := by
    have := nextcap_le (sLen + n) sCap hgt
    have h4 : Builtin.nextslicecap (sLen + n) sCap * i.bytes ≤ (4 * 1073741824 + 1024) * 4096 := Nat.mul_le_mul (by omega) hby
    omega
  have hf : (Question.appendCap (sLen + n) sCap e).forced = false := rfl
  refine ⟨(Question.appendCap (sLen + n) sCap e).cut (w.tape w.drawn (.appendCap (sLen + n) sCap e)), by simp [Question.cut], ?_⟩
  generalize hcap : (Question.appendCap (sLen + n) sCap e).cut (w.tape w.drawn (.appendCap (sLen + n) sCap e)) = cap
  have hch : (choose (.appendCap (sLen + n) sCap e)).run P w = .ok cap (World.drw w) := by
    rw [run_choose, hf, if_neg (by simp), hcap]; rfl
  have hzr := run_zero (P := P) hi hz (World.drw w)
  rcases hx with hx | ⟨e', hx⟩
  · simp only [Builtin.append_, Sem.run_bind, run_underlying hu, run_underlying hx, run_size hi, run_info hi, Result.andThen_ok, Sem.run_pure, List.getElem?_toArray, List.getElem?_cons_zero, List.getElem?_cons_succ, hn, Bool.false_eq_true, if_false, h1, h2, h3, hch, run_askRoom, ho, hnew, Bool.not_false, if_true, hzr, run_newRow]
    rfl
  · simp only [Builtin.append_, Sem.run_bind, run_underlying hu, run_underlying hx, run_size hi, run_info hi, Result.andThen_ok, Sem.run_pure, List.getElem?_toArray, List.getElem?_cons_zero, List.getElem?_cons_succ, hn, Bool.false_eq_true, if_false, h1, h2, h3, hch, run_askRoom, ho, hnew, Bool.not_false, if_true, hzr, run_newRow]
    rfl

/-- What append computes where there is room. -/
theorem append_fit {w w' : World} {t xt e : TypeId} (hu : P.underlying t = some (.slice e)) {i : TypeInfo} (hi : P.info? e = some i) (hx : SrcTy P xt)
    {base : Option Addr} {sLen sCap n : Nat} {cx : Value} (hn : (Builtin.lenOf cx).run P w = .ok n w) (hle : sLen + n ≤ sCap) {new : Array Value} (hnew : (Builtin.firstCells i.size n cx).run P w = .ok new w)
    (hst : ∀ a, base = some a → (storeCells (a.add (sLen * i.size)) new.toList).run P w = .ok () w') (hno : base = none → w' = w) (ty : TypeId) :
    (Builtin.append_ #[t, xt] ty #[.slice base sLen sCap, cx]).run P w = .ok (.slice base (sLen + n) sCap) w' := by
  rcases hx with hx | ⟨e', hx⟩
  all_goals
    simp only [Builtin.append_, Sem.run_bind, run_underlying hu, run_underlying hx, run_size hi, Result.andThen_ok, Sem.run_pure, List.getElem?_toArray, List.getElem?_cons_zero, List.getElem?_cons_succ, hn, Bool.false_eq_true, if_false, hle, if_true, hnew, Bool.not_false]
    cases base with
    | none => have := hno rfl; subst this; simp
    | some a => simp [hst a rfl]

theorem relL_one {π : PMap} {w : World} {xs : List AVal} {vs : List Value} (h : RelL π w xs vs) (hall : xs.all AVal.isCell = true) : ∀ v ∈ vs, v.oneCell' = true := by
  intro v hv
  obtain ⟨i, hi⟩ := List.getElem?_of_mem hv
  have hlt : i < xs.length := by
    rw [h.length]
    rcases Nat.lt_or_ge i vs.length with h' | h'
    · exact h'
    · simp [List.getElem?_eq_none h'] at hi
  have hrel := (RelL.iff_get.1 h).2 i _ _ (List.getElem?_eq_getElem hlt) hi
  simp only [List.all_eq_true] at hall
  exact isCell_one (hall _ (List.getElem_mem hlt)) hrel

theorem appS_s {π : PMap} {w : World} {H H' : AHeap} (hH : HRel π H w) {t xt e : TypeId} (hu : P.underlying t = some (.slice e)) {i : TypeInfo} (hi : P.info? e = some i) (hx : SrcTy P xt) {zs : List AVal} (hz : zcells i = some zs) (hzl : zs.length = i.size)
    {s x : AVal} {cs cx : Value} (hs : Rel π w s cs) (hxr : Rel π w x cx) {r : AVal} (hr : appS e i.size i.bytes s x H = some (r, H')) (ty : TypeId) :
    ∃ v w', (Builtin.append_ #[t, xt] ty #[cs, cx]).run P w = .ok v w' ∧ Sim π H w H' r v w' := by
  obtain ⟨z, hz1, hz2⟩ := zcells_rel (π := π) (w := w) hz
  have hzsz : z.cells.size = i.size := by have := hz2.length; simp at this; omega
  unfold appS at hr
  cases hn : srcLen x with
  | none => simp [hn] at hr
  | some n =>
    simp only [hn] at hr
    cases hc : srcCells i.size x n H with
    | none => simp [hc] at hr
    | some new =>
      simp only [hc] at hr
      have hlen := srcLen_run (P := P) hxr hn
      obtain ⟨vs, hrun, hl, hsz⟩ := src_run (P := P) hH hxr hn (Nat.le_refl n) hc
      obtain ⟨vs', hrun', hl', _⟩ := src_run (P := P) (HRel.drw hH) (hxr.mono (PMap.le_refl _) (WLe.drw w)) hn (Nat.le_refl n) hc
      have hvn : i.size = 0 ∨ new.length = n * i.size := hsz
      have hnl' := hl'.length
      cases s <;> try (simp at hr; done)
      · -- nil
        simp only [Rel] at hs
        subst hs
        simp only at hr
        split at hr
        · rename_i h0
          subst h0
          simp only [Option.some.injEq, Prod.mk.injEq] at hr
          obtain ⟨rfl, rfl⟩ := hr
          exact ⟨_, _, append_fit hu hi hx hlen (by omega) hrun (by simp) (fun _ => rfl) ty, π, by simp [Rel], hH, Ext.refl _ _ _⟩
        · rename_i h0
          split at hr
          · rename_i hb
            simp only [Option.some.injEq, Prod.mk.injEq] at hr
            obtain ⟨rfl, rfl⟩ := hr
            unfold maxLenA at hb
            obtain ⟨cap, hcap, hap⟩ := append_grow (base := none) (sLen := 0) (sCap := 0) hu hi hx hz1 hlen (by omega) (by omega) hb.2 (old := #[]) (by simp [Builtin.firstCells]) hrun' ty
            refine ⟨_, _, hap, ?_⟩
            simp only [Nat.zero_add] at hcap ⊢
            have hal : allocS none e i.size n new H = some (.slice H.next 0 n i.size, H.push (.cells new e 0)) := by simp [allocS, bnd, newB, ret]
            obtain ⟨π', h1, h2, h3⟩ := allocS_s (HRel.drw hH) hal (carr := #[] ++ vs' ++ Builtin.zeroCells z.cells (cap - n)) (fr := (0, 0)) hcap (by
              simp only [Array.size_append, List.size_toArray, List.length_nil, Nat.zero_add, zeroCells_size, hzsz]
              simp only [Array.length_toList] at hnl'
              rcases hvn with h | h
              · rw [h]; simp
              · have : cap * i.size = n * i.size + (cap - n) * i.size := by rw [← Nat.add_mul]; congr 1; omega
                omega) (by simp only [Array.length_toList] at hnl'; simp; omega) (fun k a ha => by
              obtain ⟨v, hv, hr⟩ := hl'.get ha
              refine ⟨v, ?_, hr⟩
              rw [Array.getElem?_toList] at hv
              have hk : k < vs'.size := by
                rcases Nat.lt_or_ge k vs'.size with h | h
                · exact h
                · simp [Array.getElem?_eq_none h] at hv
              simp only [Array.empty_append]
              rw [Array.getElem?_append_left hk]
              exact hv) (by simp)
            exact ⟨π', h1, h2, (Ext.drw π H w).trans h3⟩
          · cases hr
      · rename_i id off len sz
        simp only at hr
        have hs0 := hs
        simp only [Rel] at hs
        obtain ⟨b, d, o, cap, hp, rfl, hle, hcap⟩ := hs
        split at hr
        · rename_i h0
          subst h0
          simp only [Option.some.injEq, Prod.mk.injEq] at hr
          obtain ⟨rfl, rfl⟩ := hr
          have hv0 : vs.toList = [] := by
            have : new = [] := by
              rcases hvn with h | h
              · cases x <;> simp only [srcCells] at hc <;> (try cases hc) <;> try rfl
                all_goals
                  split at hc
                  · first
                      | (split at hc
                         · cases hc; simp
                         · cases hc)
                      | (cases hc; simp)
                  · cases hc
              · exact List.eq_nil_of_length_eq_zero (by simpa using h)
            subst this
            exact RelL.nil_iff.1 hl
          refine ⟨_, _, append_fit hu hi hx hlen (by omega) hrun (w' := w) (fun a ha => by rw [hv0]; rfl) (fun _ => rfl) ty, π, ?_, hH, Ext.refl _ _ _⟩
          simpa using hs0
        · rename_i h0
          split at hr
          · rename_i c e' fz hg
            split at hr
            · rename_i hcond
              obtain ⟨rfl, htip, hfz, hmax, hby, rfl, hall⟩ := hcond
              unfold maxLenA at hmax
              simp only [Option.some.injEq, Prod.mk.injEq] at hr
              obtain ⟨rfl, rfl⟩ := hr
              obtain ⟨b', d', hp', carr, fr, ⟨E', g1, hE⟩, g2, g3, g4⟩ := hH.obj id _ hg
              have hE := hE hfz
              rw [hE] at g1
              rw [hp] at hp'
              cases hp'
              have hnl := hl.length
              simp only [Array.length_toList] at hnl
              by_cases hroom : len + n ≤ cap
              · -- in place
                have hc0 : cap ≠ 0 := by omega
                obtain ⟨rfl, carr0, E0, fr0, hb0, hsz0⟩ := hcap hc0
                rw [g1] at hb0
                cases hb0
                have hfit : d + c.length + new.length ≤ carr.size := by
                  rcases hvn with h | h
                  · have : new.length = 0 ∨ True := .inr trivial
                    have hnew0 : new.length ≤ 0 := by
                      cases x <;> simp only [srcCells] at hc <;> (try cases hc) <;> try simp
                      all_goals
                        split at hc
                        · first
                            | (split at hc
                               · cases hc; simp [h]
                               · cases hc)
                            | (rename_i h1; omega)
                        · cases hc
                    omega
                  · have : (len + n) * i.size ≤ cap * i.size := Nat.mul_le_mul_right _ hroom
                    rw [Nat.add_mul] at this
                    omega
                have hcell : ∀ v ∈ vs.toList, v.oneCell' = true := relL_one hl hall
                have hst := storeCells_run (P := P) b (d + off + len * i.size) e' fr vs.toList 0 carr w g1 (fun j h h' => g4 j (by omega) (by simp only [Array.length_toList] at h'; omega)) (by simp only [Array.length_toList]; omega) hcell
                simp only [Nat.add_zero] at hst
                refine ⟨_, _, append_fit hu hi hx hlen hroom hrun (fun a ha => by cases ha; rw [addr_add]; exact hst) (by simp) ty, ?_⟩
                have hdc : d + off + len * i.size = d + c.length := by omega
                rw [hdc]
                have hvl : vs.toList.length = new.length := by simp; omega
                have hcs : ((carr.toList.take (d + c.length) ++ vs.toList ++ carr.toList.drop (d + c.length + vs.toList.length)).toArray).size = carr.size := by simp; omega
                have hwl := WLe.setRow (cs := (carr.toList.take (d + c.length) ++ vs.toList ++ carr.toList.drop (d + c.length + vs.toList.length)).toArray) g1 hcs
                have hle' : π.le (π.put H.next (b, d + off)) := PMap.le_put (hH.unm _ (hH.bnd _ (Nat.le_refl _)))
                obtain ⟨r1, r2⟩ := hH.regrow (new := new) (off := off) hg hfz hp rfl hwl (setRow_size _ _ _) (fun k hk => setRow_other _ _ _ _ hk) rfl rfl rfl (by
                  refine ⟨_, fr, ⟨_, setRow_heap w b carr _ _ fr g1, fun _ => rfl⟩, ?_, fun k a ha => ?_, fun k hk hlt => g4 k (by omega) (by rw [hcs] at hlt; exact hlt)⟩
                  · rw [hcs]; simp; omega
                  · simp only [List.getElem?_toArray]
                    rw [splice_get carr.toList (d + c.length) vs.toList (by rw [hvl]; simp; omega)]
                    by_cases h1 : k < c.length - off
                    · rw [List.getElem?_append_left (by simpa using h1), List.getElem?_drop] at ha
                      rw [if_pos (by omega)]
                      obtain ⟨v, hv, hr⟩ := g3 _ a ha
                      refine ⟨v, ?_, hr.mono hle' hwl⟩
                      rw [Array.getElem?_toList, ← hv]; congr 1; omega
                    · rw [List.getElem?_append_right (by simp; omega)] at ha
                      obtain ⟨v, hv, hr⟩ := hl.get ha
                      have hk : k - (c.drop off).length < new.length := by
                        rcases Nat.lt_or_ge (k - (c.drop off).length) new.length with h | h
                        · exact h
                        · simp only [List.getElem?_eq_none h] at ha; cases ha
                      simp only [List.length_drop] at hk hv
                      rw [if_neg (by omega), if_pos (by rw [hvl]; omega)]
                      refine ⟨v, ?_, hr.mono hle' hwl⟩
                      rw [← hv]; congr 1; omega) (by simp; omega)
                refine ⟨_, ?_, r1, r2⟩
                refine ⟨b, d + off, d + off, cap, by simp [PMap.put], rfl, hroom, fun _ => ⟨by omega, Room.mono ⟨carr, e', fr, g1, by omega⟩ hwl⟩⟩
              · -- a new block
                have hsrc : srcCells i.size (.slice id off len i.size) len H = some (c.drop off) := by
                  simp only [srcCells, rd, hg, true_and]
                  rw [if_pos (by omega)]
                  congr 1
                  rw [List.take_of_length_le (by simp; omega)]
                obtain ⟨vo, hro, hlo, _⟩ := src_run (P := P) (HRel.drw hH) (hs0.mono (PMap.le_refl _) (WLe.drw w)) (m := len) rfl (Nat.le_refl len) hsrc
                obtain ⟨cap', hcap', hap⟩ := append_grow hu hi hx hz1 hlen (by omega) hmax hby hro hrun' ty
                refine ⟨_, _, hap, ?_⟩
                obtain ⟨k1, k2⟩ := (HRel.drw hH).kill hg
                have hol := hlo.length
                simp only [Array.length_toList, List.length_drop] at hol
                simp only [Array.length_toList] at hnl'
                have hnb : newB none (.cells (c.drop off ++ new) e' 0) (H.set id .dead) = some (H.next, (H.set id .dead).push (.cells (c.drop off ++ new) e' 0)) := rfl
                have hgetc : ∀ (k : Nat) (a : AVal), (c.drop off ++ new)[k]? = some a → ∃ v, (vo ++ vs' ++ Builtin.zeroCells z.cells (cap' - (len + n)))[k]? = some v ∧ Rel π (World.drw w) a v := by
                  intro k a ha
                  obtain ⟨v, hv, hr⟩ := (hlo.append hl').get ha
                  refine ⟨v, ?_, hr⟩
                  have hk : k < (vo ++ vs').size := by
                    rcases Nat.lt_or_ge k (vo ++ vs').size with h | h
                    · exact h
                    · rw [← Array.toList_append, Array.getElem?_toList, Array.getElem?_eq_none h] at hv; cases hv
                  rw [Array.getElem?_append_left hk]
                  rw [← Array.toList_append, Array.getElem?_toList] at hv
                  exact hv
                have hsize : (len + n) * i.size ≤ (c.drop off ++ new).length ∨ i.size = 0 := by
                  rcases hvn with h | h
                  · exact .inr h
                  · left; simp only [List.length_append, List.length_drop, Nat.add_mul]; omega
                have hcs : cap' * i.size ≤ (vo ++ vs' ++ Builtin.zeroCells z.cells (cap' - (len + n))).size := by
                  simp only [Array.size_append, zeroCells_size, hzsz]
                  rcases hsize with h | h
                  · have : cap' * i.size = (len + n) * i.size + (cap' - (len + n)) * i.size := by rw [← Nat.add_mul]; congr 1; omega
                    simp only [List.length_append, List.length_drop] at h
                    omega
                  · rw [h]; omega
                have hnew := (k1.alloc (H' := (H.set id .dead).push (.cells (c.drop off ++ new) e' (fz - off))) (id := H.next) (o := .cells (c.drop off ++ new) e' (fz - off)) (co := .cells (vo ++ vs' ++ Builtin.zeroCells z.cells (cap' - (len + n))) e' (0, 0)) (d := 0)
                  (k1.bnd _ (Nat.le_refl _)) (fun _ => rfl) (by simp [AHeap.push]) (by simp [AHeap.push, AHeap.set]) (by
                    refine ⟨vo ++ vs' ++ Builtin.zeroCells z.cells (cap' - (len + n)), (0, 0), ⟨_, by simp, fun _ => rfl⟩, by simp only [List.length_append, List.length_drop, Array.size_append]; omega, fun k a ha => ?_, fun k _ _ => by simp⟩
                    obtain ⟨v, hv, hr⟩ := hgetc k a ha
                    exact ⟨v, by simpa using hv, hr.mono (PMap.le_put (k1.unm _ (k1.bnd _ (Nat.le_refl _)))) (WLe.push _ _)⟩))
                refine ⟨_, ?_, hnew.1, ((Ext.drw π H w).trans k2).trans hnew.2⟩
                exact ⟨w.heap.size, 0, 0, cap', by simp [PMap.put, World.drw], rfl, hcap', fun _ => ⟨rfl, ⟨vo ++ vs' ++ Builtin.zeroCells z.cells (cap' - (len + n)), e', (0, 0), by show (w.heap.push _)[w.heap.size]? = _; simp, by simpa using hcs⟩⟩⟩
            · cases hr
          · cases hr

theorem copyS_s {π : PMap} {w : World} {H H' : AHeap} (hH : HRel π H w) {t xt e : TypeId} (hu : P.underlying t = some (.slice e)) {i : TypeInfo} (hi : P.info? e = some i)
    {s x : AVal} {cs cx : Value} (hs : Rel π w s cs) (hxr : Rel π w x cx) {r : AVal} (hr : copyS i.size s x H = some (r, H')) (ty : TypeId) :
    ∃ v w', (Builtin.copy_ #[t, xt] ty #[cs, cx]).run P w = .ok v w' ∧ Sim π H w H' r v w' := by
  unfold copyS at hr
  cases hn : srcLen x with
  | none => simp [hn] at hr
  | some n =>
    cases hm : srcLen s with
    | none => simp [hn, hm] at hr
    | some m =>
      simp only [hn, hm] at hr
      cases hc : srcCells i.size x (min n m) H with
      | none => simp [hc] at hr
      | some new =>
        simp only [hc] at hr
        have hlen := srcLen_run (P := P) hxr hn
        obtain ⟨vs, hrun, hl, hsz⟩ := src_run (P := P) hH hxr hn (Nat.min_le_left n m) hc
        cases s <;> try (simp at hr; done)
        · simp only [Option.some.injEq, Prod.mk.injEq] at hr
          obtain ⟨rfl, rfl⟩ := hr
          simp only [srcLen, Option.some.injEq] at hm
          subst hm
          simp only [Rel] at hs; subst hs
          refine ⟨goInt 0, w, ?_, π, rfl, hH, Ext.refl _ _ _⟩
          have : n.min 0 = min n 0 := rfl
          simp only [Builtin.copy_, Sem.run_bind, run_underlying hu, Result.andThen_ok, hlen, run_size hi, List.getElem?_toArray, List.getElem?_cons_zero, List.getElem?_cons_succ, this, hrun, Sem.run_pure]
          simp
        · rename_i id off len sz
          simp only [srcLen, Option.some.injEq] at hm
          subst hm
          simp only [Rel] at hs
          obtain ⟨b, d, o, cap, hp, rfl, hle, hcap⟩ := hs
          simp only at hr
          split at hr
          · rename_i hcond
            obtain ⟨rfl, hall⟩ := hcond
            have hmin : n.min len = min n len := rfl
            split at hr
            · rename_i h0
              simp only [Option.some.injEq, Prod.mk.injEq] at hr
              obtain ⟨rfl, rfl⟩ := hr
              have hv0 : vs.toList = [] := by
                rw [h0] at hc
                have : new = [] := by
                  cases x <;> simp only [srcCells] at hc <;> (try cases hc) <;> try rfl
                  all_goals
                    split at hc
                    · first
                        | (split at hc
                           · cases hc; simp
                           · cases hc)
                        | (cases hc; simp)
                    · cases hc
                subst this
                exact RelL.nil_iff.1 hl
              refine ⟨goInt (min n len : Nat), w, ?_, π, by rw [h0]; rfl, hH, Ext.refl _ _ _⟩
              simp only [Builtin.copy_, Sem.run_bind, run_underlying hu, Result.andThen_ok, hlen, run_size hi, List.getElem?_toArray, List.getElem?_cons_zero, List.getElem?_cons_succ, hmin, hrun, Sem.run_pure, hv0, storeCells]
            · rename_i h0
              cases hst : stCells id off new H with
              | none => simp [hst] at hr
              | some q =>
                obtain ⟨u, H1⟩ := q
                simp only [hst, Option.some.injEq, Prod.mk.injEq] at hr
                obtain ⟨rfl, rfl⟩ := hr
                have hc0 : cap ≠ 0 := by omega
                obtain ⟨rfl, _⟩ := hcap hc0
                obtain ⟨w', g1, g2, g3, _⟩ := stCells_s (P := P) hH hst hp hl (relL_one hl hall)
                refine ⟨goInt (min n len : Nat), w', ?_, π, rfl, g2, g3⟩
                simp only [Builtin.copy_, Sem.run_bind, run_underlying hu, Result.andThen_ok, hlen, run_size hi, List.getElem?_toArray, List.getElem?_cons_zero, List.getElem?_cons_succ, hmin, hrun, Sem.run_pure, g1]
          · cases hr

end
end Go.Am

end

section
set_option linter.unusedSimpArgs false
set_option linter.unusedVariables false
/- The abstract machine, part I: maps. -/
namespace Go.Am
open Go.MapKept
section
variable {P : Program}

theorem goodKey_is {π : PMap} {w : World} {d : TypeDesc} {k : AVal} {ck : Value} (h : goodKey d k = true) (hk : Rel π w k ck) : IsKey d ck := by
  cases d <;> cases k <;> simp_all [goodKey, Rel, IsKey]
theorem keyEq_now {π : PMap} {w : World} {d : TypeDesc} {k k' : AVal} {ck ck' : Value} (hg : goodKey d k = true) (hk : Rel π w k ck) (hk' : Rel π w k' ck') {b : Bool} (h : keyEq k k' = some b) :
    Instr.sameNow d ck ck' = some b ∧ (b = true → ck' = ck) := by
  cases d <;> cases k <;> simp only [goodKey] at hg <;> try (cases hg; done)
  all_goals
    cases k' <;> simp only [keyEq] at h <;> try (cases h; done)
    simp only [Rel] at hk hk'
    subst hk; subst hk'
  · cases h
    rename_i x y
    refine ⟨by simp [Instr.sameNow], fun h => ?_⟩
    have : x = y := by simpa using h
    rw [this]
  · split at h
    · rename_i hkk
      cases h
      subst hkk
      refine ⟨by simp [Instr.sameNow], fun h => ?_⟩
      have := by simpa using h
      rw [this]
    · cases h
  · cases h
    rename_i x y
    have hb : ((ByteArray.mk x.toArray) == (ByteArray.mk y.toArray)) = (x == y) := by
      rw [Bool.eq_iff_iff, bytes_beq]
      constructor
      · intro e
        have : x.toArray = y.toArray := by injection e
        have : x = y := by simpa using this
        simp [this]
      · intro e
        have : x = y := by simpa using e
        rw [this]
    refine ⟨by simp only [Instr.sameNow, hb], fun h => ?_⟩
    have : x = y := by simpa using h
    rw [this]

theorem findK_now {π : PMap} {w : World} {d : TypeDesc} {k : AVal} {ck : Value} (hg : goodKey d k = true) (hk : Rel π w k ck) : ∀ (es : List (AVal × AVal)) (ces : List MapEntry) (n : Nat),
    RelL π w (es.map Prod.fst) (ces.map (·.key)) → RelL π w (es.map Prod.snd) (ces.map (·.val)) → ∀ {r : Option AVal}, findK k es = some r →
    (r = none ∧ Instr.findNow d ck ces n = some none) ∨ ∃ v j e, r = some v ∧ Instr.findNow d ck ces n = some (some (n + j, e.val)) ∧ ces[j]? = some e ∧ e.key = ck ∧ Rel π w v e.val
  | [], ces, n, h1, h2, r, h => by
    simp only [findK, Option.some.injEq] at h
    subst h
    cases ces with
    | nil => exact .inl ⟨rfl, rfl⟩
    | cons e ces => simp [RelL] at h1
  | (k', v) :: es, ces, n, h1, h2, r, h => by
    cases ces with
    | nil => simp [RelL] at h1
    | cons e ces =>
      simp only [List.map_cons, RelL] at h1 h2
      simp only [findK] at h
      cases hq : keyEq k k' with
      | none => simp [hq] at h
      | some b =>
        obtain ⟨s1, s2⟩ := keyEq_now hg hk h1.1 hq
        cases b with
        | true =>
          simp only [hq, Option.some.injEq] at h
          subst h
          exact .inr ⟨v, 0, e, rfl, by simp [Instr.findNow, s1], rfl, s2 rfl, h2.1⟩
        | false =>
          simp only [hq] at h
          rcases findK_now hg hk es ces (n + 1) h1.2 h2.2 h with ⟨rfl, hf⟩ | ⟨v', j, e', rfl, hf, hj, hke, hr⟩
          · exact .inl ⟨rfl, by simp [Instr.findNow, s1, hf]⟩
          · exact .inr ⟨v', j + 1, e', rfl, by simp [Instr.findNow, s1, hf]; omega, by simpa using hj, hke, hr⟩

theorem map_at {π : PMap} {H : AHeap} {w : World} (hH : HRel π H w) {id : Nat} {es : List (AVal × AVal)} (hg : H.get id = some (.map es)) {b d : Nat} (hp : π id = some (b, d)) :
    ∃ ces clock, w.heap[b]? = some (.map ces clock) ∧ RelL π w (es.map Prod.fst) (ces.toList.map (·.key)) ∧ RelL π w (es.map Prod.snd) (ces.toList.map (·.val)) := by
  obtain ⟨b', d', hp', h⟩ := hH.obj id _ hg
  rw [hp] at hp'
  cases hp'
  exact h

theorem lkp_s {π : PMap} {H H' : AHeap} {w : World} (hH : HRel π H w) {t kt e : TypeId} (ht : P.underlying t = some (.map kt e)) {d : TypeDesc} (hd : P.underlying kt = some d) {i : TypeInfo} (hi : P.info? e = some i) {z : AVal} (hz : zero1 i = some z) {ok : Bool}
    {m k : AVal} {cm ck : Value} (hm : Rel π w m cm) (hk : Rel π w k ck) {r : AVal} (hr : lkp d z ok m k H = some (r, H')) :
    H' = H ∧ ∃ v, (Instr.lookup t cm ck ok).run P w = .ok v w ∧ Rel π w r v := by
  unfold zero1 at hz
  split at hz
  · rename_i zv hzv
    cases hz
    have hzr := rel_absC π w zv
    unfold lkp at hr
    split at hr
    · rename_i hg
      have hkey := goodKey_is hg hk
      cases m <;> try (simp at hr; done)
      · simp only [Option.some.injEq, Prod.mk.injEq] at hr
        obtain ⟨rfl, rfl⟩ := hr
        simp only [Rel] at hm; subst hm
        have hf : Instr.findNow d ck [] 0 = some none := rfl
        refine ⟨rfl, if ok then .tuple #[zv, .bool false] else zv, ?_, ?_⟩
        · simp [Instr.lookup, run_underlying ht, run_checkKey hd hkey, run_findKey hd hf, run_zero hi hzv]
        · cases ok
          · exact hzr
          · exact ⟨_, rfl, RelL.cons hzr (RelL.cons rfl RelL.nil)⟩
      · rename_i id
        simp only at hr
        split at hr
        · rename_i es hget
          simp only [Rel] at hm
          obtain ⟨b, dd, hp, rfl⟩ := hm
          obtain ⟨ces, clock, hb, h1, h2⟩ := map_at hH hget hp
          split at hr
          · rename_i v hv
            simp only [Option.some.injEq, Prod.mk.injEq] at hr
            obtain ⟨rfl, rfl⟩ := hr
            rcases findK_now hg hk es ces.toList 0 h1 h2 hv with ⟨h, _⟩ | ⟨v', j, e', h, hf, hj, hke, hrv⟩
            · cases h
            · cases h
              refine ⟨rfl, if ok then .tuple #[e'.val, .bool true] else e'.val, ?_, ?_⟩
              · simp [Instr.lookup, run_underlying ht, MapKept.run_getObj_map hb, run_checkKey hd hkey, run_findKey hd hf]
              · cases ok
                · exact hrv
                · exact ⟨_, rfl, RelL.cons hrv (RelL.cons rfl RelL.nil)⟩
          · rename_i hv
            simp only [Option.some.injEq, Prod.mk.injEq] at hr
            obtain ⟨rfl, rfl⟩ := hr
            rcases findK_now hg hk es ces.toList 0 h1 h2 hv with ⟨_, hf⟩ | ⟨v', j, e', h, _⟩
            · refine ⟨rfl, if ok then .tuple #[zv, .bool false] else zv, ?_, ?_⟩
              · simp [Instr.lookup, run_underlying ht, MapKept.run_getObj_map hb, run_checkKey hd hkey, run_findKey hd hf, run_zero hi hzv]
              · cases ok
                · exact hzr
                · exact ⟨_, rfl, RelL.cons hzr (RelL.cons rfl RelL.nil)⟩
            · cases h
          · cases hr
        · cases hr
    · cases hr
  · cases hz

theorem lenM_s {π : PMap} {H H' : AHeap} {w : World} (hH : HRel π H w) {t kt e ty : TypeId} (ht : P.underlying t = some (.map kt e)) {m : AVal} {cm : Value} (hm : Rel π w m cm) {r : AVal} (hr : lenM m H = some (r, H')) :
    H' = H ∧ ∃ v, (Builtin.len_ #[t] ty #[cm]).run P w = .ok v w ∧ Rel π w r v := by
  unfold lenM at hr
  cases m <;> try (simp at hr; done)
  · simp only [Option.some.injEq, Prod.mk.injEq] at hr
    obtain ⟨rfl, rfl⟩ := hr
    simp only [Rel] at hm; subst hm
    exact ⟨rfl, goInt 0, by simp [Builtin.len_, run_underlying ht], rfl⟩
  · rename_i id
    simp only at hr
    split at hr
    · rename_i es hget
      simp only [Option.some.injEq, Prod.mk.injEq] at hr
      obtain ⟨rfl, rfl⟩ := hr
      simp only [Rel] at hm
      obtain ⟨b, dd, hp, rfl⟩ := hm
      obtain ⟨ces, clock, hb, h1, h2⟩ := map_at hH hget hp
      have : es.length = ces.size := by have := h1.length; simpa using this
      refine ⟨rfl, goInt ces.size, by simp [Builtin.len_, run_underlying ht, MapKept.run_getObj_map hb], ?_⟩
      rw [this]; rfl
    · cases hr

theorem newM_s {π : PMap} {H H' : AHeap} {w : World} (hH : HRel π H w) {rs : Option Nat} {r : AVal} (hr : newM rs H = some (r, H')) : Sim π H w H' r (.map (some w.heap.size)) { w with heap := w.heap.push (.map #[] 0) } := by
  simp only [newM, bnd_some] at hr
  obtain ⟨id, H1, h1, h2⟩ := hr
  obtain ⟨rfl, rfl⟩ := ret_some.1 h2
  obtain ⟨g1, g2, g3, g4⟩ := newB_spec hH h1
  obtain ⟨a1, a2⟩ := hH.alloc (co := .map #[] 0) (d := 0) g1 g2 g3 g4 ⟨#[], 0, by simp, by simp [RelL], by simp [RelL]⟩
  exact ⟨_, ⟨w.heap.size, 0, by simp [PMap.put], rfl⟩, a1, a2⟩

theorem setK_now {π : PMap} {w : World} {d : TypeDesc} {k v : AVal} {ck cv : Value} (hg : goodKey d k = true) (hk : Rel π w k ck) (hv : Rel π w v cv) : ∀ (es : List (AVal × AVal)) (ces : List MapEntry) (n : Nat),
    RelL π w (es.map Prod.fst) (ces.map (·.key)) → RelL π w (es.map Prod.snd) (ces.map (·.val)) → ∀ {es' : List (AVal × AVal)}, setK k v es = some es' →
    (Instr.findNow d ck ces n = some none ∧ es' = es ++ [(k, v)]) ∨ ∃ j e, Instr.findNow d ck ces n = some (some (n + j, e.val)) ∧ ces[j]? = some e ∧ e.key = ck ∧
      RelL π w (es'.map Prod.fst) (ces.map (·.key)) ∧ RelL π w (es'.map Prod.snd) ((ces.map (·.val)).set j cv)
  | [], ces, n, h1, h2, es', h => by
    simp only [setK, Option.some.injEq] at h
    subst h
    cases ces with
    | nil => exact .inl ⟨rfl, rfl⟩
    | cons e ces => simp [RelL] at h1
  | (k', v') :: es, ces, n, h1, h2, es', h => by
    cases ces with
    | nil => simp [RelL] at h1
    | cons e ces =>
      simp only [List.map_cons, RelL] at h1 h2
      simp only [setK] at h
      cases hq : keyEq k k' with
      | none => simp [hq] at h
      | some b =>
        obtain ⟨s1, s2⟩ := keyEq_now hg hk h1.1 hq
        cases b with
        | true =>
          simp only [hq, Option.some.injEq] at h
          subst h
          refine .inr ⟨0, e, by simp [Instr.findNow, s1], rfl, s2 rfl, ?_, ?_⟩
          · simp only [List.map_cons, RelL]
            exact ⟨by rw [s2 rfl]; exact hk, h1.2⟩
          · simp only [List.map_cons, List.set_cons_zero, RelL]
            exact ⟨hv, h2.2⟩
        | false =>
          simp only [hq] at h
          cases hs : setK k v es with
          | none => simp [hs] at h
          | some r' =>
            simp only [hs, Option.some.injEq] at h
            subst h
            rcases setK_now hg hk hv es ces (n + 1) h1.2 h2.2 hs with ⟨hf, rfl⟩ | ⟨j, e', hf, hj, hke, h3, h4⟩
            · exact .inl ⟨by simp [Instr.findNow, s1, hf], rfl⟩
            · refine .inr ⟨j + 1, e', by simp [Instr.findNow, s1, hf]; omega, by simpa using hj, hke, ?_, ?_⟩
              · simp only [List.map_cons, RelL]; exact ⟨h1.1, h3⟩
              · simp only [List.map_cons, List.set_cons_succ, RelL]; exact ⟨h2.1, h4⟩

theorem sameBits_key {d : TypeDesc} {k : Value} (h : IsKey d k) : Instr.sameBits 10000 k k = true := by
  cases d <;> cases k <;> simp_all [IsKey, Instr.sameBits]
  exact (bytes_beq _ _).2 rfl
theorem WLe.setMap {w : World} {b : Nat} {ces ces' : Array MapEntry} {clock clock' : Nat} (hb : w.heap[b]? = some (.map ces clock)) : WLe w { w with heap := w.heap.setIfInBounds b (.map ces' clock') } := by
  refine ⟨by simp, fun k c E fr h => ⟨c, fr, ?_, rfl⟩⟩
  have hne : b ≠ k := fun e => by subst e; rw [hb] at h; cases h
  simpa [Array.getElem?_setIfInBounds_ne hne] using h
theorem mupd_s {π : PMap} {H H' : AHeap} {w : World} (hH : HRel π H w) {t kt e : TypeId} (ht : P.underlying t = some (.map kt e)) {d : TypeDesc} (hd : P.underlying kt = some d)
    {m k v : AVal} {cm ck cv : Value} (hm : Rel π w m cm) (hk : Rel π w k ck) (hv : Rel π w v cv) {r : AVal} (hr : mupd d m k v H = some (r, H')) :
    ∃ w', (Instr.mapUpdate t cm ck cv).run P w = .ok () w' ∧ HRel π H' w' ∧ Ext π H w π H' w' ∧ r = .undef := by
  unfold mupd at hr
  split at hr
  · rename_i hg
    have hkey := goodKey_is hg hk
    cases m <;> try (simp at hr; done)
    rename_i id
    simp only at hr
    split at hr
    · rename_i es hget
      split at hr
      · rename_i es' hs
        simp only [Option.some.injEq, Prod.mk.injEq] at hr
        obtain ⟨rfl, rfl⟩ := hr
        simp only [Rel] at hm
        obtain ⟨b, dd, hp, rfl⟩ := hm
        obtain ⟨ces, clock, hb, h1, h2⟩ := map_at hH hget hp
        have hfin : ∀ (ces' : Array MapEntry) (clock' : Nat), RelL π w (es'.map Prod.fst) (ces'.toList.map (·.key)) → RelL π w (es'.map Prod.snd) (ces'.toList.map (·.val)) →
            HRel π (H.set id (.map es')) { w with heap := w.heap.setIfInBounds b (.map ces' clock') } ∧ Ext π H w π (H.set id (.map es')) { w with heap := w.heap.setIfInBounds b (.map ces' clock') } := by
          intro ces' clock' r1 r2
          have hwl := WLe.setMap (ces' := ces') (clock' := clock') hb
          exact hH.update (o := .map es) (o' := .map es') hget rfl rfl rfl hp (fun i => rfl) rfl hwl (by simp) (fun j hj => by simp [Array.getElem?_setIfInBounds_ne (Ne.symm hj)]) rfl rfl rfl
            ⟨ces', clock', (heap_set hb).1, r1.mono (PMap.le_refl _) hwl, r2.mono (PMap.le_refl _) hwl⟩
        rcases setK_now hg hk hv es ces.toList 0 h1 h2 hs with ⟨hf, rfl⟩ | ⟨j, e', hf, hj, hke, h3, h4⟩
        · obtain ⟨f1, f2⟩ := hfin (ces.push { key := ck, val := cv, born := clock }) (clock + 1) (by simpa using h1.append (RelL.cons hk RelL.nil)) (by simpa using h2.append (RelL.cons hv RelL.nil))
          refine ⟨_, ?_, f1, f2, by simp⟩
          simp [Instr.mapUpdate, run_underlying ht, MapKept.run_getObj_map hb, run_checkKey hd hkey, run_findKey hd hf, run_setObj_map _ hb]
        · have hold : ((ces[0 + j]?).map (·.key)).getD ck = ck := by
            have : ces[j]? = some e' := by simpa using hj
            simp [this, hke]
          obtain ⟨f1, f2⟩ := hfin (ces.modify (0 + j) fun x => { x with key := ck, val := cv }) clock (by
              rw [modify_keys]
              · exact h3
              · intro x hx
                have : ces[j]? = some e' := by simpa using hj
                simp only [Nat.zero_add] at hx
                rw [this] at hx
                cases hx
                exact hke.symm) (by
              have : (ces.modify (0 + j) fun x => { x with key := ck, val := cv }).toList.map (·.val) = (ces.toList.map (·.val)).set j cv := by
                apply List.ext_getElem?
                intro q
                simp only [List.getElem?_map, Array.getElem?_toList, Array.getElem?_modify, Nat.zero_add, List.getElem?_set]
                by_cases hq : j = q
                · subst hq
                  have : ces[j]? = some e' := by simpa using hj
                  have hlt : j < ces.size := (Array.getElem?_eq_some_iff.1 this).1
                  simp [this, hlt]
                · simp [hq]
              rw [this]; exact h4)
          refine ⟨_, ?_, f1, f2, by simp⟩
          have hks : (Instr.keyThatStays ck ck).run P w = .ok ck w := by simp [Instr.keyThatStays, sameBits_key hkey]
          simp only [Instr.mapUpdate, Sem.run_bind, run_underlying ht, Result.andThen_ok, MapKept.run_getObj_map hb, run_checkKey hd hkey, run_findKey hd hf, hold, hks, run_setObj_map _ hb]
      · cases hr
    · cases hr
  · cases hr

end
end Go.Am

end

section
set_option linter.unusedSimpArgs false
set_option linter.unusedVariables false
/- The abstract machine, part J: one operation. -/
namespace Go.Am
section
variable {P : Program}

def OpOK (P : Program) (o : Oper) (a : Act) (w : World) (Post : Value → World → Prop) : Prop :=
  match (execOp a.eval o).run P w with
  | .ok (.value v) w' => Post v w'
  | .ok .skip w' => Post Go.undef w'
  | .ok (.enter f args) w' => Calls P f args w' fun e w'' => ∃ v, e = .returned v ∧ Post v w''
  | _ => False
/-- What is known of a function: where it is entered, and that it does what its abstract counterpart does. -/
structure FnSound (P : Program) (f : FuncId) (F : List AVal → AM AVal) : Prop where
  enter : ∀ args w, (callFunc f args).run P w = .ok (.enter f args) w
  sound : ∀ {args : List AVal} {H H' : AHeap} {v : AVal} {π : PMap} {w : World} {vs : Array Value}, F args H = some (v, H') → HRel π H w → RelL π w args vs.toList →
    Calls P f vs w fun e w' => ∃ v', e = .returned v' ∧ Sim π H w H' v v' w'
def CSound (P : Program) (C : CallTab) : Prop := ∀ f args H r, C f args H = some r → ∃ F, FnSound P f F ∧ F args H = some r

theorem opOK_pure {π : PMap} {H H' : AHeap} {w : World} {o : Oper} {a : Act} {r : AVal} (hH : HRel π H w) {s : Sem Value} (he : execOp a.eval o = (do pure (.value (← s)))) (h : H' = H ∧ ∃ v, s.run P w = .ok v w ∧ Rel π w r v) :
    OpOK P o a w (Sim π H w H' r) := by
  obtain ⟨rfl, v, hv, hr⟩ := h
  unfold OpOK
  rw [he]
  simp only [Sem.run_bind, hv, Result.andThen_ok, Sem.run_pure]
  exact ⟨π, hr, hH, Ext.refl _ _ _⟩
theorem opOK_sim {π : PMap} {H H' : AHeap} {w : World} {o : Oper} {a : Act} {r : AVal} {s : Sem Value} (he : execOp a.eval o = (do pure (.value (← s)))) (h : ∃ v w', s.run P w = .ok v w' ∧ Sim π H w H' r v w') :
    OpOK P o a w (Sim π H w H' r) := by
  obtain ⟨v, w', hv, hs⟩ := h
  unfold OpOK
  rw [he]
  simp only [Sem.run_bind, hv, Result.andThen_ok, Sem.run_pure]
  exact hs
theorem opOK_unit {π : PMap} {H H' : AHeap} {w : World} {o : Oper} {a : Act} {r : AVal} {s : Sem Unit} (he : execOp a.eval o = (do s; pure .skip)) (h : ∃ w', s.run P w = .ok () w' ∧ HRel π H' w' ∧ Ext π H w π H' w' ∧ r = .undef) :
    OpOK P o a w (Sim π H w H' r) := by
  obtain ⟨w', hv, hs, hx, rfl⟩ := h
  unfold OpOK
  rw [he]
  simp only [Sem.run_bind, hv, Result.andThen_ok, Sem.run_pure]
  exact ⟨π, trivial, hs, hx⟩

theorem relL_map {π : PMap} {w : World} {env : Env} {a : Act} (hev : ∀ x, Rel π w (ev env x) (a.eval x)) : ∀ (xs : List Operand), RelL π w (xs.map (ev env)) (xs.map a.eval)
  | [] => by simp [RelL]
  | x :: xs => by simp only [List.map_cons, RelL]; exact ⟨hev x, relL_map hev xs⟩
theorem parts_fst {env : Env} {a : Act} (ps : Array (Nat × Operand)) : (ps.toList.map fun (i, x) => (i, ev env x)).map Prod.fst = (ps.map fun (i, x) => (i, a.eval x)).toList.map Prod.fst := by
  simp
theorem parts_snd {π : PMap} {w : World} {env : Env} {a : Act} (hev : ∀ x, Rel π w (ev env x) (a.eval x)) (ps : Array (Nat × Operand)) :
    RelL π w ((ps.toList.map fun (i, x) => (i, ev env x)).map Prod.snd) ((ps.map fun (i, x) => (i, a.eval x)).toList.map Prod.snd) := by
  have := relL_map hev (ps.toList.map Prod.snd)
  simpa [Function.comp_def] using this

theorem abuiltin_s {π : PMap} {H H' : AHeap} {w : World} {o : Oper} {a : Act} {r : AVal} (hH : HRel π H w) {b : Builtin} {c : Call} (ho : o.op = .call c) (hb : c.callee = .builtin b) {args : List AVal} (hargs : RelL π w args (c.args.map a.eval).toList)
    (hr : abuiltin P b c.argTypes args H = some (r, H')) : OpOK P o a w (Sim π H w H' r) := by
  have hex : ∀ (s : Sem Value), builtin b c.argTypes o.type (c.args.map fun | .const _ => true | _ => false) (c.args.map a.eval) = (do pure (.value (← s))) → execOp a.eval o = (do pure (.value (← s))) := by
    intro s hs
    simp only [execOp, ho, resolve, hb, pure_bind, invoke]
    exact hs
  generalize hA : c.args.map a.eval = cargs at hargs hex
  generalize c.argTypes = ts at hr hex
  have two : ∀ {s x : AVal}, args = [s, x] → ∃ cs cx, cargs = #[cs, cx] ∧ Rel π w s cs ∧ Rel π w x cx := by
    intro s x e
    subst e
    obtain ⟨cs, l1, e1, hs, h2⟩ := RelL.cons_iff.1 hargs
    obtain ⟨cx, l2, e2, hx, h3⟩ := RelL.cons_iff.1 h2
    have := RelL.nil_iff.1 h3; subst this; subst e2
    exact ⟨cs, cx, by apply Array.ext'; simpa using e1, hs, hx⟩
  cases b <;> simp only [abuiltin, fail_some] at hr
  case append =>
    rcases hl : ts.toList with _ | ⟨t, _ | ⟨xt, _ | ⟨q, qs⟩⟩⟩ <;> simp only [hl, fail_some] at hr
    rcases args with _ | ⟨s, _ | ⟨x, _ | ⟨q, qs⟩⟩⟩ <;> simp only [fail_some] at hr
    obtain ⟨cs, cx, rfl, hs, hx⟩ := two rfl
    have hts' : ts = #[t, xt] := by apply Array.ext'; simpa using hl
    subst hts'
    have hE := hex (Builtin.append_ #[t, xt] o.type #[cs, cx]) rfl
    cases hu : P.underlying t with
    | none => simp [abApp, hu, fail] at hr
    | some dd =>
      cases dd <;> try (simp [abApp, hu, fail] at hr; done)
      rename_i e
      simp only [abApp, hu] at hr
      have key : SrcTy P xt → (ty P e fun i => match zcells i with
          | some zs => if zs.length = i.size then appS e i.size i.bytes s x else fail
          | none => fail) H = some (r, H') → OpOK P o a w (Sim π H w H' r) := by
        intro hsrc hr
        obtain ⟨i, hi, hr⟩ := ty_some.1 hr
        cases hz : zcells i with
        | none => simp [hz, fail] at hr
        | some zs =>
          simp only [hz] at hr
          split at hr
          · rename_i hzl
            exact opOK_sim hE (appS_s hH hu hi hsrc hz hzl hs hx hr _)
          · simp [fail] at hr
      cases hu' : P.underlying xt with
      | none => simp [hu', fail] at hr
      | some dx =>
        cases dx <;> try (simp [hu', fail] at hr; done)
        · simp only [hu'] at hr; exact key (.inl hu') hr
        · rename_i e'; simp only [hu'] at hr; exact key (.inr ⟨e', hu'⟩) hr
  case copy =>
    rcases hl : ts.toList with _ | ⟨t, _ | ⟨xt, _ | ⟨q, qs⟩⟩⟩ <;> simp only [hl, fail_some] at hr
    rcases args with _ | ⟨s, _ | ⟨x, _ | ⟨q, qs⟩⟩⟩ <;> simp only [fail_some] at hr
    obtain ⟨cs, cx, rfl, hs, hx⟩ := two rfl
    have hts' : ts = #[t, xt] := by apply Array.ext'; simpa using hl
    subst hts'
    have hE := hex (Builtin.copy_ #[t, xt] o.type #[cs, cx]) rfl
    cases hu : P.underlying t with
    | none => simp [abCopy, hu, fail] at hr
    | some dd =>
      cases dd <;> try (simp [abCopy, hu, fail] at hr; done)
      rename_i e
      simp only [abCopy, hu] at hr
      obtain ⟨i, hi, hr⟩ := ty_some.1 hr
      exact opOK_sim hE (copyS_s hH hu hi hs hx hr _)
  case len =>
    rcases hl : ts.toList with _ | ⟨t, _ | ⟨xt, qs⟩⟩ <;> simp only [hl, fail_some] at hr
    rcases args with _ | ⟨x, _ | ⟨y, qs⟩⟩ <;> simp only [fail_some] at hr
    obtain ⟨cx, cs, e1, hx, h2⟩ := RelL.cons_iff.1 hargs
    have := RelL.nil_iff.1 h2; subst this
    have hca : cargs = #[cx] := by apply Array.ext'; simpa using e1
    subst hca
    have hts' : ts = #[t] := by apply Array.ext'; simpa using hl
    subst hts'
    have hE := hex (Builtin.len_ #[t] o.type #[cx]) rfl
    cases hu : P.underlying t with
    | none => simp [abLen, hu, fail] at hr
    | some dd =>
      cases dd <;> try (simp [abLen, hu, fail] at hr; done)
      all_goals simp only [abLen, hu] at hr
      · exact opOK_pure hH hE (lenT_s hu hx _ _ _ hr)
      · exact opOK_pure hH hE (lenA_s hu hx _ _ _ hr)
      · rename_i n e
        obtain ⟨rfl, rfl⟩ := ret_some.1 hr
        exact opOK_pure hH hE ⟨rfl, goInt n, by simp [Builtin.len_, run_underlying hu], rfl⟩
      · exact opOK_pure hH hE (lenM_s hH hu hx hr)
  case max =>
    rcases args with _ | ⟨x, xs⟩ <;> simp only [fail_some] at hr
    obtain ⟨cx, cxs, e1, hx, h2⟩ := RelL.cons_iff.1 hargs
    have hE := hex (Builtin.max_ ts o.type cargs) rfl
    refine opOK_pure hH hE ?_
    have := max_s (P := P) xs cxs x cx h2 hx _ _ _ hr
    simpa [Builtin.max_, e1] using this
  case min =>
    rcases args with _ | ⟨x, xs⟩ <;> simp only [fail_some] at hr
    obtain ⟨cx, cxs, e1, hx, h2⟩ := RelL.cons_iff.1 hargs
    have hE := hex (Builtin.min_ ts o.type cargs) rfl
    refine opOK_pure hH hE ?_
    have := min_s (P := P) xs cxs x cx h2 hx _ _ _ hr
    simpa [Builtin.min_, e1] using this

theorem callV_s {π : PMap} {H H' : AHeap} {w : World} {o : Oper} {a : Act} {r : AVal} {C : CallTab} (hC : CSound P C) (hH : HRel π H w) {c : Call} {fo : Operand} (ho : o.op = .call c) (hb : c.callee = .value fo) {f : AVal} (hf : Rel π w f (a.eval fo)) {args : List AVal} (hargs : RelL π w args (c.args.map a.eval).toList)
    (hr : callV C f args H = some (r, H')) : OpOK P o a w (Sim π H w H' r) := by
  unfold callV at hr
  split at hr
  · rename_i k first captured
    obtain ⟨F, hF, hr⟩ := hC _ _ _ _ hr
    simp only [Rel] at hf
    obtain ⟨fs, cs, hfv, h1, h2⟩ := hf
    unfold OpOK
    simp only [execOp, ho, resolve, hb, hfv, Deferred.ofValue, Sem.run_bind, Sem.run_pure, Result.andThen_ok, invoke, hF.enter]
    refine hF.sound hr hH ?_
    simp only [Array.toList_append]
    exact (h1.append hargs).append h2
  · simp [fail] at hr

theorem exec_sound {C : CallTab} (hC : CSound P C) {π : PMap} {H H' : AHeap} {w : World} {env : Env} {a : Act} (hH : HRel π H w) (hE : ERel π w env a) {rs : Option Nat} {o : Oper} {r : AVal} (hr : exec P C rs env o H = some (r, H')) :
    OpOK P o a w (Sim π H w H' r) := by
  have hev := fun x => rel_ev hE x
  cases hop : o.op <;> simp only [exec, hop, fail_some] at hr
  case move x => exact opOK_pure hH (s := pure (a.eval x)) (by simp [execOp, hop]) (pureS_ret (hev x) _ _ _ hr)
  case assign x => exact opOK_pure hH (s := pure (a.eval x)) (by simp [execOp, hop]) (pureS_ret (hev x) _ _ _ hr)
  case pick c x y => exact opOK_pure hH (s := do pure (if ← asBool (a.eval c) then a.eval x else a.eval y)) (by simp [execOp, hop]) (pick3_s (hev c) (hev x) (hev y) _ _ _ hr)
  case alloc e =>
    obtain ⟨i, hi, hr⟩ := ty_some.1 hr
    cases hz : zcells i with
    | none => simp [hz, fail] at hr
    | some cs =>
      simp only [hz] at hr
      exact opOK_sim (by simp only [execOp, hop]) (alloc_s hH hi hz hr)
  case box e x => exact opOK_sim (by simp only [execOp, hop]) (box_s hH (hev x) hr)
  case build t ps =>
    obtain ⟨i, hi, hr⟩ := ty_some.1 hr
    cases hu : P.underlying t with
    | none => simp [hu, fail] at hr
    | some dd =>
      cases hz : zcells i with
      | none => cases dd <;> simp [hu, hz, fail] at hr
      | some zs =>
        cases dd <;> try (simp [hu, hz, fail] at hr; done)
        · rename_i n e
          simp only [hu, hz] at hr
          obtain ⟨j, hj, hr⟩ := ty_some.1 hr
          obtain ⟨out, H1, h1, h2⟩ := bnd_some.1 hr
          obtain ⟨rfl, rfl⟩ := ret_some.1 h2
          exact opOK_pure hH (by simp only [execOp, hop]) (build_array_s hi hu hj hz (parts_fst ps) (parts_snd hev ps) h1)
        · rename_i fs
          simp only [hu, hz] at hr
          cases hp : aPlaces P fs.toList with
          | none => simp [hp, fail] at hr
          | some pl =>
            simp only [hp] at hr
            obtain ⟨out, H1, h1, h2⟩ := bnd_some.1 hr
            obtain ⟨rfl, rfl⟩ := ret_some.1 h2
            exact opOK_pure hH (by simp only [execOp, hop]) (build_struct_s hi hu hz hp (parts_fst ps) (parts_snd hev ps) h1)
  case buildSlice t len ps =>
    cases hu : P.underlying t with
    | none => simp [hu, fail] at hr
    | some dd =>
      cases dd <;> try (simp [hu, fail] at hr; done)
      rename_i e
      simp only [hu] at hr
      obtain ⟨i, hi, hr⟩ := ty_some.1 hr
      split at hr
      · rename_i hcap
        cases hz : (if len = 0 then some [] else zcells i) with
        | none => simp only [hz, fail_some] at hr
        | some zs =>
          simp only [hz] at hr
          split at hr
          · rename_i hzl
            obtain ⟨out, H1, h1, h2⟩ := bnd_some.1 hr
            exact opOK_sim (by simp only [execOp, hop]) (buildSlice_s hH hu hi hcap hz hzl (parts_fst ps) (parts_snd hev ps) h1 h2)
          · simp [fail] at hr
      · simp [fail] at hr
  case load t x =>
    cases ha : aggOf P t with
    | none => simp [ha, fail] at hr
    | some bb =>
      cases bb
      · simp only [ha] at hr
        exact opOK_pure hH (by simp only [execOp, hop]) (ld1_s hH ha (hev x) hr)
      · simp only [ha] at hr
        obtain ⟨i, hi, hr⟩ := ty_some.1 hr
        exact opOK_pure hH (by simp only [execOp, hop]) (ldn_s hH ha hi (hev x) hr)
  case store t x y =>
    obtain ⟨i, hi, hr⟩ := ty_some.1 hr
    split at hr
    · rename_i hz
      exact opOK_unit (by simp only [execOp, hop]) (st1_s hH hi hz (hev x) (hev y) hr)
    · exact opOK_unit (by simp only [execOp, hop]) (stn_s hH hi (hev x) (hev y) hr)
  case nilCheck x =>
    obtain ⟨rfl, hrel, hk⟩ := ncheck_s (hev x) hr
    unfold OpOK
    rcases hk with ⟨ad, hk⟩ | ⟨f, fs, cs, hk⟩
    · simp only [execOp, hop, hk, Sem.run_pure]
      exact ⟨π, by rw [← hk]; exact hrel, hH, Ext.refl _ _ _⟩
    · simp only [execOp, hop, hk, Sem.run_pure]
      exact ⟨π, by rw [← hk]; exact hrel, hH, Ext.refl _ _ _⟩
  case binOp op t x y yt => exact opOK_pure hH (by simp only [execOp, hop]) (abinT_s op t x y (hev x) (hev y) _ _ _ hr)
  case unOp op t x => exact opOK_pure hH (by simp only [execOp, hop]) (aun_s op (hev x) _ _ _ hr)
  case convert s d x =>
    cases hs : P.underlying s with
    | none => simp [hs, fail] at hr
    | some ds =>
      cases hd : P.underlying d with
      | none => cases ds <;> simp [hs, hd, fail] at hr
      | some dd =>
        cases ds <;> cases dd <;> try (simp [hs, hd, fail] at hr; done)
        · simp only [hs, hd] at hr
          exact opOK_pure hH (by simp only [execOp, hop]) (cvInt_s hs hd (hev x) _ _ _ hr)
        · simp only [hs, hd] at hr
          exact opOK_pure hH (by simp only [execOp, hop]) (cvStr_s hs hd (hev x) _ _ _ hr)
        · rename_i e
          simp only [hs, hd] at hr
          cases he : P.underlying e with
          | none => simp [he, fail] at hr
          | some de =>
            cases de <;> try (simp [he, fail] at hr; done)
            rename_i k
            cases k <;> try (simp [he, fail] at hr; done)
            simp only [he] at hr
            exact opOK_sim (by simp only [execOp, hop]) (s2b_s hH hs hd he (hev x) hr)
        · rename_i e
          simp only [hs, hd] at hr
          cases he : P.underlying e with
          | none => simp [he, fail] at hr
          | some de =>
            cases de <;> try (simp [he, fail] at hr; done)
            rename_i k
            cases k <;> try (simp [he, fail] at hr; done)
            simp only [he] at hr
            exact opOK_pure hH (by simp only [execOp, hop]) (b2s_s hH hs hd he (hev x) hr)
  case makeInterface t x =>
    cases hu : P.underlying t with
    | none => simp [hu, fail] at hr
    | some d =>
      cases d <;> try (simp [hu, fail] at hr; done)
      all_goals
        simp only [hu] at hr
        obtain ⟨rfl, rfl⟩ := ret_some.1 hr
        exact opOK_pure hH (s := Instr.makeInterface t (a.eval x)) (by simp only [execOp, hop]) ⟨rfl, .iface t (a.eval x), by simp only [Instr.makeInterface, Sem.run_bind, run_underlying hu, Result.andThen_ok, Sem.run_pure], trivial⟩
  case makeFunc fn first captured =>
    obtain ⟨rfl, rfl⟩ := ret_some.1 hr
    refine opOK_pure hH (s := Instr.makeFunc fn (first.map a.eval) (captured.map a.eval)) (by simp only [execOp, hop]) ⟨rfl, .func fn (first.map a.eval) (captured.map a.eval), by simp [Instr.makeFunc], ?_⟩
    exact ⟨_, _, rfl, by simpa using relL_map hev first.toList, by simpa using relL_map hev captured.toList⟩
  case makeMap t r' =>
    cases r' with
    | none => exact opOK_sim (s := Instr.makeMap t none) (by simp only [execOp, hop]; rfl) ⟨_, _, by simp [Instr.makeMap], newM_s hH hr⟩
    | some x =>
      simp only at hr
      cases hu : P.underlying t with
      | none => simp [hu, fail] at hr
      | some dd =>
        cases hx : ev env x <;> try (cases dd <;> simp [hu, hx, fail] at hr; done)
        cases dd <;> try (simp [hu, hx, fail] at hr; done)
        simp only [hu, hx] at hr
        have hx' := hev x
        rw [hx] at hx'
        simp only [Rel] at hx'
        refine opOK_sim (s := Instr.makeMap t (some (a.eval x))) (by simp only [execOp, hop]; rfl) ⟨_, _, ?_, newM_s hH hr⟩
        simp [Instr.makeMap, run_underlying hu, hx', asInt, asIntOf]
  case makeSlice t l c =>
    cases hu : P.underlying t with
    | none => simp [hu, fail] at hr
    | some dd =>
      cases dd <;> try (simp [hu, fail] at hr; done)
      rename_i e
      simp only [hu] at hr
      obtain ⟨i, hi, hr⟩ := ty_some.1 hr
      cases hz : zcells i with
      | none => simp [hz, fail] at hr
      | some zs =>
        simp only [hz] at hr
        split at hr
        · rename_i hzl
          exact opOK_sim (by simp only [execOp, hop]) (mkS_s hH hu hi hz hzl (hev l) (hev c) hr)
        · simp [fail] at hr
  case slice t x lo hi mx =>
    cases mx with
    | some m => simp [fail] at hr
    | none =>
      simp only at hr
      cases hu : P.underlying t with
      | none => simp [hu, fail] at hr
      | some dd =>
        cases dd <;> try (simp [hu, fail] at hr; done)
        · simp only [hu] at hr
          exact opOK_pure hH (by simp only [execOp, hop]; rfl) (slStr_s hu (hev x) (optRel_map hev lo) (optRel_map hev hi) _ _ _ hr)
        · rename_i e
          simp only [hu] at hr
          obtain ⟨i, hi', hr⟩ := ty_some.1 hr
          exact opOK_pure hH (by simp only [execOp, hop]; rfl) (slS_s hu hi' (hev x) (optRel_map hev lo) (optRel_map hev hi) _ _ _ hr)
  case fieldAddr s x f =>
    cases hf : structAt P s f with
    | none => simp [hf, fail] at hr
    | some fl =>
      simp only [hf] at hr
      obtain ⟨i, hi, hr⟩ := ty_some.1 hr
      split at hr
      · simp [fail] at hr
      · rename_i hz
        exact opOK_pure hH (by simp only [execOp, hop]) (fieldAt_s hf hi hz (hev x) _ _ _ hr)
  case field t x f =>
    cases hf : structAt P t f with
    | none => simp [hf, fail] at hr
    | some fl =>
      simp only [hf] at hr
      cases ha : aggOf P fl.type with
      | none => simp [ha, fail] at hr
      | some bb =>
        cases bb
        · simp only [ha] at hr
          exact opOK_pure hH (by simp only [execOp, hop]) (field_s hf ha (hev x) _ _ _ hr)
        · simp only [ha] at hr
          obtain ⟨i, hi, hr⟩ := ty_some.1 hr
          exact opOK_pure hH (by simp only [execOp, hop]) (fieldn_s hf ha hi (hev x) _ _ _ hr)
  case indexAddr t x ix =>
    cases hu : P.underlying t with
    | none => simp [hu, fail] at hr
    | some dd =>
      cases dd <;> try (simp [hu, fail] at hr; done)
      · rename_i e
        simp only [hu] at hr
        obtain ⟨i, hi, hr⟩ := ty_some.1 hr
        exact opOK_pure hH (by simp only [execOp, hop]) (ixa_s hu hi (hev x) (hev ix) _ _ _ hr)
      · rename_i n e
        simp only [hu] at hr
        obtain ⟨i, hi, hr⟩ := ty_some.1 hr
        exact opOK_pure hH (by simp only [execOp, hop]) (ixArr_s hu hi (hev x) (hev ix) _ _ _ hr)
  case index t x ix =>
    cases hu : P.underlying t with
    | none => simp [hu, fail] at hr
    | some dd =>
      cases dd <;> try (simp [hu, fail] at hr; done)
      · simp only [hu] at hr
        exact opOK_pure hH (by simp only [execOp, hop]) (ixStr_s hu (hev x) (hev ix) _ _ _ hr)
      · rename_i n e
        simp only [hu] at hr
        obtain ⟨i, hi, hr⟩ := ty_some.1 hr
        split at hr
        · rename_i h
          exact opOK_pure hH (by simp only [execOp, hop]) (ixAgg1_s hu hi h.1 h.2 (hev x) (hev ix) _ _ _ hr)
        · simp [fail] at hr
  case lookup t m k ok =>
    cases hu : P.underlying t with
    | none => simp [hu, fail] at hr
    | some dd =>
      cases dd <;> try (simp [hu, fail] at hr; done)
      rename_i kt e
      simp only [hu] at hr
      obtain ⟨i, hi, hr⟩ := ty_some.1 hr
      cases hd : P.underlying kt with
      | none => simp [hd, fail] at hr
      | some d =>
        cases hz : zero1 i with
        | none => simp [hd, hz, fail] at hr
        | some z =>
          simp only [hd, hz] at hr
          exact opOK_pure hH (by simp only [execOp, hop]) (lkp_s hH hu hd hi hz (hev m) (hev k) hr)
  case mapUpdate t m k x =>
    cases hu : P.underlying t with
    | none => simp [hu, fail] at hr
    | some dd =>
      cases dd <;> try (simp [hu, fail] at hr; done)
      rename_i kt e
      simp only [hu] at hr
      cases hd : P.underlying kt with
      | none => simp [hd, fail] at hr
      | some d =>
        simp only [hd] at hr
        exact opOK_unit (by simp only [execOp, hop]) (mupd_s hH hu hd (hev m) (hev k) (hev x) hr)
  case extract x i => exact opOK_pure hH (by simp only [execOp, hop]) (extr_s (hev x) _ _ _ hr)
  case call c =>
    cases hc : c.callee with
    | value f =>
      simp only [hc] at hr
      exact callV_s hC hH hop hc (hev f) (by simpa using relL_map hev c.args.toList) hr
    | builtin b =>
      simp only [hc] at hr
      exact abuiltin_s hH hop hc (by simpa using relL_map hev c.args.toList) hr
    | invoke x n => simp [hc, fail] at hr

end
end Go.Am

end

section
set_option linter.unusedSimpArgs false
set_option linter.unusedVariables false
/- The abstract machine, part K: a region in the order of the text. -/
namespace Go.Am
section
variable {P : Program}

theorem OpOK.wp {o : Oper} {a : Act} {w : World} {Post : Value → World → Prop} (h : OpOK P o a w Post) {next : Act → World → Prop} {Q : Exit → Act → World → Prop} (hn : ∀ v w', Post v w' → next (a.put o.dst v) w') : o.wp P a w next Q := by
  unfold OpOK at h
  unfold Oper.wp
  cases hr : (execOp a.eval o).run P w with
  | halt x w' => simp [hr] at h
  | ok n w' =>
    rw [hr] at h
    cases n <;> simp only at h <;> try exact h.elim
    · exact hn _ _ h
    · exact hn _ _ h
    · exact h.mono fun e w'' he => by
        obtain ⟨v, rfl, hp⟩ := he
        exact hn _ _ hp
theorem OpOK.mono {o : Oper} {a : Act} {w : World} {Post Post' : Value → World → Prop} (h : OpOK P o a w Post) (hn : ∀ v w', Post v w' → Post' v w') : OpOK P o a w Post' := by
  unfold OpOK at *
  split <;> simp_all
  exact h.mono fun e w'' he => by
    obtain ⟨v, rfl, hp⟩ := he
    exact ⟨v, rfl, hn _ _ hp⟩

/-- One operation with its guard. -/
def GOK (P : Program) (ops : Array Oper) (o : Oper) (a : Act) (w : World) (Post : Value → World → Prop) : Prop :=
  if Region.wanted o (yielded ops a.tmps) then OpOK P o a w Post else Post Go.undef w
theorem yielded_of {π : PMap} {w : World} {env : Env} {a : Act} (hE : ERel π w env a) (ops : Array Oper) (j : Nat) {b : Bool} (h : yv ops.toList env j = .bool b) : yielded ops a.tmps j = some b := by
  unfold yv at h
  unfold yielded
  simp only [Array.getElem?_toList] at h
  cases ho : ops[j]? with
  | none => simp [ho] at h
  | some o =>
    simp only [ho] at h
    cases hd : o.dst with
    | none => simp [hd] at h
    | some d =>
      simp only [hd] at h
      have hv := hE.val d
      rw [h] at hv
      simp only [Rel] at hv
      have hg : a.tmps[d]? = some (.bool b) := by
        rw [Array.getD_eq_getD_getElem?] at hv
        cases hq : a.tmps[d]? with
        | none => rw [hq] at hv; simp [Go.undef] at hv
        | some v => rw [hq] at hv; simp at hv; rw [hv]
      simp [hd, hg]
theorem yielded_skip {π : PMap} {w : World} {env : Env} {a : Act} (hE : ERel π w env a) (ops : Array Oper) (j : Nat) (h : yv ops.toList env j = .tuple []) : yielded ops a.tmps j = none := by
  unfold yv at h
  unfold yielded
  rw [show ops.toList[j]? = ops[j]? from by simp] at h
  cases ho : ops[j]? with
  | none => simp
  | some o =>
    simp only [ho] at h
    cases hd : o.dst with
    | none => simp [hd]
    | some d =>
      simp only [hd] at h
      have hv := hE.val d
      rw [h] at hv
      simp only [Rel] at hv
      obtain ⟨cs', hv, hl⟩ := hv
      simp only [Option.bind_some, hd]
      rw [Array.getD_eq_getD_getElem?] at hv
      cases hq : a.tmps[d]? with
      | none => rfl
      | some v => rw [hq] at hv; simp at hv; subst hv; rfl
theorem execG_sound {C : CallTab} (hC : CSound P C) {π : PMap} {H H' : AHeap} {w : World} {env : Env} {a : Act} (hH : HRel π H w) (hE : ERel π w env a) {rs : Option Nat} {ops : Array Oper} {o : Oper} {r : AVal} (hr : execG P C ops.toList rs env o H = some (r, H')) :
    GOK P ops o a w (Sim π H w H' r) := by
  unfold GOK
  unfold execG at hr
  cases hg : o.guard with
  | none =>
    simp only [hg] at hr
    simp only [Region.wanted, hg, if_true]
    exact exec_sound hC hH hE hr
  | some jw =>
    obtain ⟨j, want⟩ := jw
    simp only [hg] at hr
    cases hy : yv ops.toList env j <;> simp only [hy, gd, fail_some] at hr
    case tuple cs =>
      cases cs with
      | cons c cs => simp [fail] at hr
      | nil =>
        obtain ⟨rfl, rfl⟩ := ret_some.1 hr
        have hyl := yielded_skip hE ops j hy
        simp only [Region.wanted, hg, hyl]
        have : ((none : Option Bool) == some want) = false := rfl
        simp only [this, Bool.false_eq_true, if_false]
        exact ⟨π, ⟨#[], rfl, by simp [RelL]⟩, hH, Ext.refl _ _ _⟩
    rename_i b
    have hyl := yielded_of hE ops j hy
    simp only [Region.wanted, hg, hyl]
    split at hr
    · rename_i e
      subst e
      simp only [beq_self_eq_true, if_true]
      exact exec_sound hC hH hE hr
    · rename_i e
      obtain ⟨rfl, rfl⟩ := ret_some.1 hr
      have : (some b == some want) = false := by simp [e]
      simp only [this, Bool.false_eq_true, if_false]
      exact ⟨π, ⟨#[], rfl, by simp [RelL]⟩, hH, Ext.refl _ _ _⟩
theorem GOK.wpOp {ops : Array Oper} {o : Oper} {i : Nat} (hi : ops[i]? = some o) {a : Act} {w : World} {Post : Value → World → Prop} (h : GOK P ops o a w Post) {K : Act → World → Prop} {Q : Exit → Act → World → Prop} (hn : ∀ v w', Post v w' → K (a.put o.dst v) w') : wpOp P ops Q i K a w := by
  unfold GOK at h
  unfold Go.wpOp
  simp only [hi]
  split
  · rename_i hw
    simp only [hw, if_true] at h
    exact .inl (h.wp hn)
  · rename_i hw
    simp only [hw, if_false] at h
    exact hn _ _ h
theorem moveOf_exec {C : CallTab} {o : Oper} {x : Operand} (h : moveOf o = some x) (ops : List Oper) (rs : Option Nat) (env : Env) : execG P C ops rs env o = ret (ev env x) := by
  unfold moveOf at h
  unfold execG
  cases hg : o.guard with
  | some y => simp [hg] at h
  | none =>
    simp only [hg] at h ⊢
    cases hop : o.op <;> simp only [hop] at h <;> try (cases h; done)
    all_goals
      cases h
      simp only [exec, hop]

def Keep (D : List Nat) (a a' : Act) : Prop := a'.tmps.size = a.tmps.size ∧ ∀ t, t ∉ D → a'.tmps.getD t Go.undef = a.tmps.getD t Go.undef
theorem Keep.refl (D : List Nat) (a : Act) : Keep D a a := ⟨rfl, fun _ _ => rfl⟩
theorem Keep.trans {D : List Nat} {a b c : Act} (h : Keep D a b) (k : Keep D b c) : Keep D a c := ⟨k.1.trans h.1, fun t ht => (k.2 t ht).trans (h.2 t ht)⟩
theorem Keep.mono {D D' : List Nat} {a b : Act} (h : Keep D a b) (hs : ∀ t, t ∈ D → t ∈ D') : Keep D' a b := ⟨h.1, fun t ht => h.2 t fun hd => ht (hs t hd)⟩
theorem Keep.put {D : List Nat} (a : Act) (dst : Option Tmp) (v : Value) (h : ∀ d, dst = some d → d ∈ D) : Keep D a (a.put dst v) := by
  cases dst with
  | none => exact Keep.refl _ _
  | some d =>
    refine ⟨by simp [Act.put], fun t ht => ?_⟩
    have hne : d ≠ t := fun e => ht (e ▸ h d rfl)
    simp [Act.put, Array.getElem?_setIfInBounds_ne hne]

/-- What the code has come to: related states, from which what follows gives the end that is known. -/
structure Reach {α : Type} (π0 : PMap) (H0 : AHeap) (w0 : World) (D : List Nat) (a0 : Act) (K : Env → AM α) (r : α × AHeap) (a : Act) (w : World) : Prop where
  mk' ::
  out : ∃ env π H, ERel π w env a ∧ HRel π H w ∧ Ext π0 H0 w0 π H w ∧ Keep D a0 a ∧ K env H = some r

theorem runOps_sound {α : Type} {C : CallTab} (hC : CSound P C) (ops : Array Oper) (D : List Nat) (hD : ∀ o ∈ ops.toList, ∀ d, o.dst = some d → d ∈ D) (K : Env → AM α) (r : α × AHeap) (π0 : PMap) (H0 : AHeap) (w0 : World) (a0 : Act) (Q : Exit → Act → World → Prop)
    (hQ : ∀ a w, Reach π0 H0 w0 D a0 K r a w → Q .normal a w) : ∀ (l : List Oper) (k : Nat), ops.toList.drop k = l → ∀ {env : Env} {π : PMap} {H : AHeap} {w : World} {a : Act},
    runOps P C ops.toList l env K H = some r → HRel π H w → ERel π w env a → Ext π0 H0 w0 π H w → Keep D a0 a → wpOps P ops Q (List.range' k l.length) a w
  | [], k, hl, env, π, H, w, a, hr, hH, hE, hX, hK => by
    simp only [runOps] at hr
    simp only [List.length_nil, List.range'_zero, wpOps]
    exact hQ a w ⟨env, π, H, hE, hH, hX, hK, hr⟩
  | o :: l, k, hl, env, π, H, w, a, hr, hH, hE, hX, hK => by
    have hk : ops[k]? = some o := by
      have : (ops.toList.drop k)[0]? = some o := by rw [hl]; rfl
      simpa using this
    have hmem : o ∈ ops.toList := by
      have : o ∈ ops.toList.drop k := by rw [hl]; exact List.mem_cons_self
      exact List.mem_of_mem_drop this
    have hl' : ops.toList.drop (k + 1) = l := by
      have : (ops.toList.drop k).drop 1 = l := by rw [hl]; rfl
      simpa [List.drop_drop, Nat.add_comm] using this
    simp only [List.length_cons, List.range'_succ]
    rw [wpOps_cons]
    have hb : ∃ x H1, execG P C ops.toList none env o H = some (x, H1) ∧ runOps P C ops.toList l (putE env o.dst x) K H1 = some r := by
      simp only [runOps] at hr
      cases hm : moveOf o with
      | some x =>
        simp only [hm] at hr
        exact ⟨ev env x, H, by rw [moveOf_exec hm]; rfl, hr⟩
      | none =>
        simp only [hm] at hr
        obtain ⟨x, H1, h1, h2⟩ := bnd_some.1 hr
        exact ⟨x, H1, h1, h2⟩
    obtain ⟨x, H1, h1, h2⟩ := hb
    refine (execG_sound hC hH hE h1).wpOp hk fun v w' hs => ?_
    obtain ⟨π', hrel, hH', hX'⟩ := hs
    exact runOps_sound hC ops D hD K r π0 H0 w0 a0 Q hQ l (k + 1) hl' h2 hH' ((hE.mono hX'.pi hX'.wl).put hrel) (hX.trans hX') (hK.trans (Keep.put a o.dst v fun d hd => hD o hmem d hd))

end
end Go.Am

end

section
set_option linter.unusedSimpArgs false
set_option linter.unusedVariables false
/- The abstract machine, part L: blocks that are of no concern to a computation may be added to its heap. -/
namespace Go.Am

abbrev Extra := Nat → Option AObj
def Disj (E : Extra) (H : AHeap) : Prop := ∀ id o, E id = some o → H.get id = none ∧ id < H.next
def AHeap.add (H : AHeap) (E : Extra) : AHeap := { get := fun id => match H.get id with | some o => some o | none => E id, next := H.next }
def LocP (S : Nat → Prop) {α : Type} (m : AM α) : Prop :=
  ∀ (E : Extra) (H : AHeap) (a : α) (H' : AHeap), Disj E H → (∀ id, S id → E id = none) → m H = some (a, H') → m (H.add E) = some (a, H'.add E) ∧ Disj E H'
abbrev Loc {α : Type} (m : AM α) : Prop := LocP (fun _ => False) m
section
variable {P : Program} {S : Nat → Prop}
theorem LocP.mono {S' : Nat → Prop} {α : Type} {m : AM α} (h : LocP S m) (hs : ∀ id, S id → S' id) : LocP S' m :=
  fun E H a H' hd hS hr => h E H a H' hd (fun id hi => hS id (hs id hi)) hr
theorem Loc.to {α : Type} {m : AM α} (h : Loc m) : LocP S m := h.mono fun _ h => h.elim
theorem loc_ret {α : Type} (a : α) : LocP S (ret a) := fun E H b H' hd _ hr => by
  obtain ⟨rfl, rfl⟩ := ret_some.1 hr
  exact ⟨rfl, hd⟩
theorem loc_fail {α : Type} : LocP S (fail : AM α) := fun E H b H' hd _ hr => by simp [fail] at hr
theorem loc_bnd {α β : Type} {m : AM α} {f : α → AM β} (hm : LocP S m) (hf : ∀ a, LocP S (f a)) : LocP S (bnd m f) := fun E H b H' hd hS hr => by
  obtain ⟨a, H1, h1, h2⟩ := bnd_some.1 hr
  obtain ⟨g1, g2⟩ := hm E H a H1 hd hS h1
  obtain ⟨k1, k2⟩ := hf a E H1 b H' g2 hS h2
  exact ⟨bnd_some.2 ⟨a, _, g1, k1⟩, k2⟩
theorem loc_ty {α : Type} {t : TypeId} {k : TypeInfo → AM α} (h : ∀ i, LocP S (k i)) : LocP S (ty P t k) := by
  unfold ty; split
  · exact h _
  · exact loc_fail
theorem loc_ite {α : Type} {c : Prop} [Decidable c] {x y : AM α} (hx : LocP S x) (hy : LocP S y) : LocP S (if c then x else y) := by split <;> assumption

theorem add_get {H : AHeap} {E : Extra} {id : Nat} {o : AObj} (h : H.get id = some o) : (H.add E).get id = some o := by simp [AHeap.add, h]
theorem add_rd {H : AHeap} {E : Extra} {id : Nat} {c : List AVal} (h : rd id H = some c) : rd id (H.add E) = some c := by
  unfold rd at *
  split at h
  · rename_i cs e fz hg; cases h; rw [add_get hg]
  · cases h
theorem add_set {H : AHeap} {E : Extra} {id : Nat} (o : AObj) : (H.add E).set id o = (H.set id o).add E := by
  simp only [AHeap.add, AHeap.set, AHeap.mk.injEq, and_true]
  funext i
  by_cases e : i = id <;> simp [e]
theorem Disj.set {H : AHeap} {E : Extra} {id : Nat} {o o' : AObj} (hd : Disj E H) (h : H.get id = some o) : Disj E (H.set id o') := by
  intro i x hx
  obtain ⟨h1, h2⟩ := hd i x hx
  refine ⟨?_, h2⟩
  simp only [AHeap.set]
  by_cases e : i = id
  · subst e; rw [h] at h1; cases h1
  · simp [e, h1]
theorem add_push {H : AHeap} {E : Extra} (hd : Disj E H) (o : AObj) : (H.add E).push o = (H.push o).add E := by
  simp only [AHeap.add, AHeap.push, AHeap.mk.injEq, and_true]
  funext i
  by_cases e : i = H.next <;> simp [e]
theorem Disj.push {H : AHeap} {E : Extra} (hd : Disj E H) (o : AObj) : Disj E (H.push o) := by
  intro i x hx
  obtain ⟨h1, h2⟩ := hd i x hx
  refine ⟨?_, by simp only [AHeap.push]; omega⟩
  simp only [AHeap.push]
  rw [if_neg (by omega)]; exact h1

theorem loc_pick3 (c a b : AVal) : LocP S (pick3 c a b) := by unfold pick3; split <;> first | exact loc_ret _ | exact loc_fail
theorem loc_br {α : Type} (c : AVal) {t e : AM α} (ht : LocP S t) (he : LocP S e) : LocP S (br c t e) := by unfold br; split <;> first | assumption | exact loc_fail
theorem loc_gd (c : AVal) (b : Bool) {m : AM AVal} (hm : LocP S m) : LocP S (gd c b m) := by
  unfold gd
  split
  · exact loc_ite hm (loc_ret _)
  · exact loc_ret _
  · exact loc_fail
theorem loc_cell1 (v : AVal) : LocP S (cell1 v) := by unfold cell1; split <;> first | exact loc_ret _ | exact loc_fail
theorem loc_cellsN (n : Nat) (v : AVal) : LocP S (cellsN n v) := by unfold cellsN; split <;> first | exact loc_fail | exact loc_ite (loc_ret _) loc_fail
theorem loc_ncheck (v : AVal) : LocP S (ncheck v) := by unfold ncheck; split <;> first | exact loc_ret _ | exact loc_fail
theorem loc_abin (op : BinOp) (x y : AVal) : LocP S (abin op x y) := by
  cases x <;> cases y <;> try (cases op <;> exact loc_fail)
  all_goals
    cases op <;> simp only [abin, wr, ibits] <;> first
      | exact loc_ret _
      | exact loc_fail
      | exact loc_ite loc_fail (loc_ret _)
      | exact loc_ite (loc_ret _) loc_fail
      | exact loc_ite loc_fail (loc_ite loc_fail (loc_ret _))
theorem loc_aeq (d : TypeDesc) (n : Bool) (x y : AVal) : LocP S (aeq d n x y) := by unfold aeq; split <;> first | exact loc_ret _ | exact loc_fail
theorem loc_abinT (op : BinOp) (t : TypeId) (x y : AVal) : LocP S (abinT P op t x y) := by
  unfold abinT
  split
  · exact loc_abin _ _ _
  · exact loc_abin _ _ _
  · split <;> first | exact loc_aeq _ _ _ _ | exact loc_fail
  · exact loc_fail
theorem loc_aun (op : UnOp) (x : AVal) : LocP S (aun op x) := by unfold aun; split <;> first | exact loc_ret _ | exact loc_fail
theorem loc_cvInt (k : IntKind) (x : AVal) : LocP S (cvInt k x) := by unfold cvInt; split <;> first | exact loc_ret _ | exact loc_fail
theorem loc_cvStr (x : AVal) : LocP S (cvStr x) := by unfold cvStr; split <;> first | exact loc_ret _ | exact loc_fail
theorem loc_lenT (x : AVal) : LocP S (lenT x) := by unfold lenT; split <;> first | exact loc_ret _ | exact loc_fail
theorem loc_lenA (x : AVal) : LocP S (lenA x) := by unfold lenA; split <;> first | exact loc_ret _ | exact loc_fail
theorem loc_fadd (n : Nat) (x : AVal) : LocP S (fadd n x) := by unfold fadd; split <;> first | exact loc_ret _ | exact loc_fail
theorem loc_fld1 (n : Nat) (x : AVal) : LocP S (fld1 n x) := by
  unfold fld1; split
  · split <;> first | exact loc_ret _ | exact loc_fail
  · exact loc_fail
theorem loc_fldn (o n : Nat) (x : AVal) : LocP S (fldn o n x) := by
  unfold fldn; split
  · exact loc_ite (loc_ret _) loc_fail
  · exact loc_fail
theorem loc_extr (n : Nat) (x : AVal) : LocP S (extr n x) := by
  unfold extr; split
  · split <;> first | exact loc_ret _ | exact loc_fail
  · exact loc_fail
theorem loc_ixa (n : Nat) (x i : AVal) : LocP S (ixa n x i) := by
  unfold ixa; split
  · exact loc_ite (loc_ret _) loc_fail
  · exact loc_fail
theorem loc_ixArr (l n : Nat) (x i : AVal) : LocP S (ixArr l n x i) := by
  unfold ixArr; split
  · exact loc_ite (loc_ret _) loc_fail
  · exact loc_fail
theorem loc_ixStr (x i : AVal) : LocP S (ixStr x i) := by
  unfold ixStr; split
  · split
    · split <;> first | exact loc_ret _ | exact loc_fail
    · exact loc_fail
  · exact loc_fail
theorem loc_ixAgg1 (l : Nat) (x i : AVal) : LocP S (ixAgg1 l x i) := by
  unfold ixAgg1; split
  · split
    · split <;> first | exact loc_ret _ | exact loc_fail
    · exact loc_fail
  · exact loc_fail
theorem loc_slS (n : Nat) (x : AVal) (lo hi : Option AVal) : LocP S (slS n x lo hi) := by
  unfold slS; split
  · split <;> first | exact loc_ret _ | exact loc_fail
  · split
    · exact loc_ite (loc_ret _) loc_fail
    · exact loc_fail
  · exact loc_fail
theorem loc_slStr (x : AVal) (lo hi : Option AVal) : LocP S (slStr x lo hi) := by
  unfold slStr; split
  · split <;> first | exact loc_ret _ | exact loc_fail
  · exact loc_fail
theorem loc_fold {f : AVal → AVal → AM AVal} (hf : ∀ x y, LocP S (f x y)) : ∀ (l : List AVal) (x : AVal), LocP S (afoldM f l x)
  | [], x => loc_ret _
  | y :: l, x => loc_bnd (hf x y) (loc_fold hf l)
theorem loc_min2 (x y : AVal) : LocP S (amin2 x y) := by unfold amin2; split <;> first | exact loc_ret _ | exact loc_fail
theorem loc_max2 (x y : AVal) : LocP S (amax2 x y) := by unfold amax2; split <;> first | exact loc_ret _ | exact loc_fail
theorem loc_fill (place : Nat → Option (Nat × Nat)) : ∀ (ps : List (Nat × AVal)) (cells : List AVal), LocP S (afillM place ps cells)
  | [], cells => loc_ret _
  | (i, v) :: ps, cells => by
    unfold afillM
    cases place i with
    | none => exact loc_fail
    | some p =>
      obtain ⟨off, size⟩ := p
      exact loc_ite (loc_ite (loc_bnd (loc_cell1 _) fun _ => loc_fill place ps _) (loc_bnd (loc_cellsN _ _) fun _ => loc_fill place ps _)) loc_fail

theorem loc_newB (rs : Option Nat) (o : AObj) : LocP (fun id => rs = some id) (newB rs o) := by
  intro E H a H' hd hS hr
  cases rs with
  | none =>
    simp only [newB, Option.some.injEq, Prod.mk.injEq] at hr ⊢
    obtain ⟨rfl, rfl⟩ := hr
    exact ⟨⟨rfl, add_push hd o⟩, hd.push o⟩
  | some id =>
    have hE := hS id rfl
    simp only [newB] at hr ⊢
    cases hg : H.get id with
    | some x => simp [hg] at hr
    | none =>
      have : (H.add E).get id = none := by simp [AHeap.add, hg, hE]
      simp only [hg, this] at hr ⊢
      have hn : (H.add E).next = H.next := rfl
      rw [hn]
      split at hr
      · rename_i hlt
        simp only [Option.some.injEq, Prod.mk.injEq] at hr
        obtain ⟨rfl, rfl⟩ := hr
        rw [if_pos hlt, add_set]
        refine ⟨rfl, fun i x hx => ?_⟩
        obtain ⟨h1, h2⟩ := hd i x hx
        refine ⟨?_, h2⟩
        simp only [AHeap.set]
        by_cases e : i = id
        · subst e; rw [hE] at hx; cases hx
        · simp [e, h1]
      · cases hr
theorem loc_allocC (rs : Option Nat) (e : TypeId) (cs : List AVal) : LocP (fun id => rs = some id) (allocC rs e cs) := loc_bnd (loc_newB _ _) fun _ => loc_ret _
theorem loc_allocS (rs : Option Nat) (e : TypeId) (s l : Nat) (cs : List AVal) : LocP (fun id => rs = some id) (allocS rs e s l cs) := loc_bnd (loc_newB _ _) fun _ => loc_ret _
theorem loc_boxA (rs : Option Nat) (e : TypeId) (n : Nat) (v : AVal) : LocP (fun id => rs = some id) (boxA rs e n v) := by
  unfold boxA; exact loc_ite (loc_bnd (loc_cell1 _) fun _ => loc_allocC _ _ _) (loc_bnd (loc_cellsN _ _) fun _ => loc_allocC _ _ _)
theorem loc_mkS (rs : Option Nat) (e : TypeId) (n b : Nat) (zs : List AVal) (l c : AVal) : LocP (fun id => rs = some id) (mkS rs e n b zs l c) := by
  unfold mkS; split
  · exact loc_ite (loc_allocS _ _ _ _ _) loc_fail
  · exact loc_fail
theorem loc_s2b (rs : Option Nat) (e : TypeId) (v : AVal) : LocP (fun id => rs = some id) (s2b rs e v) := by
  unfold s2b; split
  · exact loc_ite (loc_allocS _ _ _ _ _) loc_fail
  · exact loc_fail
theorem loc_newM (rs : Option Nat) : LocP (fun id => rs = some id) (newM rs) := loc_bnd (loc_newB _ _) fun _ => loc_ret _

theorem loc_ld1 (v : AVal) : LocP S (ld1 v) := by
  intro E H a H' hd _ hr
  cases v <;> try (simp [ld1] at hr; done)
  rename_i id off
  simp only [ld1] at hr ⊢
  cases hc : rd id H with
  | none => simp [hc] at hr
  | some c =>
    rw [add_rd hc]
    simp only [hc] at hr
    cases hv : c[off]? with
    | none => simp [hv] at hr
    | some x =>
      simp only [hv, Option.some.injEq, Prod.mk.injEq] at hr ⊢
      obtain ⟨rfl, rfl⟩ := hr
      exact ⟨⟨rfl, rfl⟩, hd⟩
theorem loc_ldn (n : Nat) (v : AVal) : LocP S (ldn n v) := by
  intro E H a H' hd _ hr
  cases v <;> try (simp [ldn] at hr; done)
  rename_i id off
  simp only [ldn] at hr ⊢
  cases hc : rd id H with
  | none => simp [hc] at hr
  | some c =>
    rw [add_rd hc]
    simp only [hc] at hr
    split at hr
    · rename_i hl
      simp only [Option.some.injEq, Prod.mk.injEq] at hr
      obtain ⟨rfl, rfl⟩ := hr
      simp [hl, hd]
    · cases hr
theorem loc_stCells (id off : Nat) (vs : List AVal) : LocP S (stCells id off vs) := by
  intro E H a H' hd _ hr
  simp only [stCells] at hr ⊢
  cases hg : H.get id with
  | none => simp [hg] at hr
  | some o =>
    cases o <;> try (simp [hg] at hr; done)
    rename_i c e fz
    rw [add_get hg]
    simp only [hg] at hr
    split at hr
    · rename_i hl
      simp only [Option.some.injEq, Prod.mk.injEq] at hr
      obtain ⟨rfl, rfl⟩ := hr
      simp only [hl, and_self, if_true, add_set]
      exact ⟨trivial, hd.set hg⟩
    · cases hr
theorem loc_st1 (a v : AVal) : LocP S (st1 a v) := by
  unfold st1; split
  · exact loc_bnd (loc_cell1 _) fun _ => loc_stCells _ _ _
  · exact loc_fail
theorem loc_stn (n : Nat) (a v : AVal) : LocP S (stn n a v) := by
  unfold stn; split
  · exact loc_bnd (loc_cellsN _ _) fun _ => loc_stCells _ _ _
  · exact loc_fail
theorem add_src {size : Nat} {v : AVal} {n : Nat} {H : AHeap} {E : Extra} {cs : List AVal} (h : srcCells size v n H = some cs) : srcCells size v n (H.add E) = some cs := by
  cases v <;> simp only [srcCells] at h ⊢ <;> try exact h
  rename_i id off len sz
  cases hc : rd id H with
  | none => simp [hc] at h
  | some c => rw [add_rd hc]; simpa [hc] using h
theorem loc_appS (e : TypeId) (size b : Nat) (s x : AVal) : LocP S (appS e size b s x) := by
  intro E H a H' hd _ hr
  simp only [appS] at hr ⊢
  cases hn : srcLen x with
  | none => simp [hn] at hr
  | some n =>
    simp only [hn] at hr ⊢
    cases hc : srcCells size x n H with
    | none => simp [hc] at hr
    | some new =>
      rw [add_src hc]
      simp only [hc] at hr
      cases s <;> try (simp at hr; done)
      · simp only at hr ⊢
        split at hr
        · rename_i h0
          simp only [Option.some.injEq, Prod.mk.injEq] at hr
          obtain ⟨rfl, rfl⟩ := hr
          simp [h0, hd]
        · rename_i h0
          split at hr
          · rename_i hb
            simp only [Option.some.injEq, Prod.mk.injEq] at hr
            obtain ⟨rfl, rfl⟩ := hr
            rw [if_neg h0, if_pos hb, add_push hd]
            exact ⟨rfl, hd.push _⟩
          · cases hr
      · rename_i id off len sz
        simp only at hr ⊢
        split at hr
        · rename_i h0
          simp only [Option.some.injEq, Prod.mk.injEq] at hr
          obtain ⟨rfl, rfl⟩ := hr
          simp [h0, hd]
        · rename_i h0
          rw [if_neg h0]
          cases hg : H.get id with
          | none => simp [hg] at hr
          | some o =>
            cases o <;> try (simp [hg] at hr; done)
            rename_i c e' fz
            rw [add_get hg]
            simp only [hg] at hr
            split at hr
            · rename_i hb
              simp only [Option.some.injEq, Prod.mk.injEq] at hr
              obtain ⟨rfl, rfl⟩ := hr
              simp only
              rw [if_pos hb, add_set, add_push (hd.set hg)]
              exact ⟨rfl, (hd.set hg).push _⟩
            · cases hr
theorem loc_copyS (size : Nat) (d x : AVal) : LocP S (copyS size d x) := by
  intro E H a H' hd hS hr
  simp only [copyS] at hr ⊢
  cases hn : srcLen x with
  | none => simp [hn] at hr
  | some n =>
    cases hm : srcLen d with
    | none => simp [hn, hm] at hr
    | some m =>
      simp only [hn, hm] at hr ⊢
      cases hc : srcCells size x (min n m) H with
      | none => simp [hc] at hr
      | some new =>
        rw [add_src hc]
        simp only [hc] at hr
        cases d <;> try (simp at hr; done)
        · simp only [Option.some.injEq, Prod.mk.injEq] at hr
          obtain ⟨rfl, rfl⟩ := hr
          exact ⟨rfl, hd⟩
        · rename_i id off len sz
          simp only at hr ⊢
          split at hr
          · rename_i hs
            rw [if_pos hs]
            split at hr
            · rename_i h0
              simp only [Option.some.injEq, Prod.mk.injEq] at hr
              obtain ⟨rfl, rfl⟩ := hr
              rw [if_pos h0]
              exact ⟨rfl, hd⟩
            · rename_i h0
              rw [if_neg h0]
              cases hst : stCells id off new H with
              | none => simp [hst] at hr
              | some q =>
                obtain ⟨u, H1⟩ := q
                simp only [hst, Option.some.injEq, Prod.mk.injEq] at hr
                obtain ⟨rfl, rfl⟩ := hr
                obtain ⟨g1, g2⟩ := loc_stCells (S := S) id off new E H u H1 hd hS hst
                rw [g1]
                exact ⟨rfl, g2⟩
          · cases hr
theorem loc_b2s (v : AVal) : LocP S (b2s v) := by
  intro E H a H' hd _ hr
  cases v <;> try (simp [b2s] at hr; done)
  · simp only [b2s, Option.some.injEq, Prod.mk.injEq] at hr ⊢
    obtain ⟨rfl, rfl⟩ := hr
    exact ⟨⟨rfl, rfl⟩, hd⟩
  · rename_i id off len sz
    simp only [b2s] at hr ⊢
    cases hc : srcCells 1 (.slice id off len sz) len H with
    | none => simp [hc] at hr
    | some cs =>
      rw [add_src hc]
      simp only [hc] at hr
      cases hb : bytesStr cs with
      | none => simp [hb] at hr
      | some t =>
        simp only [hb, Option.some.injEq, Prod.mk.injEq] at hr ⊢
        obtain ⟨rfl, rfl⟩ := hr
        exact ⟨⟨rfl, rfl⟩, hd⟩
theorem loc_lkp (d : TypeDesc) (z : AVal) (ok : Bool) (m k : AVal) : LocP S (lkp d z ok m k) := by
  intro E H a H' hd _ hr
  simp only [lkp] at hr ⊢
  split at hr
  · rename_i hg
    rw [if_pos hg]
    cases m <;> try (simp at hr; done)
    · simp only [Option.some.injEq, Prod.mk.injEq] at hr ⊢
      obtain ⟨rfl, rfl⟩ := hr
      exact ⟨⟨rfl, rfl⟩, hd⟩
    · rename_i id
      simp only at hr ⊢
      cases hq : H.get id with
      | none => simp [hq] at hr
      | some o =>
        cases o <;> try (simp [hq] at hr; done)
        rename_i es
        rw [add_get hq]
        simp only [hq] at hr
        cases hf : findK k es with
        | none => simp [hf] at hr
        | some r =>
          cases r <;>
          · simp only [hf, Option.some.injEq, Prod.mk.injEq] at hr ⊢
            obtain ⟨rfl, rfl⟩ := hr
            exact ⟨⟨rfl, rfl⟩, hd⟩
  · cases hr
theorem loc_mupd (d : TypeDesc) (m k v : AVal) : LocP S (mupd d m k v) := by
  intro E H a H' hd _ hr
  simp only [mupd] at hr ⊢
  split at hr
  · rename_i hg
    rw [if_pos hg]
    cases m <;> try (simp at hr; done)
    rename_i id
    simp only at hr ⊢
    cases hq : H.get id with
    | none => simp [hq] at hr
    | some o =>
      cases o <;> try (simp [hq] at hr; done)
      rename_i es
      rw [add_get hq]
      simp only [hq] at hr
      cases hf : setK k v es with
      | none => simp [hf] at hr
      | some es' =>
        simp only [hf, Option.some.injEq, Prod.mk.injEq] at hr ⊢
        obtain ⟨rfl, rfl⟩ := hr
        exact ⟨⟨rfl, add_set _⟩, hd.set hq⟩
  · cases hr
theorem loc_lenM (m : AVal) : LocP S (lenM m) := by
  intro E H a H' hd _ hr
  cases m <;> try (simp [lenM] at hr; done)
  · simp only [lenM, Option.some.injEq, Prod.mk.injEq] at hr ⊢
    obtain ⟨rfl, rfl⟩ := hr
    exact ⟨⟨rfl, rfl⟩, hd⟩
  · rename_i id
    simp only [lenM] at hr ⊢
    cases hq : H.get id with
    | none => simp [hq] at hr
    | some o =>
      cases o <;> try (simp [hq] at hr; done)
      rw [add_get hq]
      simp only [hq, Option.some.injEq, Prod.mk.injEq] at hr ⊢
      obtain ⟨rfl, rfl⟩ := hr
      exact ⟨⟨rfl, rfl⟩, hd⟩

def CLoc (C : CallTab) : Prop := ∀ f args, Loc (C f args)
theorem loc_callV {C : CallTab} (hC : CLoc C) (f : AVal) (args : List AVal) : LocP S (callV C f args) := by
  unfold callV; split
  · exact (hC _ _).to
  · exact loc_fail
theorem loc_builtin (b : Builtin) (ts : Array TypeId) (args : List AVal) : LocP S (abuiltin P b ts args) := by
  cases b <;> simp only [abuiltin] <;> try exact loc_fail
  · split
    · split
      · unfold abApp
        split
        · split <;> first | exact loc_fail | (refine loc_ty fun i => ?_; split <;> first | exact loc_fail | exact loc_ite (loc_appS _ _ _ _ _) loc_fail)
        · exact loc_fail
      · exact loc_fail
    · exact loc_fail
  · split
    · split
      · unfold abCopy
        split
        · exact loc_ty fun i => loc_copyS _ _ _
        · exact loc_fail
      · exact loc_fail
    · exact loc_fail
  · split
    · split
      · unfold abLen
        split <;> first | exact loc_lenT _ | exact loc_lenA _ | exact loc_ret _ | exact loc_lenM _ | exact loc_fail
      · exact loc_fail
    · exact loc_fail
  · split
    · exact loc_fold loc_max2 _ _
    · exact loc_fail
  · split
    · exact loc_fold loc_min2 _ _
    · exact loc_fail
theorem loc_exec {C : CallTab} (hC : CLoc C) (rs : Option Nat) (env : Env) (o : Oper) : LocP (fun id => rs = some id) (exec P C rs env o) := by
  unfold exec
  cases o.op <;> simp only <;> try exact loc_fail
  case move => exact loc_ret _
  case assign => exact loc_ret _
  case pick => exact loc_pick3 _ _ _
  case alloc => exact loc_ty fun i => by split <;> first | exact loc_allocC _ _ _ | exact loc_fail
  case box => exact loc_boxA _ _ _ _
  case build =>
    refine loc_ty fun i => ?_
    split
    · split
      · exact loc_bnd (loc_fill _ _ _) fun _ => loc_ret _
      · exact loc_fail
    · exact loc_ty fun j => loc_bnd (loc_fill _ _ _) fun _ => loc_ret _
    · exact loc_fail
  case buildSlice =>
    split
    · refine loc_ty fun i => loc_ite ?_ loc_fail
      split
      · exact loc_ite (loc_bnd (loc_fill _ _ _) fun _ => loc_allocS _ _ _ _ _) loc_fail
      · exact loc_fail
    · exact loc_fail
  case load => split <;> first | exact loc_ty fun i => loc_ldn _ _ | exact loc_ld1 _ | exact loc_fail
  case store => exact loc_ty fun i => loc_ite (loc_st1 _ _) (loc_stn _ _ _)
  case nilCheck => exact loc_ncheck _
  case binOp => exact loc_abinT _ _ _ _
  case unOp => exact loc_aun _ _
  case convert =>
    split
    · exact loc_cvInt _ _
    · exact loc_cvStr _
    · split <;> first | exact loc_s2b _ _ _ | exact loc_fail
    · split <;> first | exact loc_b2s _ | exact loc_fail
    · exact loc_fail
  case makeInterface => split <;> first | exact loc_ret _ | exact loc_fail
  case makeFunc => exact loc_ret _
  case makeMap =>
    split
    · exact loc_newM _
    · split <;> first | exact loc_newM _ | exact loc_fail
  case makeSlice =>
    split
    · refine loc_ty fun i => ?_
      split
      · exact loc_ite (loc_mkS _ _ _ _ _ _ _) loc_fail
      · exact loc_fail
    · exact loc_fail
  case slice =>
    split
    · exact loc_fail
    · split <;> first | exact loc_ty fun i => loc_slS _ _ _ _ | exact loc_slStr _ _ _ | exact loc_fail
  case fieldAddr =>
    split
    · exact loc_ty fun i => loc_ite loc_fail (loc_fadd _ _)
    · exact loc_fail
  case field =>
    split
    · split <;> first | exact loc_ty fun i => loc_fldn _ _ _ | exact loc_fld1 _ _ | exact loc_fail
    · exact loc_fail
  case indexAddr => split <;> first | exact loc_ty fun i => loc_ixa _ _ _ | exact loc_ty fun i => loc_ixArr _ _ _ _ | exact loc_fail
  case index => split <;> first | exact loc_ixStr _ _ | exact loc_ty fun i => loc_ite (loc_ixAgg1 _ _ _) loc_fail | exact loc_fail
  case lookup =>
    split
    · refine loc_ty fun i => ?_
      split <;> first | exact loc_lkp _ _ _ _ _ | exact loc_fail
    · exact loc_fail
  case mapUpdate =>
    split
    · split <;> first | exact loc_mupd _ _ _ _ | exact loc_fail
    · exact loc_fail
  case extract => exact loc_extr _ _
  case call =>
    split
    · exact loc_callV hC _ _
    · exact loc_builtin _ _ _
    · exact loc_fail
theorem loc_execG {C : CallTab} (hC : CLoc C) (ops : List Oper) (rs : Option Nat) (env : Env) (o : Oper) : LocP (fun id => rs = some id) (execG P C ops rs env o) := by
  unfold execG
  split
  · exact loc_exec hC _ _ _
  · exact loc_gd _ _ (loc_exec hC _ _ _)

theorem loc_runOps {α : Type} {C : CallTab} (hC : CLoc C) (ops : List Oper) : ∀ (l : List Oper) (env : Env) (K : Env → AM α), (∀ env, LocP S (K env)) → LocP S (runOps P C ops l env K)
  | [], env, K, hK => hK env
  | o :: l, env, K, hK => by
    unfold runOps
    split
    · exact loc_runOps hC ops l _ K hK
    · exact loc_bnd ((loc_execG hC ops none env o).mono fun id h => by cases h) fun _ => loc_runOps hC ops l _ K hK

end
end Go.Am

end

section
set_option linter.unusedSimpArgs false
set_option linter.unusedVariables false
/- The abstract machine, part M: loops without a bound; the order of a region that draws does not matter. -/
namespace Go.Am
section
variable {P : Program} {S : Nat → Prop}

theorem loopN_step (body : List AVal → AM (Ex × List AVal)) (n : Nat) (s : List AVal) (H : AHeap) (r : (Ex × List AVal) × AHeap) :
    loopN body (n + 1) s H = some r ↔ (∃ s' H1, body s H = some ((.normal, s'), H1) ∧ loopN body n s' H1 = some r) ∨ (r.1.1 ≠ .normal ∧ body s H = some r) := by
  simp only [loopN]
  rw [show r = (r.1, r.2) from rfl, bnd_some]
  constructor
  · rintro ⟨⟨e, s'⟩, H1, h1, h2⟩
    cases e with
    | normal => exact .inl ⟨s', H1, h1, h2⟩
    | exit id => obtain ⟨e1, e2⟩ := ret_some.1 h2; right; rw [← e1, ← e2]; exact ⟨by simp, h1⟩
    | ret => obtain ⟨e1, e2⟩ := ret_some.1 h2; right; rw [← e1, ← e2]; exact ⟨by simp, h1⟩
  · rintro (⟨s', H1, h1, h2⟩ | ⟨h1, h2⟩)
    · exact ⟨_, _, h1, h2⟩
    · obtain ⟨⟨e, s'⟩, H1⟩ := r
      refine ⟨_, _, h2, ?_⟩
      cases e with
      | normal => exact absurd rfl h1
      | exit id => rfl
      | ret => rfl
theorem loopN_det (body : List AVal → AM (Ex × List AVal)) : ∀ (n m : Nat) (s : List AVal) (H : AHeap) (r r' : (Ex × List AVal) × AHeap), loopN body n s H = some r → loopN body m s H = some r' → r = r'
  | 0, m, s, H, r, r', h, h' => by simp [loopN, fail] at h
  | n + 1, 0, s, H, r, r', h, h' => by simp [loopN, fail] at h'
  | n + 1, m + 1, s, H, r, r', h, h' => by
    rcases (loopN_step body n s H r).1 h with ⟨s1, H1, h1, h2⟩ | ⟨h1, h2⟩ <;> rcases (loopN_step body m s H r').1 h' with ⟨s1', H1', h1', h2'⟩ | ⟨h1', h2'⟩
    · rw [h1] at h1'
      cases h1'
      exact loopN_det body n m s1 H1 r r' h2 h2'
    · rw [h1] at h2'
      cases h2'
      exact absurd rfl h1'
    · rw [h2] at h1'
      cases h1'
      exact absurd rfl h1
    · rw [h2] at h2'
      cases h2'
      rfl
theorem loopL_of {body : List AVal → AM (Ex × List AVal)} {n : Nat} {s : List AVal} {H : AHeap} {r : (Ex × List AVal) × AHeap} (h : loopN body n s H = some r) : loopL body s H = some r := by
  have hex : ∃ n r, loopN body n s H = some r := ⟨n, r, h⟩
  unfold loopL
  rw [dif_pos hex]
  congr 1
  exact loopN_det body _ n s H _ _ hex.choose_spec.choose_spec h
theorem loopL_some {body : List AVal → AM (Ex × List AVal)} {s : List AVal} {H : AHeap} {r : (Ex × List AVal) × AHeap} : loopL body s H = some r ↔ ∃ n, loopN body n s H = some r := by
  constructor
  · intro h
    unfold loopL at h
    split at h
    · rename_i hex
      cases h
      exact ⟨_, hex.choose_spec.choose_spec⟩
    · cases h
  · rintro ⟨n, h⟩; exact loopL_of h
/-- One round of a loop. -/
theorem loopL_step {body : List AVal → AM (Ex × List AVal)} {s s' : List AVal} {H H1 : AHeap} (h : body s H = some ((.normal, s'), H1)) : loopL body s H = loopL body s' H1 := by
  cases hq : loopL body s' H1 with
  | some r =>
    obtain ⟨n, hn⟩ := loopL_some.1 hq
    exact loopL_of ((loopN_step body n s H r).2 (.inl ⟨s', H1, h, hn⟩))
  | none =>
    cases hp : loopL body s H with
    | none => rfl
    | some r =>
      obtain ⟨n, hn⟩ := loopL_some.1 hp
      cases n with
      | zero => simp [loopN, fail] at hn
      | succ n =>
        rcases (loopN_step body n s H r).1 hn with ⟨s1, H2, h1, h2⟩ | ⟨h1, h2⟩
        · rw [h] at h1
          cases h1
          rw [loopL_of h2] at hq
          cases hq
        · rw [h] at h2
          cases h2
          exact absurd rfl h1
/-- The end of a loop. -/
theorem loopL_end {body : List AVal → AM (Ex × List AVal)} {s : List AVal} {H : AHeap} {r : (Ex × List AVal) × AHeap} (h : body s H = some r) (he : r.1.1 ≠ .normal) : loopL body s H = some r :=
  loopL_of (n := 1) ((loopN_step body 0 s H r).2 (.inr ⟨he, h⟩))
theorem loc_loopN {body : List AVal → AM (Ex × List AVal)} (hb : ∀ s, LocP S (body s)) : ∀ (n : Nat) (s : List AVal), LocP S (loopN body n s)
  | 0, s => loc_fail
  | n + 1, s => by
    unfold loopN
    refine loc_bnd (hb s) fun r => ?_
    split
    · exact loc_loopN hb n _
    · exact loc_ret _
theorem loc_loopL {body : List AVal → AM (Ex × List AVal)} (hb : ∀ s, LocP S (body s)) (s : List AVal) : LocP S (loopL body s) := by
  intro E H a H' hd hS hr
  obtain ⟨n, hn⟩ := loopL_some.1 hr
  obtain ⟨h1, h2⟩ := loc_loopN hb n s E H a H' hd hS hn
  exact ⟨loopL_of h1, h2⟩

end
end Go.Am

end

section
set_option linter.unusedSimpArgs false
set_option linter.unusedVariables false
/- The abstract machine, part N: the order in which a region is run does not matter. -/
namespace Go.Am
section
variable {P : Program}

theorem ev_congr {env env' : Env} {x : Operand} (h : ∀ t, x = .tmp t → env.getD t .undef = env'.getD t .undef) : ev env x = ev env' x := by
  cases x with
  | tmp t => exact h t rfl
  | _ => rfl
theorem exec_congr {C : CallTab} {rs : Option Nat} {env env' : Env} {o : Oper} (h : ∀ x ∈ o.op.operands, ev env x = ev env' x) : exec P C rs env o = exec P C rs env' o := by
  have parts : ∀ ps : Array (Nat × Operand), (∀ x ∈ ps.map (·.2), ev env x = ev env' x) → (ps.toList.map fun (i, x) => (i, ev env x)) = (ps.toList.map fun (i, x) => (i, ev env' x)) := fun ps hp =>
    List.map_congr_left fun p hm => by
      obtain ⟨i, x⟩ := p
      simp only [hp x (Array.mem_map.2 ⟨(i, x), Array.mem_def.2 hm, rfl⟩)]
  have opt : ∀ l : Option Operand, (∀ x ∈ l.toArray, ev env x = ev env' x) → l.map (ev env) = l.map (ev env') := fun l hl => by
    cases l with
    | none => rfl
    | some x => simp only [Option.map_some, hl x (by simp)]
  have lst : ∀ l : Array Operand, (∀ x ∈ l, ev env x = ev env' x) → l.toList.map (ev env) = l.toList.map (ev env') := fun l hl => List.map_congr_left fun x hx => hl x (Array.mem_def.2 hx)
  unfold exec
  cases hop : o.op <;> simp only [hop, Op.operands] at h <;> simp only
  case move x => rw [h x (by simp)]
  case assign x => rw [h x (by simp)]
  case pick c a b => rw [h c (by simp), h a (by simp), h b (by simp)]
  case box e x => rw [h x (by simp)]
  case build t ps => rw [parts ps fun x hx => h x (by simpa using hx)]
  case buildSlice t n ps => rw [parts ps fun x hx => h x (by simpa using hx)]
  case load t a => rw [h a (by simp)]
  case store t a x => rw [h a (by simp), h x (by simp)]
  case nilCheck x => rw [h x (by simp)]
  case binOp op t x y yt => rw [h x (by simp), h y (by simp)]
  case unOp op t x => rw [h x (by simp)]
  case convert s d x => rw [h x (by simp)]
  case makeFunc fn f c => rw [lst f fun x hx => h x (by simp [hx]), lst c fun x hx => h x (by simp [hx])]
  case makeMap t r =>
    cases r with
    | none => rfl
    | some x => simp only [h x (by simp)]
  case makeSlice t l c => rw [h l (by simp), h c (by simp)]
  case slice t x lo hi mx => rw [h x (by simp), opt lo fun y hy => h y (by simp at hy ⊢; simp [hy]), opt hi fun y hy => h y (by simp at hy ⊢; simp [hy])]
  case fieldAddr s x f => rw [h x (by simp)]
  case field t x f => rw [h x (by simp)]
  case indexAddr t x i => rw [h x (by simp), h i (by simp)]
  case index t x i => rw [h x (by simp), h i (by simp)]
  case lookup t m k ok => rw [h m (by simp), h k (by simp)]
  case mapUpdate t m k x => rw [h m (by simp), h k (by simp), h x (by simp)]
  case extract x i => rw [h x (by simp)]
  case call c =>
    have ha : c.args.toList.map (ev env) = c.args.toList.map (ev env') := lst c.args fun x hx => h x (by simp [Call.operands, hx])
    rw [ha]
    cases hc : c.callee with
    | value f => simp only [h f (by simp [Call.operands, hc])]
    | builtin b => rfl
    | invoke x n => rfl
def Agree (ops : List Oper) (o : Oper) (env env' : Env) : Prop := ∀ t ∈ o.looksAt ops.toArray, env.getD t .undef = env'.getD t .undef
theorem execG_congr {C : CallTab} {ops : List Oper} {rs : Option Nat} {env env' : Env} {o : Oper} (h : Agree ops o env env') : execG P C ops rs env o = execG P C ops rs env' o := by
  have he : exec P C rs env o = exec P C rs env' o := exec_congr fun x hx => ev_congr fun t ht => by
    subst ht
    refine h t ?_
    simp only [Oper.looksAt, List.mem_append, List.mem_filterMap]
    exact .inl ⟨.tmp t, Array.mem_def.1 hx, rfl⟩
  unfold execG
  rw [he]
  cases hg : o.guard with
  | none => rfl
  | some jw =>
    obtain ⟨j, w⟩ := jw
    simp only
    congr 1
    unfold yv
    cases hj : ops[j]? with
    | none => rfl
    | some oj =>
      cases hd : oj.dst with
      | none => simp [hd]
      | some d =>
        simp only [hd]
        refine h d ?_
        simp [Oper.looksAt, hg, hj, hd]
theorem Agree.put {ops : List Oper} {o : Oper} {env env' : Env} (h : Agree ops o env env') {dst : Option Tmp} (hd : ∀ d, dst = some d → d ∉ o.looksAt ops.toArray) (v : AVal) : Agree ops o (putE env dst v) env' := by
  intro t ht
  rw [← h t ht]
  cases dst with
  | none => rfl
  | some d =>
    have : d ≠ t := fun e => hd d rfl (e ▸ ht)
    simp [putE, List.getD, List.getElem?_set_ne this]
theorem Agree.unput {ops : List Oper} {o : Oper} {env env' : Env} {dst : Option Tmp} {v : AVal} (h : Agree ops o (putE env dst v) env') (hd : ∀ d, dst = some d → d ∉ o.looksAt ops.toArray) : Agree ops o env env' := by
  intro t ht
  rw [← h t ht]
  cases dst with
  | none => rfl
  | some d =>
    have : d ≠ t := fun e => hd d rfl (e ▸ ht)
    simp [putE, List.getD, List.getElem?_set_ne this]
theorem putE_comm (env : Env) {x y : Option Tmp} (u v : AVal) (h : ∀ d, x = some d → y ≠ some d) : putE (putE env x u) y v = putE (putE env y v) x u := by
  cases x with
  | none => rfl
  | some d =>
    cases y with
    | none => rfl
    | some e =>
      have hne : d ≠ e := fun he => h d rfl (he ▸ rfl)
      simp only [putE]
      exact List.set_comm _ _ hne

/-! ### What the kinds mean -/
def PureK (m : AM AVal) : Prop := ∀ H r H', m H = some (r, H') → H' = H ∧ ∀ H2, m H2 = some (r, H2)
def ReadK (m : AM AVal) : Prop := ∀ H r H', m H = some (r, H') → H' = H
def single (id : Nat) (o : AObj) : Extra := fun i => if i = id then some o else none
def AllocK (id : Nat) (m : AM AVal) : Prop := ∀ H r H', m H = some (r, H') → (H' = H ∧ ∀ H2, m H2 = some (r, H2)) ∨
  ∃ o, H' = H.add (single id o) ∧ H.get id = none ∧ id < H.next ∧ ∀ H2 : AHeap, H2.get id = none → id < H2.next → m H2 = some (r, H2.add (single id o))
theorem pureK_ret (x : AVal) : PureK (ret x) := fun H r H' h => by
  obtain ⟨rfl, rfl⟩ := ret_some.1 h
  exact ⟨rfl, fun _ => rfl⟩
theorem pureK_fail : PureK fail := fun H r H' h => by simp [fail] at h
theorem pureK_ite {c : Prop} [Decidable c] {x y : AM AVal} (hx : PureK x) (hy : PureK y) : PureK (if c then x else y) := by split <;> assumption
theorem PureK.read {m : AM AVal} (h : PureK m) : ReadK m := fun H r H' hr => (h H r H' hr).1
theorem pureK_gd (c : AVal) (b : Bool) {m : AM AVal} (hm : PureK m) : PureK (gd c b m) := by
  unfold gd
  split
  · exact pureK_ite hm (pureK_ret _)
  · exact pureK_ret _
  · exact pureK_fail
theorem readK_ite {c : Prop} [Decidable c] {x y : AM AVal} (hx : ReadK x) (hy : ReadK y) : ReadK (if c then x else y) := by split <;> assumption
theorem allocK_ite {id : Nat} {c : Prop} [Decidable c] {x y : AM AVal} (hx : AllocK id x) (hy : AllocK id y) : AllocK id (if c then x else y) := by split <;> assumption
theorem readK_gd (c : AVal) (b : Bool) {m : AM AVal} (hm : ReadK m) : ReadK (gd c b m) := by
  unfold gd
  split
  · exact readK_ite hm (pureK_ret _).read
  · exact (pureK_ret _).read
  · exact pureK_fail.read
theorem PureK.alloc {m : AM AVal} (h : PureK m) (id : Nat) : AllocK id m := fun H r H' hr => .inl (h H r H' hr)
theorem allocK_gd (id : Nat) (c : AVal) (b : Bool) {m : AM AVal} (hm : AllocK id m) : AllocK id (gd c b m) := by
  unfold gd
  split
  · exact allocK_ite hm ((pureK_ret _).alloc id)
  · exact (pureK_ret _).alloc id
  · exact pureK_fail.alloc id
theorem pureK_ty {t : TypeId} {k : TypeInfo → AM AVal} (h : ∀ i, PureK (k i)) : PureK (ty P t k) := by
  unfold ty; split
  · exact h _
  · exact pureK_fail
theorem readK_ty {t : TypeId} {k : TypeInfo → AM AVal} (h : ∀ i, ReadK (k i)) : ReadK (ty P t k) := by
  unfold ty; split
  · exact h _
  · exact pureK_fail.read
theorem allocK_ty {id : Nat} {t : TypeId} {k : TypeInfo → AM AVal} (h : ∀ i, AllocK id (k i)) : AllocK id (ty P t k) := by
  unfold ty; split
  · exact h _
  · exact pureK_fail.alloc id
/-- A computation that does not touch the heap, of whatever type. -/
def PureA {α : Type} (m : AM α) : Prop := ∀ H r H', m H = some (r, H') → H' = H ∧ ∀ H2, m H2 = some (r, H2)
theorem pureA_ret {α : Type} (x : α) : PureA (ret x) := fun H r H' h => by
  obtain ⟨rfl, rfl⟩ := ret_some.1 h
  exact ⟨rfl, fun _ => rfl⟩
theorem pureA_fail {α : Type} : PureA (fail : AM α) := fun H r H' h => by simp [fail] at h
theorem pureA_bnd {α β : Type} {m : AM α} {f : α → AM β} (hm : PureA m) (hf : ∀ a, PureA (f a)) : PureA (bnd m f) := fun H r H' h => by
  obtain ⟨a, H1, h1, h2⟩ := bnd_some.1 h
  obtain ⟨rfl, g1⟩ := hm _ _ _ h1
  obtain ⟨rfl, g2⟩ := hf a _ _ _ h2
  exact ⟨rfl, fun H2 => bnd_some.2 ⟨a, H2, g1 H2, g2 H2⟩⟩
theorem pureA_ite {α : Type} {c : Prop} [Decidable c] {x y : AM α} (hx : PureA x) (hy : PureA y) : PureA (if c then x else y) := by split <;> assumption
theorem pureA_cell1 (v : AVal) : PureA (cell1 v) := by unfold cell1; split <;> first | exact pureA_ret _ | exact pureA_fail
theorem pureA_cellsN (n : Nat) (v : AVal) : PureA (cellsN n v) := by unfold cellsN; split <;> first | exact pureA_fail | exact pureA_ite (pureA_ret _) pureA_fail
theorem pureA_fill (place : Nat → Option (Nat × Nat)) : ∀ (ps : List (Nat × AVal)) (cells : List AVal), PureA (afillM place ps cells)
  | [], cells => pureA_ret _
  | (i, v) :: ps, cells => by
    unfold afillM
    cases place i with
    | none => exact pureA_fail
    | some p =>
      obtain ⟨off, size⟩ := p
      exact pureA_ite (pureA_ite (pureA_bnd (pureA_cell1 _) fun _ => pureA_fill place ps _) (pureA_bnd (pureA_cellsN _ _) fun _ => pureA_fill place ps _)) pureA_fail
theorem allocK_bnd {α : Type} {id : Nat} {m : AM α} {f : α → AM AVal} (hm : PureA m) (hf : ∀ a, AllocK id (f a)) : AllocK id (bnd m f) := fun H r H' h => by
  obtain ⟨a, H1, h1, h2⟩ := bnd_some.1 h
  obtain ⟨rfl, g1⟩ := hm _ _ _ h1
  rcases hf a _ _ _ h2 with ⟨e, g2⟩ | ⟨o, e1, e2, e3, g2⟩
  · exact .inl ⟨e, fun H2 => bnd_some.2 ⟨a, H2, g1 H2, g2 H2⟩⟩
  · exact .inr ⟨o, e1, e2, e3, fun H2 k1 k2 => bnd_some.2 ⟨a, H2, g1 H2, g2 H2 k1 k2⟩⟩
theorem set_add {H : AHeap} {id : Nat} {o : AObj} (h : H.get id = none) : H.set id o = H.add (single id o) := by
  simp only [AHeap.set, AHeap.add, single, AHeap.mk.injEq, and_true]
  funext i
  by_cases e : i = id
  · subst e; simp [h]
  · cases hg : H.get i <;> simp [e]
theorem allocK_newB (id : Nat) (o : AObj) {f : Nat → AM AVal} (hf : ∀ i, ∃ v, f i = ret v) : AllocK id (bnd (newB (some id) o) f) := fun H r H' h => by
  obtain ⟨a, H1, h1, h2⟩ := bnd_some.1 h
  simp only [newB] at h1
  cases hg : H.get id with
  | some x => simp [hg] at h1
  | none =>
    simp only [hg] at h1
    split at h1
    · rename_i hlt
      simp only [Option.some.injEq, Prod.mk.injEq] at h1
      obtain ⟨rfl, rfl⟩ := h1
      obtain ⟨v, hv⟩ := hf id
      rw [hv] at h2
      obtain ⟨rfl, rfl⟩ := ret_some.1 h2
      refine .inr ⟨o, set_add hg, rfl, hlt, fun H2 k1 k2 => ?_⟩
      refine bnd_some.2 ⟨id, H2.add (single id o), ?_, by rw [hv]; rfl⟩
      simp only [newB, k1, k2, if_true, set_add k1]
    · cases h1
theorem allocK_allocC (id : Nat) (e : TypeId) (cs : List AVal) : AllocK id (allocC (some id) e cs) := allocK_newB _ _ fun _ => ⟨_, rfl⟩
theorem allocK_allocS (id : Nat) (e : TypeId) (s l : Nat) (cs : List AVal) : AllocK id (allocS (some id) e s l cs) := allocK_newB _ _ fun _ => ⟨_, rfl⟩

theorem pureK_of {op : Op} {C : CallTab} {rs : Option Nat} {env : Env} {o : Oper} (ho : o.op = op) (hk : kindOf P op = .pure) : PureK (exec P C rs env o) := by
  unfold exec
  rw [ho]
  cases op <;> simp only [kindOf] at hk <;> simp only <;> (try exact pureK_fail) <;> (try (cases hk; done))
  case move => exact pureK_ret _
  case assign => exact pureK_ret _
  case pick => unfold pick3; split <;> first | exact pureK_ret _ | exact pureK_fail
  case build =>
    refine pureK_ty fun i => ?_
    split
    · split
      · exact pureA_bnd (pureA_fill _ _ _) fun _ => pureA_ret _
      · exact pureK_fail
    · exact pureK_ty fun j => pureA_bnd (pureA_fill _ _ _) fun _ => pureA_ret _
    · exact pureK_fail
  case nilCheck => unfold ncheck; split <;> first | exact pureK_ret _ | exact pureK_fail
  case binOp op t x y yt =>
    have h1 : ∀ x y, PureK (abin op x y) := by
      intro x y
      cases x <;> cases y <;> try (cases op <;> exact pureK_fail)
      all_goals
        cases op <;> simp only [abin, wr, ibits] <;> first
          | exact pureK_ret _
          | exact pureK_fail
          | exact pureK_ite pureK_fail (pureK_ret _)
          | exact pureK_ite (pureK_ret _) pureK_fail
          | exact pureK_ite pureK_fail (pureK_ite pureK_fail (pureK_ret _))
    have h2 : ∀ d n x y, PureK (aeq d n x y) := by intro d n x y; unfold aeq; split <;> first | exact pureK_ret _ | exact pureK_fail
    unfold abinT
    split
    · exact h1 _ _
    · exact h1 _ _
    · split <;> first | exact h2 _ _ _ _ | exact pureK_fail
    · exact pureK_fail
  case unOp => unfold aun; split <;> first | exact pureK_ret _ | exact pureK_fail
  case convert s d x =>
    split
    · unfold cvInt; split <;> first | exact pureK_ret _ | exact pureK_fail
    · unfold cvStr; split <;> first | exact pureK_ret _ | exact pureK_fail
    · rename_i e hs hd; simp [hs, hd] at hk
    · rename_i e hs hd; simp [hs, hd] at hk
    · exact pureK_fail
  case makeInterface => split <;> first | exact pureK_ret _ | exact pureK_fail
  case makeFunc => exact pureK_ret _
  case slice =>
    split
    · exact pureK_fail
    · split
      · refine pureK_ty fun i => ?_
        unfold slS; split
        · split <;> first | exact pureK_ret _ | exact pureK_fail
        · split
          · exact pureK_ite (pureK_ret _) pureK_fail
          · exact pureK_fail
        · exact pureK_fail
      · unfold slStr; split
        · split <;> first | exact pureK_ret _ | exact pureK_fail
        · exact pureK_fail
      · exact pureK_fail
  case fieldAddr =>
    split
    · refine pureK_ty fun i => pureK_ite pureK_fail ?_
      unfold fadd; split <;> first | exact pureK_ret _ | exact pureK_fail
    · exact pureK_fail
  case field =>
    split
    · split
      · refine pureK_ty fun i => ?_
        unfold fldn; split
        · exact pureK_ite (pureK_ret _) pureK_fail
        · exact pureK_fail
      · unfold fld1; split
        · split <;> first | exact pureK_ret _ | exact pureK_fail
        · exact pureK_fail
      · exact pureK_fail
    · exact pureK_fail
  case indexAddr =>
    split
    · refine pureK_ty fun i => ?_
      unfold ixa; split
      · exact pureK_ite (pureK_ret _) pureK_fail
      · exact pureK_fail
    · refine pureK_ty fun i => ?_
      unfold ixArr; split
      · exact pureK_ite (pureK_ret _) pureK_fail
      · exact pureK_fail
    · exact pureK_fail
  case index =>
    split
    · unfold ixStr; split
      · split
        · split <;> first | exact pureK_ret _ | exact pureK_fail
        · exact pureK_fail
      · exact pureK_fail
    · refine pureK_ty fun i => pureK_ite ?_ pureK_fail
      unfold ixAgg1; split
      · split
        · split <;> first | exact pureK_ret _ | exact pureK_fail
        · exact pureK_fail
      · exact pureK_fail
    · exact pureK_fail
  case extract =>
    unfold extr; split
    · split <;> first | exact pureK_ret _ | exact pureK_fail
    · exact pureK_fail
  case call c =>
    have hf : ∀ (f : AVal → AVal → AM AVal), (∀ x y, PureK (f x y)) → ∀ (l : List AVal) (x : AVal), PureK (afoldM f l x) := by
      intro f hf l
      induction l with
      | nil => intro x; exact pureK_ret _
      | cons y l ih => intro x; exact pureA_bnd (hf x y) fun z => ih z
    cases hc : c.callee with
    | value f => simp [hc] at hk
    | invoke x n => simp [hc] at hk
    | builtin b =>
      simp only [hc] at hk ⊢
      cases b <;> try (cases hk; done)
      · simp only [abuiltin]
        split
        · exact hf _ (fun x y => by unfold amax2; split <;> first | exact pureK_ret _ | exact pureK_fail) _ _
        · exact pureK_fail
      · simp only [abuiltin]
        split
        · exact hf _ (fun x y => by unfold amin2; split <;> first | exact pureK_ret _ | exact pureK_fail) _ _
        · exact pureK_fail
theorem readK_lenM (x : AVal) : ReadK (lenM x) := by
  intro H r H' h
  cases x <;> try (simp [lenM] at h; done)
  · simp only [lenM, Option.some.injEq, Prod.mk.injEq] at h; exact h.2.symm
  · rename_i id
    simp only [lenM] at h
    cases hq : H.get id with
    | none => simp [hq] at h
    | some ob =>
      cases ob <;> try (simp [hq] at h; done)
      simp only [hq, Option.some.injEq, Prod.mk.injEq] at h; exact h.2.symm
theorem readK_of {op : Op} {C : CallTab} {rs : Option Nat} {env : Env} {o : Oper} (ho : o.op = op) (hk : kindOf P op = .read) : ReadK (exec P C rs env o) := by
  have hld1 : ∀ v, ReadK (ld1 v) := by
    intro v H r H' h
    cases v <;> try (simp [ld1] at h; done)
    rename_i id off
    simp only [ld1] at h
    cases hc : rd id H with
    | none => simp [hc] at h
    | some c =>
      simp only [hc] at h
      cases hv : c[off]? with
      | none => simp [hv] at h
      | some x => simp only [hv, Option.some.injEq, Prod.mk.injEq] at h; exact h.2.symm
  have hldn : ∀ n v, ReadK (ldn n v) := by
    intro n v H r H' h
    cases v <;> try (simp [ldn] at h; done)
    rename_i id off
    simp only [ldn] at h
    cases hc : rd id H with
    | none => simp [hc] at h
    | some c =>
      simp only [hc] at h
      split at h
      · simp only [Option.some.injEq, Prod.mk.injEq] at h; exact h.2.symm
      · cases h
  unfold exec
  rw [ho]
  cases op <;> simp only [kindOf] at hk <;> simp only <;> try (cases hk; done)
  case load =>
    split
    · exact readK_ty fun i => hldn _ _
    · exact hld1 _
    · exact pureK_fail.read
  case convert s d x =>
    cases hs : P.underlying s with
    | none => simp [hs] at hk
    | some ds =>
      cases hd : P.underlying d with
      | none => simp [hs, hd] at hk
      | some dd =>
        cases ds <;> cases dd <;> simp only [hs, hd] at hk <;> try (cases hk; done)
        simp only [hs, hd]
        split
        · intro H r H' h
          generalize ev env x = v at h
          cases v <;> try (simp [b2s] at h; done)
          · simp only [b2s, Option.some.injEq, Prod.mk.injEq] at h; exact h.2.symm
          · rename_i id off len sz
            simp only [b2s] at h
            cases hc : srcCells 1 (.slice id off len sz) len H with
            | none => simp [hc] at h
            | some cs =>
              simp only [hc] at h
              cases hb : bytesStr cs with
              | none => simp [hb] at h
              | some t => simp only [hb, Option.some.injEq, Prod.mk.injEq] at h; exact h.2.symm
        · exact pureK_fail.read
  case lookup t m k ok =>
    split
    · refine readK_ty fun i => ?_
      split
      · intro H r H' h
        generalize ev env m = mv at h
        generalize ev env k = kv at h
        unfold lkp at h
        split at h
        · cases mv <;> try (simp at h; done)
          · simp only [Option.some.injEq, Prod.mk.injEq] at h; exact h.2.symm
          · rename_i id
            simp only at h
            cases hq : H.get id with
            | none => simp [hq] at h
            | some ob =>
              cases ob <;> try (simp [hq] at h; done)
              rename_i es
              simp only [hq] at h
              cases hf : findK kv es with
              | none => simp [hf] at h
              | some q => cases q <;> simp only [hf, Option.some.injEq, Prod.mk.injEq] at h <;> exact h.2.symm
        · cases h
      · exact pureK_fail.read
    · exact pureK_fail.read
  case call c =>
    cases hc : c.callee with
    | value f => simp [hc] at hk
    | invoke x n => simp [hc] at hk
    | builtin b =>
      simp only [hc] at hk ⊢
      cases b <;> try (cases hk; done)
      simp only [abuiltin]
      split
      · split
        · unfold abLen
          split
          · unfold lenT; split <;> first | exact (pureK_ret _).read | exact pureK_fail.read
          · unfold lenA; split <;> first | exact (pureK_ret _).read | exact pureK_fail.read
          · exact (pureK_ret _).read
          · exact readK_lenM _
          · exact pureK_fail.read
        · exact pureK_fail.read
      · exact pureK_fail.read
theorem allocK_of {op : Op} {C : CallTab} {id : Nat} {env : Env} {o : Oper} (ho : o.op = op) (hk : kindOf P op = .alloc) : AllocK id (exec P C (some id) env o) := by
  unfold exec
  rw [ho]
  cases op <;> simp only [kindOf] at hk <;> simp only <;> try (cases hk; done)
  case alloc =>
    refine allocK_ty fun i => ?_
    split
    · exact allocK_allocC _ _ _
    · exact pureK_fail.alloc _
  case box => unfold boxA; exact allocK_ite (allocK_bnd (pureA_cell1 _) fun _ => allocK_allocC _ _ _) (allocK_bnd (pureA_cellsN _ _) fun _ => allocK_allocC _ _ _)
  case buildSlice =>
    split
    · refine allocK_ty fun i => allocK_ite ?_ (pureK_fail.alloc _)
      split
      · exact allocK_ite (allocK_bnd (pureA_fill _ _ _) fun _ => allocK_allocS _ _ _ _ _) (pureK_fail.alloc _)
      · exact pureK_fail.alloc _
    · exact pureK_fail.alloc _
  case convert s d x =>
    cases hs : P.underlying s with
    | none => simp [hs] at hk
    | some ds =>
      cases hd : P.underlying d with
      | none => simp [hs, hd] at hk
      | some dd =>
        cases ds <;> cases dd <;> simp only [hs, hd] at hk <;> try (cases hk; done)
        simp only [hs, hd]
        split
        · unfold s2b
          split
          · exact allocK_ite (allocK_allocS _ _ _ _ _) (pureK_fail.alloc _)
          · exact pureK_fail.alloc _
        · exact pureK_fail.alloc _
  case makeMap =>
    split
    · exact allocK_newB _ _ fun _ => ⟨_, rfl⟩
    · split
      · exact allocK_newB _ _ fun _ => ⟨_, rfl⟩
      · exact pureK_fail.alloc _
  case makeSlice =>
    split
    · refine allocK_ty fun i => ?_
      split
      · refine allocK_ite ?_ (pureK_fail.alloc _)
        unfold mkS
        split
        · exact allocK_ite (allocK_allocS _ _ _ _ _) (pureK_fail.alloc _)
        · exact pureK_fail.alloc _
      · exact pureK_fail.alloc _
    · exact pureK_fail.alloc _
  case call c =>
    cases hc : c.callee with
    | value f => simp [hc] at hk
    | invoke x n => simp [hc] at hk
    | builtin b => cases b <;> simp [hc] at hk
theorem execG_pure {C : CallTab} {ops : List Oper} {rs : Option Nat} {env : Env} {o : Oper} (hk : kindOf P o.op = .pure) : PureK (execG P C ops rs env o) := by
  unfold execG; split
  · exact pureK_of rfl hk
  · exact pureK_gd _ _ (pureK_of rfl hk)
theorem execG_read {C : CallTab} {ops : List Oper} {rs : Option Nat} {env : Env} {o : Oper} (hk : kindOf P o.op = .read) : ReadK (execG P C ops rs env o) := by
  unfold execG; split
  · exact readK_of rfl hk
  · exact readK_gd _ _ (readK_of rfl hk)
theorem execG_alloc {C : CallTab} {ops : List Oper} {id : Nat} {env : Env} {o : Oper} (hk : kindOf P o.op = .alloc) : AllocK id (execG P C ops (some id) env o) := by
  unfold execG; split
  · exact allocK_of rfl hk
  · exact allocK_gd _ _ _ (allocK_of rfl hk)

end
end Go.Am

end
