import GoSem.Dispatch
import GoSem.Core.Region
import GoSem.Machine.Frame
import Derived.Laws.World
import Derived.Laws.Sem
section
/- A deterministic evaluator of the model's code, over an abstract memory: the definitions. -/
namespace Go.Dv

def fNat {α : Type} (n : Nat) (k : Nat → α) : α := match n with | 0 => k 0 | m + 1 => k (m + 1)
def fInt {α : Type} (n : Int) (k : Int → α) : α := match n with | .ofNat a => fNat a fun a => k (.ofNat a) | .negSucc a => fNat a fun a => k (.negSucc a)
def fBool {α : Type} (b : Bool) (k : Bool → α) : α := match b with | true => k true | false => k false

/- temporaries: a tree by the bits of the index; 'none' at a node: what stands there is not known -/
inductive Tr where
  | leaf
  | node (l : Tr) (v : Option Value) (r : Tr)

def undefV : Value := .tuple #[]

def Tr.mk : Nat → Tr
  | 0 => .leaf
  | d + 1 => .node (Tr.mk d) (some undefV) (Tr.mk d)

def Tr.get : Tr → Nat → Option Value
  | .leaf, _ => none
  | .node l v r, k =>
    match Nat.beq k 0 with
    | true => v
    | false => match Nat.beq (Nat.mod k 2) 0 with
      | true => r.get (Nat.div (Nat.sub k 1) 2)
      | false => l.get (Nat.div (Nat.sub k 1) 2)

def Tr.set : Tr → Nat → Option Value → Tr
  | .leaf, _, _ => .leaf
  | .node l v r, k, x =>
    match Nat.beq k 0 with
    | true => .node l x r
    | false => match Nat.beq (Nat.mod k 2) 0 with
      | true => .node l v (r.set (Nat.div (Nat.sub k 1) 2) x)
      | false => .node (l.set (Nat.div (Nat.sub k 1) 2) x) v r

/- the kind of a map's keys -/
inductive Kk where
  | int (k : IntKind)
  | str
  | bool

/- blocks of the abstract memory. 'live': may be written and appended to; 'anc': an elder block that may share its cells; 'fz': cells below may be frozen -/
inductive Blk where
  | cells (c : List Value) (elem : TypeId) (live : Bool) (anc : Option Nat) (fz : Nat)
  | map (kk : Kk) (es : List (Value × Value))
  | hole

inductive Hp where
  | leaf
  | node (l : Hp) (b : Option Blk) (r : Hp)

def Hp.get : Hp → Nat → Option Blk
  | .leaf, _ => none
  | .node l v r, k =>
    match Nat.beq k 0 with
    | true => v
    | false => match Nat.beq (Nat.mod k 2) 0 with
      | true => r.get (Nat.div (Nat.sub k 1) 2)
      | false => l.get (Nat.div (Nat.sub k 1) 2)

def Hp.set : Nat → Hp → Nat → Blk → Hp
  | 0, h, _, _ => h
  | d + 1, .leaf, k, x =>
    match Nat.beq k 0 with
    | true => .node .leaf (some x) .leaf
    | false => match Nat.beq (Nat.mod k 2) 0 with
      | true => .node .leaf none (Hp.set d .leaf (Nat.div (Nat.sub k 1) 2) x)
      | false => .node (Hp.set d .leaf (Nat.div (Nat.sub k 1) 2) x) none .leaf
  | d + 1, .node l v r, k, x =>
    match Nat.beq k 0 with
    | true => .node l (some x) r
    | false => match Nat.beq (Nat.mod k 2) 0 with
      | true => .node l v (Hp.set d r (Nat.div (Nat.sub k 1) 2) x)
      | false => .node (Hp.set d l (Nat.div (Nat.sub k 1) 2) x) v r

structure St where
  hp : Hp
  n : Nat

def St.blk (s : St) (i : Nat) : Option Blk := s.hp.get i
def St.put (s : St) (i : Nat) (b : Blk) : St := { s with hp := Hp.set (Nat.succ i) s.hp i b }
def St.push (s : St) (b : Blk) : St := { hp := Hp.set (Nat.succ s.n) s.hp s.n b, n := Nat.succ s.n }

/- an unknown capacity is this number and an element's size -/
def big : Nat := 4611686018427387904
/- what is made here stays below -/
def room : Nat := 1048576

def pureRun {α : Type} (P : Program) : Sem α → Option α
  | .pure a => some a
  | .program k => pureRun P (k P)
  | _ => none

mutual
def scalar : Value → Bool
  | .bool _ | .int .. | .float .. | .complex .. | .string _ | .nilFunc | .nilIface => true
  | .pointer a => a.isNone
  | .slice a _ _ => a.isNone
  | .map a => a.isNone
  | .agg ⟨cs⟩ => scalars cs
  | .tuple ⟨cs⟩ => scalars cs
  | .iface _ v => scalar v
  | _ => false
def scalars : List Value → Bool
  | [] => true
  | v :: vs => match scalar v with | true => scalars vs | false => false
end

def evalO (P : Program) (tr : Tr) : Operand → Option Value
  | .tmp t => tr.get t
  | .const v => match scalar v with | true => some v | false => none
  | .global g => match Nat.blt g P.globals.size with | true => some (.pointer (some ⟨g, 0, none⟩)) | false => none
  | .func f => some (.func (.func f) #[] #[])

def evalL (P : Program) (tr : Tr) : List Operand → Option (List Value)
  | [] => some []
  | x :: xs => match evalO P tr x with
    | none => none
    | some v => match evalL P tr xs with | none => none | some vs => some (v :: vs)

def slc {α : Type} (c : List α) (off n : Nat) : List α := (c.drop off).take n

def upd : List Value → Nat → List Value → Option (List Value)
  | c, 0, vs => some (vs ++ c.drop vs.length)
  | [], _ + 1, _ => none
  | x :: c, o + 1, vs => match upd c o vs with | none => none | some r => some (x :: r)

def isAggD : Option TypeDesc → Bool
  | some (.struct _) | some (.array _ _) => true
  | _ => false

def sizeD (P : Program) (t : TypeId) : Option Nat := match P.info? t with | some i => some i.size | none => none
def zeroD (P : Program) (t : TypeId) : Option Value := match P.info? t with
  | some i => match i.zero with
    | some z => match scalar z with | true => some z | false => none
    | none => none
  | none => none

def isCell : Value → Bool
  | .agg _ | .tuple _ => false
  | _ => true

def allCells : List Value → Bool
  | [] => true
  | v :: vs => match isCell v with | true => allCells vs | false => false

/- an element's size and zero -/
def elemD (P : Program) (t : TypeId) : Option (Nat × List Value) := match P.info? t with
  | some i => match i.zero with
    | some z => match scalar z, Nat.beq i.size z.cells.toList.length, Nat.ble 1 i.size, Nat.ble i.bytes room, allCells z.cells.toList with
      | true, true, true, true, true => some (i.size, z.cells.toList)
      | _, _, _, _, _ => none
    | none => none
  | none => none

def repZ (z : List Value) : Nat → List Value
  | 0 => []
  | n + 1 => z ++ repZ z n

/- reads -/
inductive Rd where
  | load (i off n : Nat) (agg : Bool)
  | look (r : Option Nat) (k z : Value) (ok : Bool)
  | mlen (r : Nat)
  | bytes (i off n : Nat)

def keyEq : Value → Value → Bool
  | .int _ a, .int _ b => a == b
  | .string a, .string b => a.data.toList == b.data.toList
  | .bool a, .bool b => a == b
  | _, _ => false

def mapFind (k : Value) : List (Value × Value) → Option Value
  | [] => none
  | (a, b) :: es => match keyEq k a with | true => some b | false => mapFind k es

def mapSet (k v : Value) : List (Value × Value) → List (Value × Value)
  | [] => [(k, v)]
  | (a, b) :: es => match keyEq k a with | true => (k, v) :: es | false => (a, b) :: mapSet k v es

def mapDel (k : Value) : List (Value × Value) → List (Value × Value)
  | [] => []
  | (a, b) :: es => match keyEq k a with | true => es | false => (a, b) :: mapDel k es

def loadD (s : St) (i off n : Nat) : Option (List Value) :=
  match s.blk i with
  | some (.cells c _ _ _ _) => match Nat.ble (Nat.add off n) c.length with
    | true => some (slc c off n)
    | false => none
  | _ => none

def bytesD : List Value → Option (List UInt8)
  | [] => some []
  | .int .u8 (.ofNat n) :: vs => match bytesD vs with | some bs => some (UInt8.ofNat n :: bs) | none => none
  | _ => none

def okV (ok : Bool) (v : Value) (b : Bool) : Value := match ok with | true => .tuple #[v, .bool b] | false => v

def Kk.has : Kk → Value → Bool
  | .int k, .int k' _ => k == k'
  | .str, .string _ => true
  | .bool, .bool _ => true
  | _, _ => false

def rdVal (s : St) : Rd → Option Value
  | .load i off n true => match loadD s i off n with | some vs => some (.agg ⟨vs⟩) | none => none
  | .load i off _ false => match loadD s i off 1 with | some [v] => some v | _ => none
  | .look none _ z ok => some (okV ok z false)
  | .look (some r) k z ok => match s.blk r with
    | some (.map kk es) => match kk.has k with
      | true => match mapFind k es with
        | some v => some (okV ok v true)
        | none => some (okV ok z false)
      | false => none
    | _ => none
  | .mlen r => match s.blk r with
    | some (.map _ es) => fNat es.length fun n => some (goInt n)
    | _ => none
  | .bytes i off n => match Nat.beq n 0 with
    | true => some (.string .empty)
    | false => match loadD s i off n with
      | some vs => match bytesD vs with | some bs => some (.string ⟨⟨bs⟩⟩) | none => none
      | none => none

/- effects on memory, without calls -/
inductive Eff where
  | store (i off : Nat) (vs : List Value)
  | append (elem size : Nat) (base : Option Addr) (len cap : Nat) (x : Value) (zeros : Option (Nat × List Value))
  | copy (size : Nat) (base : Option Addr) (n : Nat) (x : Value)
  | clear (base : Option Addr) (vs : List Value)
  | mset (kk : Kk) (r : Nat) (k v : Value)
  | mdel (kk : Kk) (r : Option Nat) (k : Value)
  | toBytes (elem : TypeId) (b : ByteArray)
  | ustr (elem : TypeId) (i off n : Nat)

def bytesV (l : List UInt8) : List Value := l.map fun b => .int .u8 b.toNat

def kill (s : St) : Option Nat → Option St
  | none => some s
  | some k => match s.blk k with
    | some (.cells _ e false _ fz) => some (s.put k (.cells [] e false none fz))
    | _ => none

def storeD (s : St) (i off : Nat) (vs : List Value) : Option St :=
  match s.blk i with
  | some (.cells c e true anc fz) =>
    match Nat.ble (Nat.add off vs.length) c.length, Nat.ble fz off, allCells vs with
    | true, true, true => match kill s anc with
      | none => none
      | some s => match upd c off vs with
        | none => none
        | some c => some (s.put i (.cells c e true none fz))
    | _, _, _ => none
  | _ => none

def firstD (s : St) (size n : Nat) : Value → Option (List Value)
  | .slice (some ⟨i, off, none⟩) l _ => match Nat.ble n l with
    | true => match Nat.beq (Nat.mul n size) 0 with | true => some [] | false => loadD s i off (Nat.mul n size)
    | false => none
  | .slice none _ _ => match Nat.beq n 0 with | true => some [] | false => none
  | .string x => match Nat.beq size 1 with | true => some (bytesV (x.data.toList.take n)) | false => none
  | _ => none

def lenD : Value → Option Nat
  | .slice _ n _ => some n
  | .string s => some s.size
  | _ => none

/- an append of m elements, xs their cells -/
def appendD (s : St) (elem size : Nat) (base : Option Addr) (len cap : Nat) (xs : List Value) (m : Nat) : Option (Value × St) :=
  match Nat.beq m 0 with
  | true => match Nat.ble len cap with | true => some (.slice base len cap, s) | false => none
  | false =>
    match Nat.ble (Nat.add len m) room with
    | false => none
    | true =>
    match base with
    | none => match Nat.beq len 0, Nat.beq cap 0 with
      | true, true => fNat s.n fun i => some (.slice (some ⟨i, 0, none⟩) m (Nat.add big size), s.push (.cells xs elem true none 0))
      | _, _ => none
    | some ⟨b, off, none⟩ =>
      fNat (Nat.add len m) fun need =>
      match s.blk b with
      | some (.cells c e live anc fz) =>
        match Nat.beq e elem, Nat.ble (Nat.add off (Nat.mul len size)) c.length with
        | true, true =>
          match Nat.beq cap (Nat.add big size) with
          | true =>
            match live, Nat.ble fz (Nat.add off (Nat.mul len size)), kill s anc with
            | true, true, some s =>
              let s := s.put b (.cells (c.take (Nat.add off (Nat.mul len size))) e false none fz)
              fNat s.n fun i => some (.slice (some ⟨i, 0, none⟩) need (Nat.add big size), s.push (.cells (slc c off (Nat.mul len size) ++ xs) elem true (some b) (Nat.sub fz off)))
            | _, _, _ => none
          | false =>
            match Nat.ble big cap with
            | true => none
            | false =>
            match Nat.ble need cap with
            | true => match storeD s b (Nat.add off (Nat.mul len size)) xs with
              | none => none
              | some s => some (.slice (some ⟨b, off, none⟩) need cap, s)
            | false => fNat s.n fun i => some (.slice (some ⟨i, 0, none⟩) need (Nat.add big size), s.push (.cells (slc c off (Nat.mul len size) ++ xs) elem true none 0))
        | _, _ => none
      | _ => none
    | _ => none

def effD (s : St) : Eff → Option (Value × St)
  | .store i off vs => match storeD s i off vs with | some s => some (undefV, s) | none => none
  | .append elem size base len cap x z =>
    match z with
    | some (m, cs) => appendD s elem size base len cap (repZ cs m) m
    | none => match lenD x with
      | none => none
      | some m => fNat m fun m => match firstD s size m x with
        | none => none
        | some xs => match allCells xs with | true => appendD s elem size base len cap xs m | false => none
  | .copy size base n x => match firstD s size n x, base with
    | some xs, some ⟨b, off, none⟩ => match Nat.beq (Nat.mul n size) 0 with
      | true => some (goInt n, s)
      | false => match storeD s b off xs with
        | none => none
        | some s => some (goInt n, s)
    | some _, none => match Nat.beq n 0 with | true => some (goInt n, s) | false => none
    | _, _ => none
  | .clear base vs => match vs, base with
    | [], _ => some (undefV, s)
    | _ :: _, some ⟨b, off, none⟩ => match storeD s b off vs with
      | none => none
      | some s => some (undefV, s)
    | _, _ => none
  | .mset kk r k v => match s.blk r with
    | some (.map kk' es) => match kk.has k, kk'.has k with
      | true, true => some (undefV, s.put r (.map kk' (mapSet k v es)))
      | _, _ => none
    | _ => none
  | .mdel kk none k => match kk.has k with | true => some (undefV, s) | false => none
  | .mdel kk (some r) k => match s.blk r with
    | some (.map kk' es) => match kk.has k, kk'.has k with
      | true, true => some (undefV, s.put r (.map kk' (mapDel k es)))
      | _, _ => none
    | _ => none
  | .ustr elem i off n => match s.blk i with
    | some (.cells c e true _anc _fz) => match Nat.beq e elem, Nat.ble (Nat.add off n) c.length, bytesD (slc c off n) with
      | true, true, some bs => some (.string ⟨⟨bs⟩⟩, s.put i (.cells c e false none 0))
      | _, _, _ => none
    | _ => none
  | .toBytes elem b => fNat s.n fun i => fNat b.size fun n => some (.slice (some ⟨i, 0, none⟩) n (Nat.add big 1), s.push (.cells (bytesV b.data.toList) elem true none 0))

/- what a value of a new block is -/
inductive Mk where
  | ptr
  | slc (len cap : Nat)
  | map

def Mk.val (i : Nat) : Mk → Value
  | .ptr => .pointer (some ⟨i, 0, none⟩)
  | .slc l c => .slice (some ⟨i, 0, none⟩) l c
  | .map => .map (some i)

/- what an operation is, its operands being known -/
inductive K where
  | pure (v : Value)
  | read (r : Rd)
  | alloc (b : Blk) (m : Mk)
  | eff (e : Eff) (skip : Bool)
  | ins (kk : Kk) (r : Nat) (k v : Value)
  | call (f : FuncId) (args : List Value)
  | defr (f : FuncId) (args : List Value)
  | panic (v : Value)
  | recover

def fillD (place : Nat → Option (Nat × Nat)) (cells : List Value) : List (Nat × Value) → Option (List Value)
  | [] => some cells
  | (i, v) :: rest =>
    match place i with
    | none => none
    | some (off, size) =>
      match Nat.beq v.cells.toList.length size, Nat.ble (Nat.add off v.cells.toList.length) cells.length with
      | true, true => match upd cells off v.cells.toList with
        | none => none
        | some c => fillD place c rest
      | _, _ => none

def partsD (P : Program) (tr : Tr) : List (Nat × Operand) → Option (List (Nat × Value))
  | [] => some []
  | (i, x) :: xs => match evalO P tr x with
    | none => none
    | some v => match partsD P tr xs with | none => none | some vs => some ((i, v) :: vs)

def asNatI : Value → Option Nat
  | .int _ (.ofNat n) => some n
  | _ => none

def boundD (v : Value) (y : Nat) : Option Nat :=
  match v with
  | .int _ (.ofNat n) => match Nat.ble n y with | true => some n | false => none
  | _ => none

def optO (P : Program) (tr : Tr) : Option Operand → Option (Option Value)
  | none => some none
  | some x => match evalO P tr x with | none => none | some v => some (some v)

/- the bounds of a slice expression: what 'high' may reach, the capacity -/
def boundsD (len lim cap : Nat) (lo hi mx : Option Value) : Option (Nat × Nat × Nat) :=
  match (match mx with | some v => boundD v lim | none => some cap) with
  | none => none
  | some m =>
    match (match hi with | some v => boundD v (match mx with | some _ => m | none => lim) | none => (match mx with | some _ => none | none => some len)) with
    | none => none
    | some h => match (match lo with | some v => boundD v h | none => some 0) with
      | none => none
      | some l => fNat l fun l => fNat h fun h => fNat m fun m => some (l, h, m)

def eqNil : Value → Value → Option Bool
  | .nilIface, .iface .. | .iface .., .nilIface => some false
  | .pointer none, .pointer b => some b.isNone
  | .pointer (some _), .pointer none => some false
  | .slice none _ _, .slice b _ _ => some b.isNone
  | .slice (some _) _ _, .slice none _ _ => some false
  | .map none, .map b => some b.isNone
  | .map (some _), .map none => some false
  | .nilFunc, .func .. | .func .., .nilFunc => some false
  | _, _ => none

/- does a value that may be nil fit its type's kind? -/
def kindOk : TypeDesc → Value → Bool
  | .interface _, .nilIface | .interface _, .iface _ _ | .pointer _, .pointer _ | .slice _, .slice _ _ _ | .map _ _, .map _ | .func _ _ _, .nilFunc | .func _ _ _, .func _ _ _ => true
  | _, _ => false

def vInt (k : IntKind) (n : Int) : Option Value := fInt n fun n => some (.int k n)
def vBool (b : Bool) : Option Value := fBool b fun b => some (.bool b)

def vForce : Option Value → Option Value
  | some (.int k n) => vInt k n
  | some (.bool b) => vBool b
  | some v => match scalar v with | true => some v | false => none
  | none => none

def binD (P : Program) (op : BinOp) (t : TypeId) (x y : Operand) (a b : Value) : Option Value :=
  match a, b with
  | .int k m, .int k' n =>
    match k == k' with
    | true => match op with
      | .add => vInt k (k.wrap (m + n))
      | .sub => vInt k (k.wrap (m - n))
      | .eql => vBool (m == n)
      | .neq => vBool (m != n)
      | .lss => vBool (decide (m < n))
      | .leq => vBool (decide (m ≤ n))
      | .gtr => vBool (decide (m > n))
      | .geq => vBool (decide (m ≥ n))
      | op => vForce (pureRun P (binOp op t (.int k m) (.int k n)))
    | false => vForce (pureRun P (binOp op t (.int k m) (.int k' n)))
  | a, b =>
    match scalar a, scalar b with
    | true, true => match pureRun P (eqGuard op t x y a b) with
      | some _ => vForce (pureRun P (binOp op t a b))
      | none => none
    | _, _ => match P.underlying t with
      | some d => match kindOk d a, op with
        | true, .eql => match eqNil a b with | some b => vBool b | none => none
        | true, .neq => match eqNil a b with | some b => vBool (!b) | none => none
        | _, _ => none
      | none => none

def kkOf : Option TypeDesc → Option Kk
  | some (.int k) => some (.int k)
  | some .string => some .str
  | some .bool => some .bool
  | _ => none

def kkMap (P : Program) (t : TypeId) : Option Kk := match P.underlying t with
  | some (.map key _) => kkOf (P.underlying key)
  | _ => none

def kV (v : Option Value) : Option K := match v with | some v => some (.pure v) | none => none

def builtinK (P : Program) (b : Builtin) (ats : List TypeId) (args : List Value) : Option K :=
  match b, args with
  | .len, [x] => match ats with
    | [t] => match P.underlying t, x with
      | some .string, .string x => fNat x.size fun n => some (.pure (goInt n))
      | some (.array n _), _ => some (.pure (goInt n))
      | some (.slice _), .slice _ n _ => fNat n fun n => some (.pure (goInt n))
      | some (.map _ _), .map none => some (.pure (goInt 0))
      | some (.map _ _), .map (some r) => some (.read (.mlen r))
      | _, _ => none
    | _ => none
  | .cap, [.slice _ _ c] => match ats with
    | [t] => match P.underlying t with
      | some (.slice _) => match Nat.ble big c with | true => none | false => some (.pure (goInt c))
      | _ => none
    | _ => none
  | .min, [.int k a, .int _ b] => kV (vInt k (if b < a then b else a))
  | .max, [.int k a, .int _ b] => kV (vInt k (if b > a then b else a))
  | .append, [.slice base len cap, x] =>
    match ats with
    | [st, xt] =>
      match P.underlying st with
      | some (.slice elem) =>
        match elemD P elem, P.underlying xt with
        | some (size, z), some (.int _) =>
          match asNatI x with
          | some m => fNat m fun m => match Nat.ble m room with
            | true => some (.eff (.append elem size base len cap x (some (m, z))) false)
            | false => none
          | none => none
        | some (size, _), some (.slice _) | some (size, _), some .string => some (.eff (.append elem size base len cap x none) false)
        | _, _ => none
      | _ => none
    | _ => none
  | .copy, [.slice base dl _, x] =>
    match ats with
    | [st, _] =>
      match P.underlying st, lenD x with
      | some (.slice elem), some m => match sizeD P elem with
        | some size => fNat (match Nat.ble m dl with | true => m | false => dl) fun n => some (.eff (.copy size base n x) false)
        | none => none
      | _, _ => none
    | _ => none
  | .clear, [.slice base n _] =>
    match ats with
    | [st] => match P.underlying st, Nat.ble n room with
      | some (.slice elem), true => match elemD P elem with
        | some (_, z) => match base with
          | none => match Nat.beq n 0 with | true => some (.eff (.clear none []) false) | false => none
          | some a => some (.eff (.clear (some a) (repZ z n)) false)
        | none => none
      | _, _ => none
    | _ => none
  | .delete, [.map r, k] => match ats with
    | [t, _] => match kkMap P t with
      | some kk => some (.eff (.mdel kk r k) false)
      | none => none
    | _ => none
  | .recover, [] => some .recover
  | .unsafeString, [.pointer p, .int _ (.ofNat n)] => match ats with
    | [t, _] => match P.underlying t with
      | some (.pointer e) => match P.underlying e, sizeD P e with
        | some (.int .u8), some 1 => fNat n fun n => match Nat.beq n 0, p with
          | true, _ => some (.pure (.string .empty))
          | false, some ⟨i, off, none⟩ => match Nat.ble n room with
            | true => some (.eff (.ustr e i off n) false)
            | false => none
          | _, _ => none
        | _, _ => none
      | _ => none
    | _ => none
  | _, _ => none

def szsOk (P : Program) : List Field → Bool
  | [] => true
  | f :: fs => match sizeD P f.type with | some _ => szsOk P fs | none => false

def fldD (fs : Array Field) (f : Nat) : Option Field := fs.toList[f]?

def opK (P : Program) (tr : Tr) (o : Oper) : Option K :=
  match o.op with
  | .move x | .assign x => kV (evalO P tr x)
  | .pick c a b => match evalO P tr c with
    | some (.bool true) => kV (evalO P tr a)
    | some (.bool false) => kV (evalO P tr b)
    | _ => none
  | .binOp op t x y _ => match evalO P tr x, evalO P tr y with
    | some a, some b => kV (binD P op t x y a b)
    | _, _ => none
  | .unOp op _ x => match evalO P tr x with
    | some v => match scalar v with
      | true => kV (vForce (pureRun P (Op.unary op v)))
      | false => none
    | none => none
  | .load t x => match evalO P tr x with
    | some (.pointer (some ⟨i, off, none⟩)) => match sizeD P t, P.underlying t with
      | some n, some d => match isAggD (some d) with
        | true => some (.read (.load i off n true))
        | false => some (.read (.load i off 1 false))
      | _, _ => none
    | _ => none
  | .store t x y => match evalO P tr x, evalO P tr y with
    | some (.pointer (some ⟨i, off, none⟩)), some v =>
      match sizeD P t with
      | some n => match Nat.beq v.cells.toList.length n with
        | true => some (.eff (.store i off v.cells.toList) true)
        | false => none
      | none => none
    | _, _ => none
  | .fieldAddr t x f => match evalO P tr x, P.underlying t with
    | some (.pointer (some ⟨i, off, none⟩)), some (.struct fs) => match fldD fs f with
      | some fd => match sizeD P fd.type with
        | some (_ + 1) => fNat (Nat.add off fd.offset) fun o => some (.pure (.pointer (some ⟨i, o, none⟩)))
        | _ => none
      | none => none
    | _, _ => none
  | .nilCheck x => match evalO P tr x with
    | some (.pointer (some a)) => some (.pure (.pointer (some a)))
    | some (.func (.func f) a b) => some (.pure (.func (.func f) a b))
    | some (.iface t v) => some (.pure (.iface t v))
    | _ => none
  | .indexAddr t x ix => match evalO P tr x, evalO P tr ix with
    | some b, some (.int _ (.ofNat n)) => match P.underlying t, b with
      | some (.array len elem), .pointer (some ⟨i, off, none⟩) => match Nat.blt n len, sizeD P elem with
        | true, some sz => fNat (Nat.add off (Nat.mul n sz)) fun o => some (.pure (.pointer (some ⟨i, o, none⟩)))
        | _, _ => none
      | some (.slice elem), .slice (some ⟨i, off, none⟩) len _ => match Nat.blt n len, sizeD P elem with
        | true, some sz => fNat (Nat.add off (Nat.mul n sz)) fun o => some (.pure (.pointer (some ⟨i, o, none⟩)))
        | _, _ => none
      | _, _ => none
    | _, _ => none
  | .index t x ix => match evalO P tr x, evalO P tr ix with
    | some b, some (.int _ (.ofNat n)) => match P.underlying t, b with
      | some (.array len elem), .agg ⟨cs⟩ => match Nat.blt n len, sizeD P elem, P.underlying elem with
        | true, some sz, some d => match isAggD (some d) with
          | true => some (.pure (.agg ⟨slc cs (Nat.mul n sz) sz⟩))
          | false => kV (cs[Nat.mul n sz]?)
        | _, _, _ => none
      | some .string, .string b => match b.data.toList[n]? with
        | some c => kV (vInt .u8 c.toNat)
        | none => none
      | _, _ => none
    | _, _ => none
  | .field t x f => match evalO P tr x, P.underlying t with
    | some (.agg ⟨cs⟩), some (.struct fs) => match fldD fs f with
      | some fd => match P.underlying fd.type, sizeD P fd.type with
        | some d, some sz => match isAggD (some d) with
          | true => some (.pure (.agg ⟨slc cs fd.offset sz⟩))
          | false => kV (cs[fd.offset]?)
        | _, _ => none
      | none => none
    | _, _ => none
  | .extract x i => match evalO P tr x with
    | some (.tuple ⟨vs⟩) => kV (vs[i]?)
    | _ => none
  | .alloc t => match zeroD P t with
    | some z => some (.alloc (.cells z.cells.toList t true none 0) .ptr)
    | none => none
  | .box t x => match evalO P tr x, sizeD P t with
    | some v, some _ => some (.alloc (.cells v.cells.toList t true none 0) .ptr)
    | _, _ => none
  | .build t parts => match zeroD P t, partsD P tr parts.toList with
    | some z, some ps => match P.underlying t with
      | some (.struct fs) => match szsOk P fs.toList, fillD (fun i => match fldD fs i with | some f => (match sizeD P f.type with | some sz => some (f.offset, sz) | none => none) | none => none) z.cells.toList ps with
        | true, some cs => some (.pure (.agg ⟨cs⟩))
        | _, _ => none
      | some (.array _ elem) => match sizeD P elem with
        | some sz => match fillD (fun i => some (Nat.mul i sz, sz)) z.cells.toList ps with
          | some cs => some (.pure (.agg ⟨cs⟩))
          | none => none
        | none => none
      | _ => none
    | _, _ => none
  | .buildSlice t len parts => match P.underlying t, partsD P tr parts.toList with
    | some (.slice elem), some ps => match elemD P elem with
      | some (sz, z) => match Nat.ble (Nat.mul len sz) room with
        | true => match fillD (fun i => some (Nat.mul i sz, sz)) (repZ z len) ps with
          | some cs => some (.alloc (.cells cs elem true none 0) (.slc len len))
          | none => none
        | false => none
      | none => none
    | _, _ => none
  | .makeSlice t l c => match P.underlying t, evalO P tr l, evalO P tr c with
    | some (.slice elem), some (.int _ (.ofNat l)), some (.int _ (.ofNat c)) =>
      fNat l fun l => fNat c fun c =>
      match elemD P elem, Nat.ble l c, Nat.ble c room with
      | some (_, z), true, true => some (.alloc (.cells (repZ z c) elem true none 0) (.slc l c))
      | _, _, _ => none
    | _, _, _ => none
  | .convert a b x => match evalO P tr x with
    | some (.int k n) => match P.underlying a, P.underlying b with
      | some _, some (.int k') => kV (vInt k' (k'.wrap n))
      | _, _ => kV (vForce (pureRun P (convert a b (.int k n))))
    | some (.slice base len _) => match P.underlying a, P.underlying b with
      | some (.slice e), some .string => match P.underlying e with
        | some (.int .u8) => match base with
          | none => some (.pure (.string .empty))
          | some ⟨i, off, none⟩ => some (.read (.bytes i off len))
          | _ => none
        | _ => none
      | _, _ => none
    | some (.string x) => match P.underlying a, P.underlying b with
      | some .string, some .string => some (.pure (.string x))
      | some .string, some (.slice e) => match P.underlying e, sizeD P e, Nat.ble x.size room with
        | some (.int .u8), some 1, true => some (.eff (.toBytes e x) false)
        | _, _, _ => none
      | _, _ => none
    | some v => match scalar v with
      | true => kV (vForce (pureRun P (convert a b v)))
      | false => none
    | none => none
  | .slice t x lo hi mx => match evalO P tr x, optO P tr lo, optO P tr hi, optO P tr mx with
    | some v, some lo, some hi, some mx => match P.underlying t, v with
      | some .string, .string b => match mx with
        | none => match boundsD b.size b.size b.size lo hi none with
          | some (l, h, _) => some (.pure (.string ⟨⟨slc b.data.toList l (Nat.sub h l)⟩⟩))
          | none => none
        | some _ => none
      | some (.slice elem), .slice a len cap => match sizeD P elem with
        | none => none
        | some sz =>
        match Nat.ble big cap with
        | true => match Nat.beq cap (Nat.add big sz), a with
          | true, some ⟨i, off, none⟩ =>
            match mx with
            | some mv => match boundsD len len len lo hi (some mv) with
              | some (l, h, m) => match Nat.ble big (Nat.sub m l) with
                | true => none
                | false => fNat (match Nat.beq m l with | true => off | false => Nat.add off (Nat.mul l sz)) fun o => some (.pure (.slice (some ⟨i, o, none⟩) (Nat.sub h l) (Nat.sub m l)))
              | none => none
            | none => match boundsD len len len lo hi none with
              | some (l, h, _) => fNat (Nat.add off (Nat.mul l sz)) fun o => some (.pure (.slice (some ⟨i, o, none⟩) (Nat.sub h l) cap))
              | none => none
          | _, _ => none
        | false => match boundsD len cap cap lo hi mx with
          | some (l, h, m) => match a with
            | none => some (.pure (.slice none (Nat.sub h l) (Nat.sub m l)))
            | some ⟨i, off, none⟩ => fNat (match Nat.beq m l with | true => off | false => Nat.add off (Nat.mul l sz)) fun o => some (.pure (.slice (some ⟨i, o, none⟩) (Nat.sub h l) (Nat.sub m l)))
            | _ => none
          | none => none
      | some (.array n elem), .pointer (some ⟨i, off, none⟩) => match boundsD n n n lo hi mx, sizeD P elem, Nat.ble big n with
        | some (l, h, m), some sz, false => fNat (match Nat.beq m l with | true => off | false => Nat.add off (Nat.mul l sz)) fun o => some (.pure (.slice (some ⟨i, o, none⟩) (Nat.sub h l) (Nat.sub m l)))
        | _, _, _ => none
      | _, _ => none
    | _, _, _, _ => none
  | .makeInterface t x => match evalO P tr x, P.underlying t with
    | some _, some (.interface _) => none
    | some v, some _ => some (.pure (.iface t v))
    | _, _ => none
  | .makeFunc fn a b => match fn, evalL P tr a.toList, evalL P tr b.toList with
    | .func f, some a, some b => some (.pure (.func (.func f) ⟨a⟩ ⟨b⟩))
    | _, _, _ => none
  | .makeMap t r => match kkMap P t, r with
    | some kk, none => some (.alloc (.map kk []) .map)
    | _, _ => none
  | .lookup t x ix ok => match evalO P tr x, evalO P tr ix, P.underlying t with
    | some (.map m), some k, some (.map key elem) => match kkOf (P.underlying key), zeroD P elem with
      | some kk, some z => match kk.has k with
        | true => some (.read (.look m k z ok))
        | false => none
      | _, _ => none
    | _, _, _ => none
  | .mapUpdate t m k x => match evalO P tr m, evalO P tr k, evalO P tr x with
    | some (.map (some r)), some k, some v => match kkMap P t with
      | some kk => some (.eff (.mset kk r k v) true)
      | none => none
    | _, _, _ => none
  | .insert t m k x => match evalO P tr m, evalO P tr k, evalO P tr x with
    | some (.map (some r)), some k, some v => match kkMap P t with
      | some kk => some (.ins kk r k v)
      | none => none
    | _, _, _ => none
  | .typeAssert x _ t ok => match evalO P tr x, P.underlying t with
    | _, some (.interface _) => none
    | some (.iface u v), some _ => match Nat.beq u t with
      | true => some (.pure (okV ok v true))
      | false => match ok, zeroD P t with
        | true, some z => some (.pure (.tuple #[z, .bool false]))
        | _, _ => none
    | some .nilIface, some _ => match ok, zeroD P t with
      | true, some z => some (.pure (.tuple #[z, .bool false]))
      | _, _ => none
    | _, _ => none
  | .panic x => match evalO P tr x with
    | some (.iface t v) => some (.panic (.iface t v))
    | _ => none
  | .call c => match evalL P tr c.args.toList with
    | none => none
    | some args => match c.callee with
      | .builtin b => builtinK P b c.argTypes.toList args
      | .value f => match evalO P tr f with
        | some (.func (.func g) ⟨first⟩ ⟨cap⟩) => some (.call g (first ++ (args ++ cap)))
        | _ => none
      | .invoke r name => match evalO P tr r with
        | some (.iface t v) => match P.info? t with
          | some i => match i.methods.find? (fun m => m.name == name) with
            | some m => match m.path.isEmpty, m.func, P.underlying t with
              | true, some (f, false), some (.struct _) => some (.call f (v :: args))
              | _, _, _ => none
            | none => none
          | none => none
        | _ => none
  | .defer c => match evalL P tr c.args.toList, c.callee with
    | some args, .value f => match evalO P tr f with
      | some (.func (.func g) ⟨first⟩ ⟨cap⟩) => some (.defr g (first ++ (args ++ cap)))
      | _ => none
    | _, _ => none
  | _ => none

/- how code is left -/
inductive Ex where
  | normal
  | exit (id : Nat)
  | goto (l : Nat)
  | ret
  | panic (v : Value)

structure Ac where
  tr : Tr
  nt : Nat
  df : List (FuncId × List Value)

inductive En where
  | ret (v : Value)
  | panic (v : Value)

def putT (a : Ac) (d : Option Tmp) (v : Option Value) : Option Ac := match d with
  | none => some a
  | some d => match Nat.blt d a.nt with
    | true => some { a with tr := a.tr.set d v }
    | false => none

def guardD (ops : List Oper) (tr : Tr) (o : Oper) : Option Bool :=
  match o.guard with
  | none => some true
  | some (j, want) => match ops[j]? with
    | some p => match p.dst with
      | some d => match tr.get d with
        | some (.bool b) => some (b == want)
        | some _ => some false
        | none => none
      | none => some false
    | none => some false

def argsTr : Tr → Nat → List Value → Tr
  | tr, _, [] => tr
  | tr, i, v :: vs => argsTr (tr.set i (some v)) (Nat.add i 1) vs

def resD (P : Program) (tr : Tr) (s : St) : List ResultVar → Option (List Value)
  | [] => some []
  | r :: rs => match (match r with
      | .tmp t => tr.get t
      | .cell a t => match tr.get a with
        | some (.pointer (some ⟨i, off, none⟩)) => match sizeD P t, P.underlying t with
          | some n, some d => match isAggD (some d) with
            | true => rdVal s (.load i off n true)
            | false => rdVal s (.load i off 1 false)
          | _, _ => none
        | _ => none) with
    | none => none
    | some v => match resD P tr s rs with | none => none | some vs => some (v :: vs)

def tupD : List Value → Value
  | [v] => v
  | vs => .tuple ⟨vs⟩

def log2D : Nat → Nat → Nat
  | 0, _ => 1
  | d + 1, n => match Nat.beq n 0 with | true => 1 | false => Nat.succ (log2D d (Nat.div n 2))

/- the environment: the program; how many blocks are constants; summaries of functions: the result and the memory behind the call; body-less functions that compute -/
structure Env where
  P : Program
  nC : Nat
  sm : FuncId → Option (List Value → St → Option (Value × St))
  xt : FuncId → Option (List Value → Option Value)

mutual
def shV (nC k : Nat) : Value → Value
  | .pointer (some ⟨i, o, sp⟩) => .pointer (some ⟨if i < nC then i else i + k, o, sp⟩)
  | .slice (some ⟨i, o, sp⟩) l c => .slice (some ⟨if i < nC then i else i + k, o, sp⟩) l c
  | .map (some i) => .map (some (if i < nC then i else i + k))
  | .func fn ⟨a⟩ ⟨b⟩ => .func fn ⟨shL nC k a⟩ ⟨shL nC k b⟩
  | .iface t v => .iface t (shV nC k v)
  | .agg ⟨cs⟩ => .agg ⟨shL nC k cs⟩
  | .tuple ⟨cs⟩ => .tuple ⟨shL nC k cs⟩
  | v => v
def shL (nC k : Nat) : List Value → List Value
  | [] => []
  | v :: vs => shV nC k v :: shL nC k vs
end

def shE (nC k : Nat) : List (Value × Value) → List (Value × Value)
  | [] => []
  | (a, b) :: es => (a, shV nC k b) :: shE nC k es

def shB (nC k : Nat) : Blk → Blk
  | .cells c e live anc fz => .cells (shL nC k c) e live (match anc with | none => none | some i => some (i + k)) fz
  | .map kk es => .map kk (shE nC k es)
  | .hole => .hole

def pushAll (nC k : Nat) : List Blk → St → St
  | [], s => s
  | b :: bs, s => pushAll nC k bs (s.push (shB nC k b))

/- what happened at an operation of a region that draws its order -/
inductive Rec where
  | skip
  | pure (v : Value)
  | read (r : Rd) (v : Value)
  | alloc (id : Nat) (b : Blk) (v : Value)
  | ins (id : Nat) (k v : Value)
  | eff (v : Value)

def isAlloc : Op → Bool
  | .alloc _ | .box .. | .buildSlice .. | .makeSlice .. | .makeMap .. => true
  | _ => false

def nAlloc : List Oper → Nat
  | [] => 0
  | o :: os => match isAlloc o.op with | true => Nat.succ (nAlloc os) | false => nAlloc os

def holes : Nat → St → St
  | 0, s => s
  | k + 1, s => holes k (s.push .hole)

/- the entries that the records lay into a map of this number -/
def insOf (id : Nat) : List (Nat × Rec) → List (Value × Value)
  | [] => []
  | (_, .ins id' k v) :: rs => match Nat.beq id id' with | true => (k, v) :: insOf id rs | false => insOf id rs
  | _ :: rs => insOf id rs

/- do all that lay entries into a map of this number stand under the mask? -/
def insIn (mask id : Nat) : List (Nat × Rec) → Bool
  | [] => true
  | (j, .ins id' _ _) :: rs => match Nat.beq id id' with
    | true => match Nat.testBit mask j with | true => insIn mask id rs | false => false
    | false => insIn mask id rs
  | _ :: rs => insIn mask id rs

/- the new block of a record, with what is laid into it -/
def blkOf (all : List (Nat × Rec)) (id : Nat) : Blk → Blk
  | .map kk _ => .map kk (insOf id all)
  | b => b

/- the new blocks of the records that stand under a mask are put into memory -/
def fillS (all : List (Nat × Rec)) (mask : Nat) : List (Nat × Rec) → St → St
  | [], s => s
  | (j, .alloc id b _) :: rs, s => match Nat.testBit mask j, insIn mask id all, s.blk id with
    | true, true, some .hole => fillS all mask rs (s.put id (blkOf all id b))
    | _, _, _ => fillS all mask rs s
  | _ :: rs, s => fillS all mask rs s

mutual
def veq : Value → Value → Bool
  | .bool a, .bool b => a == b
  | .int k a, .int k' b => k == k' && a == b
  | .string a, .string b => a.data.toList == b.data.toList
  | .pointer a, .pointer b => a == b
  | .slice a l c, .slice b l' c' => a == b && l == l' && c == c'
  | .map a, .map b => a == b
  | .nilFunc, .nilFunc => true
  | .nilIface, .nilIface => true
  | .func fn ⟨a⟩ ⟨b⟩, .func fn' ⟨a'⟩ ⟨b'⟩ => decide (fn = fn') && veqs a a' && veqs b b'
  | .iface t v, .iface t' v' => t == t' && veq v v'
  | .agg ⟨a⟩, .agg ⟨b⟩ => veqs a b
  | .tuple ⟨a⟩, .tuple ⟨b⟩ => veqs a b
  | _, _ => false
def veqs : List Value → List Value → Bool
  | [], [] => true
  | a :: as, b :: bs => match veq a b with | true => veqs as bs | false => false
  | _, _ => false
end

def bit (masks : Array Nat) (j i : Nat) : Bool := Nat.testBit (masks.getD j 0) i

/- one read, beside the memory as it is behind each effect: 'prev': the effect behind which the memory is so -/
def readOk (masks : Array Nat) (all : List (Nat × Rec)) (i : Nat) (r : Rd) (v : Value) : Option Nat → St → List (Nat × St) → Bool
  | prev, s, rest =>
    match (match prev with | none => true | some e => !(bit masks e i)) && (match rest with | [] => true | (e', _) :: _ => !(bit masks i e')) with
    | false => match rest with | [] => true | (e', s') :: rest => readOk masks all i r v (some e') s' rest
    | true => match rdVal (fillS all (masks.getD i 0) all s) r with
      | none => false
      | some v' => match veq v' v with
        | false => false
        | true => match rest with | [] => true | (e', s') :: rest => readOk masks all i r v (some e') s' rest

def readsOk (masks : Array Nat) (all : List (Nat × Rec)) (s0 : St) (effs : List (Nat × St)) : List (Nat × Rec) → Bool
  | [] => true
  | (i, .read r v) :: rs => match readOk masks all i r v none s0 effs with | true => readsOk masks all s0 effs rs | false => false
  | _ :: rs => readsOk masks all s0 effs rs

def chainOk (masks : Array Nat) : List (Nat × St) → Bool
  | (e, _) :: (e', s') :: rest => match bit masks e' e with | true => chainOk masks ((e', s') :: rest) | false => false
  | _ => true

def keyNew (k : Value) : List (Value × Value) → Bool
  | [] => true
  | (a, _) :: es => match keyEq k a with | true => false | false => keyNew k es

def plainB : Blk → Bool
  | .cells .. => true
  | .map _ [] => true
  | _ => false

/- is the block of this number new under the mask? -/
def allocIn (mask id : Nat) : List (Nat × Rec) → Bool
  | [] => false
  | (j, .alloc id' _ _) :: rs => match Nat.beq id id' with
    | true => match Nat.testBit mask j with | true => true | false => allocIn mask id rs
    | false => allocIn mask id rs
  | _ :: rs => allocIn mask id rs

/- no effect that stands ahead of an entry knows the entry's map -/
def lateOne (masks : Array Nat) (all : List (Nat × Rec)) (j id : Nat) : List (Nat × Rec) → Bool
  | [] => true
  | (i, .eff _) :: rs => match Nat.blt i j with
    | true => match allocIn (masks.getD i 0) id all with | true => false | false => lateOne masks all j id rs
    | false => lateOne masks all j id rs
  | _ :: rs => lateOne masks all j id rs

def lateOk (masks : Array Nat) (all : List (Nat × Rec)) : List (Nat × Rec) → Bool
  | [] => true
  | (j, .ins id _ _) :: rs => match lateOne masks all j id all with | true => lateOk masks all rs | false => false
  | _ :: rs => lateOk masks all rs

/- the operands' temporaries -/
def tmpsOf (o : Oper) : List Tmp := o.op.operands.toList.filterMap fun | .tmp t => some t | _ => none

/- what hangs on the region's text alone: each temporary is written once; who reads one stands behind, or ahead of, its writer; and so a guard's -/
def pairOk (masks : Array Nat) (ops : Array Oper) (i j : Nat) : Bool :=
  match ops[i]?, ops[j]? with
  | some o, some p => match p.dst with
    | none => true
    | some d => i == j || (o.dst != some d && (!((tmpsOf o).contains d || (match o.guard with | some (g, _) => g == j | none => false)) || (if j < i then bit masks i j else bit masks j i)))
  | _, _ => true

def selfOk (o : Oper) : Bool := match o.dst with | some d => !(tmpsOf o).contains d | none => true

def afterOk (ops : Array Oper) (i : Nat) : Bool :=
  match ops[i]? with
  | some o => o.after.toList.all fun e => !(Region.binds .any e) || Nat.blt e.on i
  | none => true

def staticOk (ops : Array Oper) : Bool :=
  let masks := Region.before ops
  (List.range ops.size).all fun i => afterOk ops i && (List.range ops.size).all fun j => pairOk masks ops i j

/- is there a record under the mask by which a map of this number is new? -/
def mapRec (mask : Nat) (kk : Kk) (k : Value) (r : Nat) : List (Nat × Rec) → Bool
  | [] => false
  | (j, .alloc id (.map kk' []) _) :: rs => match Nat.beq id r with
    | true => match kk.has k, kk'.has k, Nat.testBit mask j with | true, true, true => true | _, _, _ => false
    | false => mapRec mask kk k r rs
  | _ :: rs => mapRec mask kk k r rs

end Go.Dv
end
section
/- The evaluator: code, calls. -/
namespace Go.Dv

def dstsOf : List Oper → List Tmp
  | [] => []
  | o :: os => match o.dst with | some d => d :: dstsOf os | none => dstsOf os

/- what a caller's frame is doing while a deferred call runs -/
inductive Md where
  | ret
  | panic (v : Value)
  | done (v : Value)   -- recovered

def Md.next : Md → Md
  | .done _ => .ret
  | m => m

def sumD (E : Env) (f : FuncId) (args : List Value) (s : St) : Option (Option (Value × St)) :=
  match E.sm f with
  | none => none
  | some g => match g args s with
    | none => none
    | some r => some (some r)

/- a summary by numbers that begin at nC, as one over a memory -/
def smV (nC : Nat) (s : St) : Option (Value × List Blk) → Option (Value × St)
  | none => none
  | some (v, bs) => fNat (Nat.sub s.n nC) fun k => some (shV nC k v, pushAll nC k bs s)

mutual
/- operations in the row in which they stand -/
def opsD (E : Env) : Nat → List Oper → List Oper → Ac → St → Option (Ex × Ac × St)
  | 0, _, _, _, _ => none
  | _ + 1, _, [], a, s => some (.normal, a, s)
  | n + 1, ops, o :: rest, a, s =>
    match guardD ops a.tr o with
    | none => none
    | some false => match putT a o.dst (some undefV) with
      | none => none
      | some a => opsD E n ops rest a s
    | some true => match opK E.P a.tr o with
      | none => none
      | some k => match k with
        | .defr f args => match putT a o.dst (some undefV) with
          | none => none
          | some a => opsD E n ops rest { a with df := (f, args) :: a.df } s
        | .recover => none
        | .panic v => some (.panic v, a, s)
        | k => match runK E n k s with
          | none => none
          | some (.panic v, s) => some (.panic v, a, s)
          | some (.ret v, s) => match putT a o.dst (some v) with
            | none => none
            | some a => opsD E n ops rest a s
/- one operation that is no defer, recover, panic -/
def runK (E : Env) : Nat → K → St → Option (En × St)
  | 0, _, _ => none
  | n + 1, k, s =>
    match k with
    | .pure v => some (.ret v, s)
    | .read r => match rdVal s r with | some v => some (.ret v, s) | none => none
    | .alloc b m => fNat s.n fun i => some (.ret (m.val i), s.push b)
    | .eff e _ => match effD s e with | some (v, s) => some (.ret v, s) | none => none
    | .ins kk r k v => match effD s (.mset kk r k v) with | some (v, s) => some (.ret v, s) | none => none
    | .call f args => callD E n f args s
    | _ => none
/- operations of a region that draws its order -/
def drawD (E : Env) : Nat → Array Nat → List Oper → List Oper → Nat → Nat → Ac → St → List (Nat × Rec) → List (Nat × St) → Option (Ac × List (Nat × Rec) × List (Nat × St))
  | 0, _, _, _, _, _, _, _, _, _ => none
  | _ + 1, _, _, [], _, _, a, _, recs, effs => some (a, recs, effs.reverse)
  | n + 1, masks, ops, o :: rest, i, id, a, s, recs, effs =>
    match guardD ops a.tr o with
    | none => none
    | some false => match putT a o.dst (some undefV) with
      | none => none
      | some a => drawD E n masks ops rest (Nat.succ i) (match isAlloc o.op with | true => Nat.succ id | false => id) a s ((i, .skip) :: recs) effs
    | some true => match opK E.P a.tr o with
      | none => none
      | some k => match k with
        | .pure v => match putT a o.dst (some v) with
          | none => none
          | some a => drawD E n masks ops rest (Nat.succ i) id a s ((i, .pure v) :: recs) effs
        | .read r => match rdVal (fillS recs (masks.getD i 0) recs s) r with
          | none => none
          | some v => match putT a o.dst (some v) with
            | none => none
            | some a => drawD E n masks ops rest (Nat.succ i) id a s ((i, .read r v) :: recs) effs
        | .alloc b m => match isAlloc o.op, plainB b, putT a o.dst (some (m.val id)) with
          | true, true, some a => drawD E n masks ops rest (Nat.succ i) (Nat.succ id) a s ((i, .alloc id b (m.val id)) :: recs) effs
          | _, _, _ => none
        | .ins kk r k v => match mapRec (masks.getD i 0) kk k r recs, s.blk r, keyNew k (insOf r recs), putT a o.dst (some undefV) with
          | true, some .hole, true, some a => drawD E n masks ops rest (Nat.succ i) id a s ((i, .ins r k v) :: recs) effs
          | _, _, _, _ => none
        | .eff .. | .call .. => match runK E n k (fillS recs (masks.getD i 0) recs s) with
          | some (.ret v, s) => match putT a o.dst (some v) with
            | none => none
            | some a => drawD E n masks ops rest (Nat.succ i) id a s ((i, .eff v) :: recs) ((i, s) :: effs)
          | _ => none
        | _ => none
def codeD (E : Env) : Nat → Code → Ac → St → Option (Ex × Ac × St)
  | 0, _, _, _ => none
  | n + 1, c, a, s =>
    match c with
    | .skip | .label _ => some (.normal, a, s)
    | .ret => some (.ret, a, s)
    | .exit i => some (.exit i, a, s)
    | .goto l => some (.goto l, a, s)
    | .region _ ops false => opsD E n ops.toList ops.toList a s
    | .region _ ops true => match staticOk ops with
      | false => none
      | true =>
        let masks := Region.before ops
        match holes (nAlloc ops.toList) s with
        | s0 => match drawD E n masks ops.toList ops.toList 0 s.n a s0 [] [] with
          | none => none
          | some (a, recs, effs) => match chainOk masks effs, lateOk masks recs recs, readsOk masks recs s0 effs recs with
            | true, true, true =>
              let last := match effs.getLast? with | some (_, s) => s | none => s0
              some (.normal, a, fillS recs (Nat.sub (Nat.shiftLeft 1 ops.toList.length) 1) recs last)
            | _, _, _ => none
    | .seq x y => match codeD E n x a s with
      | some (.normal, a, s) => codeD E n y a s
      | r => r
    | .cond c x y => match evalO E.P a.tr c with
      | some (.bool true) => codeD E n x a s
      | some (.bool false) => codeD E n y a s
      | _ => none
    | .block id b => match codeD E n b a s with
      | some (.exit i, a, s) => match Nat.beq i id with | true => some (.normal, a, s) | false => some (.exit i, a, s)
      | r => r
    | .loop b => match codeD E n b a s with
      | some (.normal, a, s) => codeD E n (.loop b) a s
      | r => r
    | .scope b => scopeD E n b b a s
    | _ => none
def scopeD (E : Env) : Nat → Code → Code → Ac → St → Option (Ex × Ac × St)
  | 0, _, _, _, _ => none
  | n + 1, b, c, a, s =>
    match codeD E n c a s with
    | some (.goto l, a, s) => match findLabel b l with
      | some rest => scopeD E n b rest a s
      | none => some (.goto l, a, s)
    | r => r
/- the operations of a deferred call's own region, which may recover -/
def opsR (E : Env) : Nat → List Oper → List Oper → Ac → St → Md → Option (Ex × Ac × St × Md)
  | 0, _, _, _, _, _ => none
  | _ + 1, _, [], a, s, m => some (.normal, a, s, m)
  | n + 1, ops, o :: rest, a, s, m =>
    match guardD ops a.tr o with
    | none => none
    | some false => match putT a o.dst (some undefV) with
      | none => none
      | some a => opsR E n ops rest a s m
    | some true => match opK E.P a.tr o with
      | none => none
      | some k => match k with
        | .recover => match m with
          | .panic v => match putT a o.dst (some v) with
            | none => none
            | some a => opsR E n ops rest a s (.done v)
          | m => match putT a o.dst (some .nilIface) with
            | none => none
            | some a => opsR E n ops rest a s m
        | .panic _ => none
        | k => match runK E n k s with
          | some (.ret v, s) => match putT a o.dst (some v) with
            | none => none
            | some a => opsR E n ops rest a s m
          | _ => none
def codeR (E : Env) : Nat → Code → Ac → St → Md → Option (Ex × Ac × St × Md)
  | 0, _, _, _, _ => none
  | n + 1, c, a, s, m =>
    match c with
    | .seq x y => match codeR E n x a s m with
      | some (.normal, a, s, m) => codeR E n y a s m
      | r => r
    | .region _ ops false => opsR E n ops.toList ops.toList a s m
    | c => match codeD E n c a s with
      | some (.panic _, _, _) => none
      | some (e, a, s) => some (e, a, s, m)
      | none => none
/- the deferred calls -/
def defersD (E : Env) : Nat → List (FuncId × List Value) → Md → St → Option (Md × St)
  | 0, _, _, _ => none
  | _ + 1, [], m, s => some (m, s)
  | n + 1, (f, args) :: ds, m, s =>
    match E.P.funcs[f]? with
    | none => none
    | some fn => match fn.body with
      | none => none
      | some c => match codeR E n c { tr := argsTr (Tr.mk (log2D 20 fn.ntmps)) 0 args, nt := fn.ntmps, df := [] } s m with
        | some (ex, a, s, m) => match a.df, Nat.ble args.length fn.ntmps, resD E.P a.tr s fn.results.toList with
          | [], true, some _ => match ex with
            | .normal | .ret => defersD E n ds m.next s
            | _ => none
          | _, _, _ => none
        | none => none
def callD (E : Env) : Nat → FuncId → List Value → St → Option (En × St)
  | 0, _, _, _ => none
  | n + 1, f, args, s =>
    match sumD E f args s with
    | some (some (v, s)) => some (.ret v, s)
    | _ =>
    match E.P.funcs[f]? with
    | none => none
    | some fn => match fn.body with
      | none => match E.xt f with
        | some g => match g args with | some v => some (.ret v, s) | none => none
        | none => none
      | some c => match Nat.ble args.length fn.ntmps with
        | false => none
        | true => match codeD E n c { tr := argsTr (Tr.mk (log2D 20 fn.ntmps)) 0 args, nt := fn.ntmps, df := [] } s with
          | none => none
          | some (ex, a, s) => match (match ex with | .normal | .ret => some Md.ret | .panic v => some (Md.panic v) | _ => none) with
            | none => none
            | some m => match defersD E n a.df m s with
              | some (.ret, s) => match resD E.P a.tr s fn.results.toList with
                | some vs => some (.ret (tupD vs), s)
                | none => none
              | some (.panic v, s) => some (.panic v, s)
              | _ => none
end
end Go.Dv
end
section
/- The relation between the evaluator's memory and the model's. -/
namespace Go.Dv

theorem fNat_eq {α : Type} (n : Nat) (k : Nat → α) : fNat n k = k n := by cases n <;> rfl
theorem fInt_eq {α : Type} (n : Int) (k : Int → α) : fInt n k = k n := by cases n <;> simp [fInt, fNat_eq]
theorem fBool_eq {α : Type} (b : Bool) (k : Bool → α) : fBool b k = k b := by cases b <;> rfl

structure BI where
  b : Nat
  d : Nat
  n : Nat

abbrev Bm := Nat → Option BI

inductive VRel (β : Bm) : Value → Value → Prop
  | bool (b : Bool) : VRel β (.bool b) (.bool b)
  | int (k : IntKind) (n : Int) : VRel β (.int k n) (.int k n)
  | float (k : FloatKind) (n : Nat) : VRel β (.float k n) (.float k n)
  | complex (k : FloatKind) (m n : Nat) : VRel β (.complex k m n) (.complex k m n)
  | string (s : ByteArray) : VRel β (.string s) (.string s)
  | nilFunc : VRel β .nilFunc .nilFunc
  | nilIface : VRel β .nilIface .nilIface
  | ptr0 : VRel β (.pointer none) (.pointer none)
  | ptr {i o : Nat} {x : BI} (h : β i = some x) : VRel β (.pointer (some ⟨i, o, none⟩)) (.pointer (some ⟨x.b, x.d + o, none⟩))
  | slice0 (l c : Nat) : VRel β (.slice none l c) (.slice none l c)
  | slice {i o l c : Nat} {x : BI} (h : β i = some x) (hc : c < big) : VRel β (.slice (some ⟨i, o, none⟩) l c) (.slice (some ⟨x.b, x.d + o, none⟩) l c)
  | sliceU {i o l c sz : Nat} {x : BI} (h : β i = some x) (hl : l ≤ c) (hn : x.d + o + c * sz ≤ x.n) : VRel β (.slice (some ⟨i, o, none⟩) l (big + sz)) (.slice (some ⟨x.b, x.d + o, none⟩) l c)
  | sliceE {i o c : Nat} (a : Addr) (hc : c = 0 ∨ big ≤ c) : VRel β (.slice (some ⟨i, o, none⟩) 0 c) (.slice (some a) 0 0)
  | map0 : VRel β (.map none) (.map none)
  | map {i : Nat} {x : BI} (h : β i = some x) : VRel β (.map (some i)) (.map (some x.b))
  | func {fn : FuncId} {a b a' b' : List Value} (hs : a.length = a'.length) (ht : b.length = b'.length)
      (h : ∀ (i : Nat) (v v' : Value), a[i]? = some v → a'[i]? = some v' → VRel β v v') (h' : ∀ (i : Nat) (v v' : Value), b[i]? = some v → b'[i]? = some v' → VRel β v v') :
      VRel β (.func (.func fn) ⟨a⟩ ⟨b⟩) (.func (.func fn) ⟨a'⟩ ⟨b'⟩)
  | iface {t : TypeId} {v v' : Value} (h : VRel β v v') : VRel β (.iface t v) (.iface t v')
  | agg {a a' : List Value} (hs : a.length = a'.length) (h : ∀ (i : Nat) (v v' : Value), a[i]? = some v → a'[i]? = some v' → VRel β v v') : VRel β (.agg ⟨a⟩) (.agg ⟨a'⟩)
  | tuple {a a' : List Value} (hs : a.length = a'.length) (h : ∀ (i : Nat) (v v' : Value), a[i]? = some v → a'[i]? = some v' → VRel β v v') : VRel β (.tuple ⟨a⟩) (.tuple ⟨a'⟩)

/- lists of values -/
def LR (β : Bm) (l l' : List Value) : Prop := l.length = l'.length ∧ ∀ (i : Nat) (v v' : Value), l[i]? = some v → l'[i]? = some v' → VRel β v v'

section
variable {β γ : Bm}

theorem VRel.mono {v v' : Value} (h : VRel β v v') (hb : ∀ i x, β i = some x → γ i = some x) : VRel γ v v' := by
  induction h with
  | bool b => exact .bool b
  | int k n => exact .int k n
  | float k n => exact .float k n
  | complex k m n => exact .complex k m n
  | string s => exact .string s
  | nilFunc => exact .nilFunc
  | nilIface => exact .nilIface
  | ptr0 => exact .ptr0
  | ptr h => exact .ptr (hb _ _ h)
  | slice0 l c => exact .slice0 l c
  | slice h hc => exact .slice (hb _ _ h) hc
  | sliceU h hl hn => exact .sliceU (hb _ _ h) hl hn
  | sliceE a hc => exact .sliceE a hc
  | map0 => exact .map0
  | map h => exact .map (hb _ _ h)
  | func hs ht _ _ ih ih' => exact .func hs ht ih ih'
  | iface _ ih => exact .iface ih
  | agg hs _ ih => exact .agg hs ih
  | tuple hs _ ih => exact .tuple hs ih

theorem LR.mono {l l' : List Value} (h : LR β l l') (hb : ∀ i x, β i = some x → γ i = some x) : LR γ l l' :=
  ⟨h.1, fun i v v' a b => (h.2 i v v' a b).mono hb⟩

theorem LR.nil : LR β [] [] := ⟨rfl, fun i v v' h => by simp at h⟩

theorem LR.cons {v v' : Value} {l l' : List Value} (h : VRel β v v') (hl : LR β l l') : LR β (v :: l) (v' :: l') := by
  refine ⟨by simp [hl.1], fun i u u' a b => ?_⟩
  cases i with
  | zero => simp at a b; subst a; subst b; exact h
  | succ i => simp at a b; exact hl.2 i u u' a b

theorem LR.head {v v' : Value} {l l' : List Value} (h : LR β (v :: l) (v' :: l')) : VRel β v v' := h.2 0 v v' rfl rfl
theorem LR.tail {v v' : Value} {l l' : List Value} (h : LR β (v :: l) (v' :: l')) : LR β l l' :=
  ⟨by simpa using h.1, fun i u u' a b => h.2 (i + 1) u u' (by simpa using a) (by simpa using b)⟩

theorem LR.nil_inv {l : List Value} (h : LR β [] l) : l = [] := by
  have := h.1; simp at this; exact List.eq_nil_of_length_eq_zero this.symm
theorem LR.cons_inv {v : Value} {l l' : List Value} (h : LR β (v :: l) l') : ∃ v' m, l' = v' :: m ∧ VRel β v v' ∧ LR β l m := by
  cases l' with
  | nil => have := h.1; simp at this
  | cons v' m => exact ⟨v', m, rfl, h.head, h.tail⟩

theorem LR.getElem {l l' : List Value} (h : LR β l l') {i : Nat} {v : Value} (hv : l[i]? = some v) : ∃ v', l'[i]? = some v' ∧ VRel β v v' := by
  have hi : i < l.length := by
    rcases Nat.lt_or_ge i l.length with h | h
    · exact h
    · simp [List.getElem?_eq_none h] at hv
  have hi' : i < l'.length := h.1 ▸ hi
  exact ⟨l'[i], by simp [hi'], h.2 i v _ hv (by simp [hi'])⟩

theorem LR.append {l l' m m' : List Value} (h : LR β l l') (hm : LR β m m') : LR β (l ++ m) (l' ++ m') := by
  induction l generalizing l' with
  | nil => rw [h.nil_inv]; simpa using hm
  | cons v l ih =>
    obtain ⟨v', k, rfl, hv, hk⟩ := h.cons_inv
    exact LR.cons hv (ih hk)

theorem LR.drop {l l' : List Value} (h : LR β l l') (n : Nat) : LR β (l.drop n) (l'.drop n) :=
  ⟨by simp [h.1], fun i v v' a b => h.2 (n + i) v v' (by simpa using a) (by simpa using b)⟩

theorem LR.take {l l' : List Value} (h : LR β l l') (n : Nat) : LR β (l.take n) (l'.take n) := by
  refine ⟨by simp [h.1], fun i v v' a b => ?_⟩
  simp only [List.getElem?_take] at a b
  split at a
  · rename_i hi; rw [if_pos hi] at b; exact h.2 i v v' a b
  · cases a

theorem LR.slc {l l' : List Value} (h : LR β l l') (o n : Nat) : LR β (slc l o n) (slc l' o n) := (h.drop o).take n

/- scalars -/
theorem scalars_iff {l : List Value} : scalars l = true ↔ ∀ (i : Nat) (v : Value), l[i]? = some v → scalar v = true := by
  induction l with
  | nil => simp [scalars]
  | cons v l ih =>
    simp only [scalars]
    constructor
    · intro h i u hu
      cases hv : scalar v <;> simp [hv] at h
      cases i with
      | zero => simp at hu; subst hu; exact hv
      | succ i => exact ih.1 h i u (by simpa using hu)
    · intro h
      rw [h 0 v rfl]
      exact ih.2 fun i u hu => h (i + 1) u (by simpa using hu)

theorem ext_get {l l' : List Value} (hs : l.length = l'.length) (h : ∀ (i : Nat) (v v' : Value), l[i]? = some v → l'[i]? = some v' → v' = v) : l' = l := by
  apply List.ext_getElem? 
  intro i
  rcases Nat.lt_or_ge i l.length with hi | hi
  · have hi' : i < l'.length := hs ▸ hi
    simp only [List.getElem?_eq_getElem hi, List.getElem?_eq_getElem hi']
    exact congrArg some (h i l[i] l'[i] (by simp [hi]) (by simp [hi']))
  · rw [List.getElem?_eq_none hi, List.getElem?_eq_none (hs ▸ hi)]

theorem VRel.scalar_eq {v v' : Value} (h : VRel β v v') : scalar v = true → v' = v := by
  induction h with
  | ptr => intro h; simp [scalar] at h
  | slice => intro h; simp [scalar] at h
  | sliceU => intro h; simp [scalar] at h
  | sliceE => intro h; simp [scalar] at h
  | map => intro h; simp [scalar] at h
  | func => intro h; simp [scalar] at h
  | iface _ ih => intro h; simp only [scalar] at h; rw [ih h]
  | agg hs _ ih =>
    intro h; simp only [scalar] at h
    rw [ext_get hs fun i v v' a b => ih i v v' a b (scalars_iff.1 h i v a)]
  | tuple hs _ ih =>
    intro h; simp only [scalar] at h
    rw [ext_get hs fun i v v' a b => ih i v v' a b (scalars_iff.1 h i v a)]
  | _ => intro _; rfl

theorem LR.scalar_eq {l l' : List Value} (h : LR β l l') (hs : scalars l = true) : l' = l :=
  ext_get h.1 fun i v v' a b => (h.2 i v v' a b).scalar_eq (scalars_iff.1 hs i v a)

mutual
theorem scalar_refl : ∀ (v : Value), scalar v = true → VRel β v v
  | .bool b, _ => .bool b
  | .int k n, _ => .int k n
  | .float k n, _ => .float k n
  | .complex k m n, _ => .complex k m n
  | .string s, _ => .string s
  | .nilFunc, _ => .nilFunc
  | .nilIface, _ => .nilIface
  | .pointer none, _ => .ptr0
  | .pointer (some _), h => by simp [scalar] at h
  | .slice none l c, _ => .slice0 l c
  | .slice (some _) _ _, h => by simp [scalar] at h
  | .map none, _ => .map0
  | .map (some _), h => by simp [scalar] at h
  | .chan _, h => by simp [scalar] at h
  | .func .., h => by simp [scalar] at h
  | .iface _ v, h => .iface (scalar_refl v (by simpa [scalar] using h))
  | .agg ⟨cs⟩, h => let r := scalars_refl cs (by simpa [scalar] using h); .agg r.1 r.2
  | .tuple ⟨cs⟩, h => let r := scalars_refl cs (by simpa [scalar] using h); .tuple r.1 r.2
theorem scalars_refl : ∀ (l : List Value), scalars l = true → LR β l l
  | [], _ => .nil
  | v :: l, h => by
    simp only [scalars] at h
    cases hv : scalar v with
    | false => simp [hv] at h
    | true => rw [hv] at h; exact .cons (scalar_refl v hv) (scalars_refl l h)
end

/- the cells of related values -/
theorem VRel.cells {v v' : Value} (h : VRel β v v') : LR β v.cells.toList v'.cells.toList := by
  cases h with
  | agg hs h => exact ⟨hs, h⟩
  | _ => exact LR.cons (by constructor <;> assumption) .nil

theorem VRel.isCell {v v' : Value} (h : VRel β v v') : isCell v' = isCell v := by cases h <;> rfl

theorem LR.allCells {l l' : List Value} (h : LR β l l') : allCells l' = allCells l := by
  induction l generalizing l' with
  | nil => rw [h.nil_inv]
  | cons v l ih =>
    obtain ⟨v', k, rfl, hv, hk⟩ := h.cons_inv
    simp only [Dv.allCells, hv.isCell, ih hk]

end

/- the tree of temporaries -/
theorem Tr.get_set (tr : Tr) (k j : Nat) (x : Option Value) : (tr.set k x).get j = if k = j then (if (tr.get k).isSome ∨ x = none then x else (tr.set k x).get k) else tr.get j := by
  by_cases hk : k = j
  · subst hk
    simp only [if_true]
    split
    · rename_i h
      induction tr generalizing k with
      | leaf =>
        simp only [Tr.set, Tr.get] at h ⊢
        rcases h with h | h
        · simp at h
        · exact h.symm
      | node l v r ihl ihr =>
        simp only [Tr.set]
        by_cases h0 : Nat.beq k 0 = true
        · simp [h0, Tr.get]
        · simp only [Bool.not_eq_true] at h0
          simp only [h0]
          by_cases h2 : Nat.beq (Nat.mod k 2) 0 = true
          · simp only [h2, Tr.get, h0]
            exact ihr _ (by simpa [Tr.get, h0, h2] using h)
          · simp only [Bool.not_eq_true] at h2
            simp only [h2, Tr.get, h0]
            exact ihl _ (by simpa [Tr.get, h0, h2] using h)
    · rfl
  · simp only [hk, if_false]
    induction tr generalizing k j with
    | leaf => rfl
    | node l v r ihl ihr =>
      simp only [Tr.set]
      by_cases h0 : Nat.beq k 0 = true
      · simp only [h0]
        have hj : Nat.beq j 0 = false := by
          cases hb : Nat.beq j 0 with
          | false => rfl
          | true => exact absurd ((Nat.eq_of_beq_eq_true h0).trans (Nat.eq_of_beq_eq_true hb).symm) hk
        simp [Tr.get, hj]
      · simp only [Bool.not_eq_true] at h0
        simp only [h0]
        have hk0 : k ≠ 0 := by intro h; subst h; simp at h0
        by_cases h2 : Nat.beq (Nat.mod k 2) 0 = true
        · simp only [h2]
          simp only [Tr.get]
          cases hj : Nat.beq j 0 with
          | true => rfl
          | false =>
            have hj0 : j ≠ 0 := by intro h; subst h; simp at hj
            cases hj2 : Nat.beq (Nat.mod j 2) 0 with
            | false => rfl
            | true =>
              have a := Nat.eq_of_beq_eq_true h2
              have b := Nat.eq_of_beq_eq_true hj2
              refine ihr _ _ ?_
              intro he
              apply hk
              change k % 2 = 0 at a; change j % 2 = 0 at b; change (k - 1) / 2 = (j - 1) / 2 at he
              omega
        · simp only [Bool.not_eq_true] at h2
          simp only [h2]
          simp only [Tr.get]
          cases hj : Nat.beq j 0 with
          | true => rfl
          | false =>
            have hj0 : j ≠ 0 := by intro h; subst h; simp at hj
            cases hj2 : Nat.beq (Nat.mod j 2) 0 with
            | true => rfl
            | false =>
              have a : ¬ k % 2 = 0 := fun h => by rw [show Nat.mod k 2 = 0 from h] at h2; simp at h2
              have b : ¬ j % 2 = 0 := fun h => by rw [show Nat.mod j 2 = 0 from h] at hj2; simp at hj2
              refine ihl _ _ ?_
              intro he
              apply hk
              change (k - 1) / 2 = (j - 1) / 2 at he
              omega

theorem Tr.get_set_ne (tr : Tr) {k j : Nat} (x : Option Value) (h : k ≠ j) : (tr.set k x).get j = tr.get j := by rw [Tr.get_set, if_neg h]

theorem Tr.get_set_some (tr : Tr) {k : Nat} {x : Option Value} {v : Value} (h : (tr.set k x).get k = some v) : x = some v := by
  induction tr generalizing k with
  | leaf => simp [Tr.set, Tr.get] at h
  | node l u r ihl ihr =>
    simp only [Tr.set] at h
    by_cases h0 : Nat.beq k 0 = true
    · simp only [h0, Tr.get] at h; exact h
    · simp only [Bool.not_eq_true] at h0
      simp only [h0] at h
      by_cases h2 : Nat.beq (Nat.mod k 2) 0 = true
      · simp only [h2, Tr.get, h0] at h; exact ihr h
      · simp only [Bool.not_eq_true] at h2
        simp only [h2, Tr.get, h0] at h; exact ihl h

theorem Tr.get_mk (d k : Nat) (v : Value) (h : (Tr.mk d).get k = some v) : v = undefV := by
  induction d generalizing k with
  | zero => simp [Tr.mk, Tr.get] at h
  | succ d ih =>
    simp only [Tr.mk, Tr.get] at h
    split at h
    · cases h; rfl
    · split at h <;> exact ih _ h

/- the tree of blocks -/
theorem Hp.get_set_ne : ∀ (f : Nat) (h : Hp) (k j : Nat) (b : Blk), k ≠ j → (Hp.set f h k b).get j = h.get j := by
  intro f
  induction f with
  | zero => intro h k j b _; rfl
  | succ f ih =>
    intro h k j b hk
    have key : ∀ (l : Hp) (v : Option Blk) (r : Hp), (match Nat.beq k 0 with
        | true => Hp.node l (some b) r
        | false => match Nat.beq (Nat.mod k 2) 0 with
          | true => .node l v (Hp.set f r (Nat.div (Nat.sub k 1) 2) b)
          | false => .node (Hp.set f l (Nat.div (Nat.sub k 1) 2) b) v r).get j = (Hp.node l v r).get j := by
      intro l v r
      cases h0 : Nat.beq k 0 with
      | true =>
        have hj : Nat.beq j 0 = false := by
          cases hb : Nat.beq j 0 with
          | false => rfl
          | true => exact absurd ((Nat.eq_of_beq_eq_true h0).trans (Nat.eq_of_beq_eq_true hb).symm) hk
        simp [Hp.get, hj]
      | false =>
        have hk0 : k ≠ 0 := by intro h; subst h; simp at h0
        cases h2 : Nat.beq (Nat.mod k 2) 0 with
        | true =>
          simp only [Hp.get]
          cases hj : Nat.beq j 0 with
          | true => rfl
          | false =>
            have hj0 : j ≠ 0 := by intro h; subst h; simp at hj
            cases hj2 : Nat.beq (Nat.mod j 2) 0 with
            | false => rfl
            | true =>
              have a := Nat.eq_of_beq_eq_true h2
              have c := Nat.eq_of_beq_eq_true hj2
              refine ih _ _ _ _ ?_
              intro he
              apply hk
              change k % 2 = 0 at a; change j % 2 = 0 at c; change (k - 1) / 2 = (j - 1) / 2 at he
              omega
        | false =>
          simp only [Hp.get]
          cases hj : Nat.beq j 0 with
          | true => rfl
          | false =>
            have hj0 : j ≠ 0 := by intro h; subst h; simp at hj
            cases hj2 : Nat.beq (Nat.mod j 2) 0 with
            | true => rfl
            | false =>
              have a : ¬ k % 2 = 0 := fun h => by rw [show Nat.mod k 2 = 0 from h] at h2; simp at h2
              have c : ¬ j % 2 = 0 := fun h => by rw [show Nat.mod j 2 = 0 from h] at hj2; simp at hj2
              refine ih _ _ _ _ ?_
              intro he
              apply hk
              change (k - 1) / 2 = (j - 1) / 2 at he
              omega
    cases h with
    | leaf =>
      have hl : ∀ m, Hp.leaf.get m = none := fun _ => rfl
      have h1 := key .leaf none .leaf
      have h2 : (Hp.node .leaf none .leaf).get j = none := by
        simp only [Hp.get]; split
        · rfl
        · split <;> rfl
      rw [h2] at h1
      exact h1
    | node l v r => exact key l v r

theorem Hp.get_set_same : ∀ (f : Nat) (h : Hp) (k : Nat) (b : Blk), k < f → (Hp.set f h k b).get k = some b := by
  intro f
  induction f with
  | zero => intro h k b hk; omega
  | succ f ih =>
    intro h k b hk
    have key : ∀ (l : Hp) (v : Option Blk) (r : Hp), (match Nat.beq k 0 with
        | true => Hp.node l (some b) r
        | false => match Nat.beq (Nat.mod k 2) 0 with
          | true => .node l v (Hp.set f r (Nat.div (Nat.sub k 1) 2) b)
          | false => .node (Hp.set f l (Nat.div (Nat.sub k 1) 2) b) v r).get k = some b := by
      intro l v r
      cases h0 : Nat.beq k 0 with
      | true => simp [Hp.get, h0]
      | false =>
        have hk0 : k ≠ 0 := by intro h; subst h; simp at h0
        have hlt : Nat.div (Nat.sub k 1) 2 < f := by change (k - 1) / 2 < f; omega
        cases h2 : Nat.beq (Nat.mod k 2) 0 with
        | true => simp only [Hp.get, h0, h2]; exact ih _ _ _ hlt
        | false => simp only [Hp.get, h0, h2]; exact ih _ _ _ hlt
    cases h with
    | leaf => exact key .leaf none .leaf
    | node l v r => exact key l v r

theorem St.blk_put (s : St) (i j : Nat) (b : Blk) : (s.put i b).blk j = if i = j then some b else s.blk j := by
  unfold St.put St.blk
  split
  · rename_i h; subst h; exact Hp.get_set_same _ _ _ _ (Nat.lt_succ_self _)
  · rename_i h; exact Hp.get_set_ne _ _ _ _ _ h

theorem St.blk_push (s : St) (j : Nat) (b : Blk) : (s.push b).blk j = if s.n = j then some b else s.blk j := by
  unfold St.push St.blk
  split
  · rename_i h; subst h; exact Hp.get_set_same _ _ _ _ (Nat.lt_succ_self _)
  · rename_i h; exact Hp.get_set_ne _ _ _ _ _ h

@[simp] theorem St.n_put (s : St) (i : Nat) (b : Blk) : (s.put i b).n = s.n := rfl
@[simp] theorem St.n_push (s : St) (b : Blk) : (s.push b).n = s.n + 1 := rfl

/- blocks -/
def Blk.live : Blk → Bool
  | .cells _ _ l _ _ => l
  | .map _ _ => true
  | .hole => false

def Blk.own : Blk → Bool
  | .cells c _ l _ _ => l || !c.isEmpty
  | .map _ _ => true
  | .hole => false

def Blk.anc : Blk → Option Nat
  | .cells _ _ _ a _ => a
  | _ => none

def KDist (es : List (Value × Value)) : Prop := es.Pairwise fun a b => a.1 ≠ b.1
def CDist (es : List MapEntry) : Prop := es.Pairwise fun a b => a.key ≠ b.key

structure MRel (β : Bm) (kk : Kk) (es : List (Value × Value)) (ces : List MapEntry) : Prop where
  keys : ∀ p ∈ es, kk.has p.1 = true
  dist : KDist es
  cdist : CDist ces
  fwd : ∀ p ∈ es, ∃ e ∈ ces, e.key = p.1 ∧ VRel β p.2 e.val
  bwd : ∀ e ∈ ces, ∃ p ∈ es, p.1 = e.key ∧ VRel β p.2 e.val
  len : es.length = ces.length

def BRel (_P : Program) (β : Bm) (w : World) (i : Nat) : Blk → Prop
  | .cells c e l _ fz => ∃ (x : BI) (cc : Array Value) (lo hi : Nat), β i = some x ∧ w.heap[x.b]? = some (.cells cc e (lo, hi)) ∧ x.n = cc.size ∧
      x.d + c.length ≤ cc.size ∧
      (∀ (j : Nat) (v : Value), c[j]? = some v → ∃ v', cc[x.d + j]? = some v' ∧ VRel β v v') ∧ (l = true → ∀ o, lo ≤ o → o < hi → o < x.d + fz ∨ cc.size ≤ o)
  | .map kk es => ∃ (x : BI) (ces : Array MapEntry) (clk : Nat), β i = some x ∧ w.heap[x.b]? = some (.map ces clk) ∧ MRel β kk es ces.toList
  | .hole => True

structure Rel (P : Program) (nC : Nat) (C : Nat → Option Blk) (β : Bm) (s : St) (w : World) : Prop where
  blk : ∀ i b, s.blk i = some b → BRel P β w i b
  out : ∀ i, s.n ≤ i → β i = none
  outB : ∀ i, s.n ≤ i → s.blk i = none
  sep : ∀ i j bi bj x y, s.blk i = some bi → bi.live = true → s.blk j = some bj → bj.own = true → i ≠ j → β i = some x → β j = some y → x.b = y.b → bi.anc = some j
  anc : ∀ i bi j, s.blk i = some bi → bi.live = true → bi.anc = some j → nC ≤ j ∧ j ≠ i ∧ ∃ c e fz, s.blk j = some (.cells c e false none fz)
  con : ∀ i, i < nC → s.blk i = C i
  conL : ∀ i b, i < nC → s.blk i = some b → b.live = false
  le : nC ≤ s.n
  glob : ∀ g, g < P.globals.size → g < nC ∧ ∃ x, β g = some x ∧ x.b = g ∧ x.d = 0
  bnd : ∀ i x, β i = some x → x.b < w.heap.size

structure Ext (P : Program) (nC : Nat) (C : Nat → Option Blk) (β : Bm) (s : St) (w : World) (β' : Bm) (s' : St) (w' : World) : Prop where
  mono : ∀ i x, β i = some x → β' i = some x
  rel : Rel P nC C β' s' w'
  size : w.heap.size ≤ w'.heap.size
  keep : ∀ b, b < w.heap.size → (∀ i bi x, s.blk i = some bi → bi.live = true → β i = some x → x.b ≠ b) → w'.heap[b]? = w.heap[b]?
  rangeL : ∀ i bi x, s'.blk i = some bi → bi.live = true → β' i = some x → w.heap.size ≤ x.b ∨ ∃ j bj y, s.blk j = some bj ∧ bj.live = true ∧ β j = some y ∧ y.b = x.b
  rangeO : ∀ i bi x, s'.blk i = some bi → bi.own = true → β' i = some x → w.heap.size ≤ x.b ∨ ∃ j bj y, s.blk j = some bj ∧ bj.own = true ∧ β j = some y ∧ y.b = x.b
  os : w'.os = w.os
  output : w'.output = w.output
  tape : w'.tape = w.tape
  grow : s.n ≤ s'.n
  holes : ∀ i, s.blk i = some .hole → s'.blk i = some .hole
  unhole : ∀ i, i < s.n → s'.blk i = some .hole → s.blk i = some .hole
  new : ∀ i, i < s.n → β' i = β i

section
variable {P : Program} {nC : Nat} {C : Nat → Option Blk} {β β' β'' : Bm} {s s' s'' : St} {w w' w'' : World}

theorem Ext.refl (h : Rel P nC C β s w) : Ext P nC C β s w β s w :=
  { mono := fun _ _ h => h, rel := h, size := Nat.le_refl _, keep := fun _ _ _ => rfl, os := rfl, output := rfl, tape := rfl, grow := Nat.le_refl _, holes := fun _ h => h, unhole := fun _ _ h => h, new := fun _ _ => rfl,
    rangeL := fun i bi x hb hl hx => .inr ⟨i, bi, x, hb, hl, hx, rfl⟩
    rangeO := fun i bi x hb hl hx => .inr ⟨i, bi, x, hb, hl, hx, rfl⟩ }

theorem Ext.trans (h : Ext P nC C β s w β' s' w') (h' : Ext P nC C β' s' w' β'' s'' w'') : Ext P nC C β s w β'' s'' w'' :=
  { mono := fun i x hx => h'.mono i x (h.mono i x hx), rel := h'.rel, size := Nat.le_trans h.size h'.size
    os := h'.os.trans h.os, output := h'.output.trans h.output, tape := h'.tape.trans h.tape, grow := Nat.le_trans h.grow h'.grow, holes := fun i hi => h'.holes i (h.holes i hi)
    unhole := fun i hi hh => h.unhole i hi (h'.unhole i (Nat.lt_of_lt_of_le hi h.grow) hh), new := fun i hi => (h'.new i (Nat.lt_of_lt_of_le hi h.grow)).trans (h.new i hi)
    keep := fun b hb hn => by
      refine (h'.keep b (Nat.lt_of_lt_of_le hb h.size) ?_).trans (h.keep b hb hn)
      intro i bi x hi hl hx he
      rcases h.rangeL i bi x hi hl hx with hge | ⟨j, bj, y, hj, hjl, hy, hyb⟩
      · omega
      · exact hn j bj y hj hjl hy (hyb.trans he)
    rangeL := fun i bi x hi hl hx => by
      rcases h'.rangeL i bi x hi hl hx with hge | ⟨j, bj, y, hj, hjl, hy, hyb⟩
      · exact .inl (Nat.le_trans h.size hge)
      · rcases h.rangeL j bj y hj hjl hy with hge | ⟨k, bk, z, hk, hkl, hz, hzb⟩
        · exact .inl (hyb ▸ hge)
        · exact .inr ⟨k, bk, z, hk, hkl, hz, hzb.trans hyb⟩
    rangeO := fun i bi x hi hl hx => by
      rcases h'.rangeO i bi x hi hl hx with hge | ⟨j, bj, y, hj, hjl, hy, hyb⟩
      · exact .inl (Nat.le_trans h.size hge)
      · rcases h.rangeO j bj y hj hjl hy with hge | ⟨k, bk, z, hk, hkl, hz, hzb⟩
        · exact .inl (hyb ▸ hge)
        · exact .inr ⟨k, bk, z, hk, hkl, hz, hzb.trans hyb⟩ }
end
end Go.Dv
end
section
/- Operations that touch no memory. -/
namespace Go.Dv

theorem pureRun_run {α : Type} {P : Program} {m : Sem α} {a : α} (h : pureRun P m = some a) (w : World) : m.run P w = .ok a w := by
  induction m generalizing w with
  | pure b => simp only [pureRun, Option.some.injEq] at h; subst h; rfl
  | program k ih => simp only [pureRun] at h; simp only [Sem.run]; exact ih P h w
  | _ => simp [pureRun] at h

section
variable {P : Program} {β : Bm} {w : World}

theorem run_ud {t : TypeId} {d : TypeDesc} (h : P.underlying t = some d) : (underlying t).run P w = .ok d w := by
  simp [underlying, h]

theorem run_sz {t : TypeId} {n : Nat} (h : sizeD P t = some n) : (sizeOf t).run P w = .ok n w := by
  unfold sizeD at h
  split at h
  · rename_i i hi; cases h; simp [sizeOf, typeInfo, hi]
  · cases h

theorem zeroD_scalar {t : TypeId} {z : Value} (h : zeroD P t = some z) : scalar z = true := by
  unfold zeroD at h
  repeat (split at h <;> try (cases h; done))
  cases h; assumption

theorem run_zero {t : TypeId} {z : Value} (h : zeroD P t = some z) : (zeroValue t).run P w = .ok z w := by
  unfold zeroD at h
  split at h
  · rename_i i hi
    split at h
    · rename_i z' hz
      split at h
      · cases h; simp [zeroValue, typeInfo, hi, hz]
      · cases h
    · cases h
  · cases h

theorem run_isAgg {t : TypeId} {d : TypeDesc} (h : P.underlying t = some d) : (isAgg t).run P w = .ok (isAggD (some d)) w := by
  simp only [isAgg, Sem.run_bind, run_ud h, Result.andThen_ok]
  cases d <;> rfl

theorem extract_slc (l : List Value) (o n : Nat) : (Array.mk l).extract o (o + n) = ⟨slc l o n⟩ := by
  apply Array.ext'
  simp [slc, List.extract]

theorem run_part_agg {t : TypeId} {d : TypeDesc} {n : Nat} (h : P.underlying t = some d) (ha : isAggD (some d) = true) (hn : sizeD P t = some n) (l : List Value) (o : Nat) :
    (part t ⟨l⟩ o).run P w = .ok (.agg ⟨slc l o n⟩) w := by
  simp [part, run_isAgg h, ha, run_sz hn, slc]

theorem run_part_one {t : TypeId} {d : TypeDesc} {v : Value} (h : P.underlying t = some d) (ha : isAggD (some d) = false) (l : List Value) (o : Nat) (hv : l[o]? = some v) :
    (part t ⟨l⟩ o).run P w = .ok v w := by
  simp [part, run_isAgg h, ha, hv]

theorem add_eq (b o n : Nat) : Addr.add ⟨b, o, none⟩ n = ⟨b, o + n, none⟩ := by
  unfold Addr.add
  split
  · rename_i h; subst h; rfl
  · rfl

theorem vInt_eq (k : IntKind) (n : Int) : vInt k n = some (.int k n) := by simp [vInt, fInt_eq]
theorem vBool_eq (b : Bool) : vBool b = some (.bool b) := by simp [vBool, fBool_eq]
theorem vForce_some {r : Option Value} {v : Value} (h : vForce r = some v) : r = some v ∧ scalar v = true := by
  unfold vForce at h
  split at h
  · rw [vInt_eq] at h; cases h; exact ⟨rfl, rfl⟩
  · rw [vBool_eq] at h; cases h; exact ⟨rfl, rfl⟩
  · split at h
    · cases h; exact ⟨rfl, by assumption⟩
    · cases h
  · cases h

/- what the operands are -/
def Evs (P : Program) (β : Bm) (tr : Tr) (ev : Operand → Value) (xs : List Operand) : Prop :=
  ∀ x ∈ xs, ∀ v, evalO P tr x = some v → VRel β v (ev x)

def Yl (P : Program) (β : Bm) (ev : Operand → Value) (o : Oper) (v : Value) : Prop :=
  ∀ w : World, ∃ v', VRel β v v' ∧ (execOp ev o).run P w = .ok (.value v') w

theorem eqGuard_plain (op : BinOp) (t : TypeId) (x y : Operand) (a b : Value) (h : ∀ p q, ¬ (a = .agg p ∧ b = .agg q)) (h' : ¬ (a = .nilIface ∧ b = .nilIface)) :
    (eqGuard op t x y a b).run P w = .ok () w := by
  unfold eqGuard
  by_cases hc : (!(match op with | .eql | .neq => true | _ => false)) = true
  · cases op <;> simp at hc <;> rfl
  · have : op = .eql ∨ op = .neq := by cases op <;> simp at hc ⊢
    rcases this with rfl | rfl
    all_goals
      cases a <;> cases b <;> first | rfl | (exfalso; exact h _ _ ⟨rfl, rfl⟩) | (exfalso; exact h' ⟨rfl, rfl⟩)

/- does a type's kind fit the values that eqNil takes? -/
theorem eqNil_run {t : TypeId} {d : TypeDesc} {a b a' b' : Value} {r : Bool} (ha : VRel β a a') (hb : VRel β b b') (hd : P.underlying t = some d)
    (hk : kindOk d a = true)
    (hr : eqNil a b = some r) : (Op.equal t a' b').run P w = .ok r w := by
  have hm : Op.maxDepth = 9999 + 1 := rfl
  unfold Op.equal
  rw [hm, Op.equalIn]
  simp only [Sem.run_bind, run_ud hd, Result.andThen_ok]
  cases ha <;> simp [eqNil] at hr <;> cases hb <;> simp at hr <;> subst hr <;> cases d <;> simp [kindOk] at hk <;> rfl

theorem eqGuard_int (op : BinOp) (t : TypeId) (x y : Operand) (k k' : IntKind) (m n : Int) : (eqGuard op t x y (.int k m) (.int k' n)).run P w = .ok () w :=
  eqGuard_plain op t x y _ _ (fun _ _ h => by cases h.1) (fun h => by cases h.1)

theorem binD_run {op : BinOp} {t : TypeId} {x y : Operand} {a b a' b' v : Value} (ha : VRel β a a') (hb : VRel β b b') (h : binD P op t x y a b = some v) :
    ∃ v', VRel β v v' ∧ ((do eqGuard op t x y a' b'; binOp op t a' b' : Sem Value)).run P w = .ok v' w := by
  have scal : ∀ {r : Value}, scalar r = true → (binOp op t a' b').run P w = .ok r w → (eqGuard op t x y a' b').run P w = .ok () w →
      ∃ v', VRel β r v' ∧ ((do eqGuard op t x y a' b'; binOp op t a' b' : Sem Value)).run P w = .ok v' w := by
    intro r hr h1 h2
    exact ⟨r, scalar_refl r hr, by simp [h1, h2]⟩
  unfold binD at h
  split at h
  · rename_i k m k' n
    cases ha; cases hb
    split at h
    · rename_i hk
      have hk : k = k' := by simpa using hk
      subst hk
      split at h
      all_goals first
        | (rw [vInt_eq] at h; cases h; exact scal rfl (by simp [binOp, Op.intArith]) (eqGuard_int ..))
        | (rw [vBool_eq] at h; cases h; exact scal rfl (by simp [binOp, Op.intCmp]) (eqGuard_int ..))
        | (obtain ⟨h1, h2⟩ := vForce_some h; exact scal h2 (pureRun_run h1 w) (eqGuard_int ..))
    · obtain ⟨h1, h2⟩ := vForce_some h
      exact scal h2 (pureRun_run h1 w) (eqGuard_int ..)
  · split at h
    · rename_i sa sb
      have ea := ha.scalar_eq sa
      have eb := hb.scalar_eq sb
      subst ea; subst eb
      split at h
      · rename_i u hu
        obtain ⟨h1, h2⟩ := vForce_some h
        exact scal h2 (pureRun_run h1 w) (by cases u; exact pureRun_run hu w)
      · cases h
    · split at h
      · rename_i d hd
        split at h
        · rename_i hk
          split at h
          · rename_i r hr
            rw [vBool_eq] at h; cases h
            have he := eqNil_run (w := w) ha hb hd hk hr
            refine scal rfl ?_ (eqGuard_plain _ _ _ _ _ _ (fun p q hh => ?_) (fun hh => ?_))
            · cases ha <;> simp [eqNil] at hr <;> cases hb <;> simp at hr <;> simp [binOp, he]
            · cases ha <;> simp [eqNil] at hr <;> cases hb <;> simp at hr <;> simp at hh
            · cases ha <;> simp [eqNil] at hr <;> cases hb <;> simp at hr <;> simp at hh
          · cases h
        · rename_i hk
          split at h
          · rename_i r hr
            rw [vBool_eq] at h; cases h
            have he := eqNil_run (w := w) ha hb hd hk hr
            refine scal rfl ?_ (eqGuard_plain _ _ _ _ _ _ (fun p q hh => ?_) (fun hh => ?_))
            · cases ha <;> simp [eqNil] at hr <;> cases hb <;> simp at hr <;> simp [binOp, he]
            · cases ha <;> simp [eqNil] at hr <;> cases hb <;> simp at hr <;> simp at hh
            · cases ha <;> simp [eqNil] at hr <;> cases hb <;> simp at hr <;> simp at hh
          · cases h
        · cases h
      · cases h

end
end Go.Dv
end
section
/- Operations that touch no memory, one by one. -/
namespace Go.Dv

theorem upd_get : ∀ {c : List Value} {off : Nat} {vs r : List Value}, upd c off vs = some r → off + vs.length ≤ c.length →
    r.length = c.length ∧ ∀ i : Nat, r[i]? = if off ≤ i ∧ i < off + vs.length then vs[i - off]? else c[i]? := by
  intro c off
  induction off generalizing c with
  | zero =>
    intro vs r h hl
    simp only [upd, Option.some.injEq] at h
    subst h
    refine ⟨by simp; omega, fun i => ?_⟩
    simp only [List.getElem?_append, Nat.zero_le, true_and, Nat.zero_add, Nat.sub_zero, List.getElem?_drop]
    split
    · rfl
    · rename_i hi; congr 1; omega
  | succ off ih =>
    intro vs r h hl
    cases c with
    | nil => simp at hl
    | cons x c =>
      simp only [upd] at h
      split at h
      · cases h
      · rename_i r' hr
        cases h
        obtain ⟨h1, h2⟩ := ih hr (by simp at hl; omega)
        refine ⟨by simp [h1], fun i => ?_⟩
        cases i with
        | zero => simp
        | succ i =>
          simp only [List.getElem?_cons_succ, h2 i]
          by_cases hc : off ≤ i ∧ i < off + vs.length
          · rw [if_pos hc, if_pos (by omega)]; congr 1; omega
          · rw [if_neg hc, if_neg (by omega)]

theorem upd_some : ∀ {c : List Value} {off : Nat} {vs : List Value}, off + vs.length ≤ c.length → ∃ r, upd c off vs = some r := by
  intro c off
  induction off generalizing c with
  | zero => intro vs _; cases c <;> exact ⟨_, rfl⟩
  | succ off ih =>
    intro vs hl
    cases c with
    | nil => simp at hl
    | cons x c =>
      obtain ⟨r, hr⟩ := ih (c := c) (vs := vs) (by simp at hl; omega)
      exact ⟨x :: r, by simp [upd, hr]⟩

theorem foldl_set : ∀ (l : List Value) (off k : Nat) (cs : Array Value),
    ((l.zipIdx k).foldl (fun (cs : Array Value) (p : Value × Nat) => cs.setIfInBounds (off + p.2) p.1) cs).size = cs.size ∧
    ∀ i : Nat, ((l.zipIdx k).foldl (fun (cs : Array Value) (p : Value × Nat) => cs.setIfInBounds (off + p.2) p.1) cs)[i]? =
      if off + k ≤ i ∧ i < off + k + l.length ∧ i < cs.size then l[i - (off + k)]? else cs[i]? := by
  intro l
  induction l with
  | nil =>
    intro off k cs
    refine ⟨rfl, fun i => ?_⟩
    rw [if_neg (by simp; omega)]
    rfl
  | cons x l ih =>
    intro off k cs
    obtain ⟨h1, h2⟩ := ih off (k + 1) (cs.setIfInBounds (off + k) x)
    simp only [List.zipIdx_cons, List.foldl_cons]
    refine ⟨by rw [h1]; simp, fun i => ?_⟩
    rw [h2 i]
    simp only [Array.size_setIfInBounds, List.length_cons]
    by_cases hc : off + (k + 1) ≤ i ∧ i < off + (k + 1) + l.length ∧ i < cs.size
    · rw [if_pos hc, if_pos (by omega)]
      rw [show i - (off + k) = (i - (off + (k + 1))) + 1 by omega]
      simp
    · rw [if_neg hc, Array.getElem?_setIfInBounds]
      by_cases he : off + k = i
      · subst he
        by_cases hs : off + k < cs.size
        · rw [if_pos (by omega)]; simp [hs]
        · simp [hs]
          try omega
      · rw [if_neg he, if_neg (by omega)]

theorem cells_fold (v : Value) (off : Nat) (cs : Array Value) :
    (v.cells.zipIdx.foldl (fun cs (c, j) => cs.setIfInBounds (off + j) c) cs).size = cs.size ∧
    ∀ i : Nat, (v.cells.zipIdx.foldl (fun cs (c, j) => cs.setIfInBounds (off + j) c) cs)[i]? =
      if off ≤ i ∧ i < off + v.cells.toList.length ∧ i < cs.size then v.cells.toList[i - off]? else cs[i]? := by
  have h := foldl_set v.cells.toList off 0 cs
  rw [← Array.foldl_toList]
  simpa [Array.toList_zipIdx] using h

section
variable {P : Program} {β : Bm} {w : World}

theorem LR.of_get {l l' : List Value} (hs : l.length = l'.length) (h : ∀ i : Nat, ∀ v v', l[i]? = some v → l'[i]? = some v' → VRel β v v') : LR β l l' := ⟨hs, h⟩

/- parts -/
def PR (β : Bm) : List (Nat × Value) → List (Nat × Value) → Prop
  | [], [] => True
  | (i, v) :: l, (j, v') :: l' => i = j ∧ VRel β v v' ∧ PR β l l'
  | _, _ => False

theorem fill_rel {place place' : Nat → Option (Nat × Nat)} (hp : ∀ i p, place i = some p → place' i = some p) :
    ∀ {ps ps' : List (Nat × Value)} {c r : List Value} {c' : Array Value}, PR β ps ps' → LR β c c'.toList → fillD place c ps = some r →
      ∃ r' : Array Value, Instr.fill place' c' ps' = some r' ∧ LR β r r'.toList := by
  intro ps
  induction ps with
  | nil =>
    intro ps' c r c' hps hc h
    cases ps' with
    | nil => simp only [fillD, Option.some.injEq] at h; subst h; exact ⟨c', rfl, hc⟩
    | cons p ps' => exact hps.elim
  | cons p ps ih =>
    intro ps' c r c' hps hc h
    cases ps' with
    | nil => obtain ⟨i, v⟩ := p; exact hps.elim
    | cons p' ps' =>
      obtain ⟨i, v⟩ := p
      obtain ⟨j, v'⟩ := p'
      obtain ⟨rfl, hv, hps⟩ := hps
      simp only [fillD] at h
      split at h
      · cases h
      · rename_i off size hpl
        split at h
        · rename_i hs hb
          split at h
          · cases h
          · rename_i c2 hu
            have hs := Nat.eq_of_beq_eq_true hs
            have hb : off + v.cells.toList.length ≤ c.length := Nat.le_of_ble_eq_true hb
            have hcl := hv.cells
            have hsz : c'.size = c.length := by rw [hc.1]; simp
            have hvs : v'.cells.size = v.cells.toList.length := by rw [hcl.1]; simp
            obtain ⟨u1, u2⟩ := upd_get hu hb
            have f := cells_fold v' off c'
            obtain ⟨r', hr', hlr⟩ := ih (c' := v'.cells.zipIdx.foldl (fun cs (c, j) => cs.setIfInBounds (off + j) c) c') hps (by
              refine ⟨by rw [u1, hc.1]; simp only [Array.length_toList]; exact f.1.symm, fun k a a' ha ha' => ?_⟩
              rw [Array.getElem?_toList, f.2 k] at ha'
              rw [u2 k] at ha
              rw [← hcl.1] at ha'
              by_cases hk : off ≤ k ∧ k < off + v.cells.toList.length
              · rw [if_pos hk] at ha
                rw [if_pos (by omega)] at ha'
                exact hcl.2 _ _ _ ha ha'
              · rw [if_neg hk] at ha
                rw [if_neg (by omega)] at ha'
                exact hc.2 k _ _ ha (by simpa using ha')) h
            refine ⟨r', ?_, hlr⟩
            simp only [Instr.fill, hp _ _ hpl]
            rw [if_neg (by simp only [Bool.or_eq_true, ne_eq, decide_eq_true_eq, not_or]; omega)]
            exact hr'
        · cases h

theorem evalL_rel {tr : Tr} {ev : Operand → Value} : ∀ {xs : List Operand} {vs : List Value}, Evs P β tr ev xs → evalL P tr xs = some vs → LR β vs (xs.map ev) := by
  intro xs
  induction xs with
  | nil => intro vs _ h; simp only [evalL, Option.some.injEq] at h; subst h; exact .nil
  | cons x xs ih =>
    intro vs he h
    simp only [evalL] at h
    split at h
    · cases h
    · rename_i v hv
      split at h
      · cases h
      · rename_i us hu
        cases h
        exact .cons (he x (.head _) v hv) (ih (fun y hy => he y (.tail _ hy)) hu)

theorem partsD_rel {tr : Tr} {ev : Operand → Value} : ∀ {xs : List (Nat × Operand)} {vs : List (Nat × Value)}, Evs P β tr ev (xs.map (·.2)) → partsD P tr xs = some vs →
    PR β vs (xs.map fun (i, x) => (i, ev x)) := by
  intro xs
  induction xs with
  | nil => intro vs _ h; simp only [partsD, Option.some.injEq] at h; subst h; trivial
  | cons x xs ih =>
    intro vs he h
    obtain ⟨i, x⟩ := x
    simp only [partsD] at h
    split at h
    · cases h
    · rename_i v hv
      split at h
      · cases h
      · rename_i us hu
        cases h
        exact ⟨rfl, he x (.head _) v hv, ih (fun y hy => he y (.tail _ hy)) hu⟩

theorem VRel.slice_inv {i o l c : Nat} {v' : Value} (h : VRel β (.slice (some ⟨i, o, none⟩) l c) v') :
    (∃ x, β i = some x ∧ c < big ∧ v' = .slice (some ⟨x.b, x.d + o, none⟩) l c) ∨
    (∃ x c' sz, β i = some x ∧ c = big + sz ∧ l ≤ c' ∧ x.d + o + c' * sz ≤ x.n ∧ v' = .slice (some ⟨x.b, x.d + o, none⟩) l c') ∨
    (∃ a, l = 0 ∧ (c = 0 ∨ big ≤ c) ∧ v' = .slice (some a) 0 0) := by
  cases h with
  | slice h hc => exact .inl ⟨_, h, hc, rfl⟩
  | sliceU h hl hn => exact .inr (.inl ⟨_, _, _, h, rfl, hl, hn, rfl⟩)
  | sliceE a hc => exact .inr (.inr ⟨a, rfl, hc, rfl⟩)

theorem VRel.ptr_inv {i o : Nat} {v' : Value} (h : VRel β (.pointer (some ⟨i, o, none⟩)) v') : ∃ x, β i = some x ∧ v' = .pointer (some ⟨x.b, x.d + o, none⟩) := by
  cases h with
  | ptr h => exact ⟨_, h, rfl⟩

theorem VRel.agg_inv {cs : List Value} {v' : Value} (h : VRel β (.agg ⟨cs⟩) v') : ∃ cs', v' = .agg ⟨cs'⟩ ∧ LR β cs cs' := by
  cases h with
  | agg hs h => exact ⟨_, rfl, hs, h⟩

theorem VRel.tuple_inv {cs : List Value} {v' : Value} (h : VRel β (.tuple ⟨cs⟩) v') : ∃ cs', v' = .tuple ⟨cs'⟩ ∧ LR β cs cs' := by
  cases h with
  | tuple hs h => exact ⟨_, rfl, hs, h⟩

theorem VRel.int_inv {k : IntKind} {n : Int} {v' : Value} (h : VRel β (.int k n) v') : v' = .int k n := by cases h; rfl
theorem VRel.string_inv {n : ByteArray} {v' : Value} (h : VRel β (.string n) v') : v' = .string n := by cases h; rfl
theorem VRel.bool_inv {n : Bool} {v' : Value} (h : VRel β (.bool n) v') : v' = .bool n := by cases h; rfl
theorem VRel.map_inv {i : Nat} {v' : Value} (h : VRel β (.map (some i)) v') : ∃ x, β i = some x ∧ v' = .map (some x.b) := by
  cases h with
  | map h => exact ⟨_, h, rfl⟩
theorem VRel.iface_inv {t : TypeId} {v v' : Value} (h : VRel β (.iface t v) v') : ∃ u, v' = .iface t u ∧ VRel β v u := by
  cases h with
  | iface h => exact ⟨_, rfl, h⟩
theorem VRel.func_inv {fn : FuncId} {a b : List Value} {v' : Value} (h : VRel β (.func (.func fn) ⟨a⟩ ⟨b⟩) v') : ∃ a' b', v' = .func (.func fn) ⟨a'⟩ ⟨b'⟩ ∧ LR β a a' ∧ LR β b b' := by
  cases h with
  | func hs ht h h' => exact ⟨_, _, rfl, ⟨hs, h⟩, ⟨ht, h'⟩⟩

theorem kV_pure {v : Option Value} {u : Value} (h : kV v = some (.pure u)) : v = some u := by
  unfold kV at h; split at h <;> simp at h; subst h; rfl

end
end Go.Dv
end
section
/- Operations that touch no memory: what the model makes of them. -/
namespace Go.Dv
section
variable {P : Program} {β : Bm} {w : World} {tr : Tr} {ev : Operand → Value} {o : Oper} {v : Value}

theorem exec_v {s : Sem Value} {v' : Value} (hs : execOp ev o = (do pure (.value (← s)))) (hr : s.run P w = .ok v' w) : (execOp ev o).run P w = .ok (.value v') w := by
  rw [hs]; simp [hr]

theorem yl_move {x : Operand} (ho : o.op = .move x ∨ o.op = .assign x) (he : Evs P β tr ev [x]) (h : evalO P tr x = some v) : Yl P β ev o v := by
  intro w
  refine ⟨ev x, he x (.head _) v h, ?_⟩
  rcases ho with ho | ho <;> simp [execOp, ho]

theorem yl_pick {c a b : Operand} (ho : o.op = .pick c a b) (he : Evs P β tr ev [c, a, b]) (h : opK P tr o = some (.pure v)) : Yl P β ev o v := by
  intro w
  simp only [opK, ho] at h
  split at h
  · rename_i hc
    have := he c (by simp) _ hc
    cases hv : ev c <;> rw [hv] at this <;> cases this
    exact ⟨ev a, he a (by simp) v (kV_pure h), by simp [execOp, ho, hv, asBool]⟩
  · rename_i hc
    have := he c (by simp) _ hc
    cases hv : ev c <;> rw [hv] at this <;> cases this
    exact ⟨ev b, he b (by simp) v (kV_pure h), by simp [execOp, ho, hv, asBool]⟩
  · cases h

theorem yl_binOp {op : BinOp} {t t' : TypeId} {x y : Operand} (ho : o.op = .binOp op t x y t') (he : Evs P β tr ev [x, y]) (h : opK P tr o = some (.pure v)) : Yl P β ev o v := by
  intro w
  simp only [opK, ho] at h
  split at h
  · rename_i a b ha hb
    obtain ⟨v', hv, hr⟩ := binD_run (w := w) (he x (by simp) a ha) (he y (by simp) b hb) (kV_pure h)
    exact ⟨v', hv, exec_v (by first | (simp only [execOp, ho]; done) | (simp only [execOp, ho]; rfl)) hr⟩
  · cases h

theorem yl_unOp {op : UnOp} {t : TypeId} {x : Operand} (ho : o.op = .unOp op t x) (he : Evs P β tr ev [x]) (h : opK P tr o = some (.pure v)) : Yl P β ev o v := by
  intro w
  simp only [opK, ho] at h
  split at h
  · rename_i a ha
    split at h
    · rename_i hs
      obtain ⟨h1, h2⟩ := vForce_some (kV_pure h)
      have hx := (he x (by simp) a ha).scalar_eq hs
      refine ⟨v, scalar_refl v h2, exec_v (by first | (simp only [execOp, ho]; done) | (simp only [execOp, ho]; rfl)) ?_⟩
      rw [hx]; exact pureRun_run h1 w
    · cases h
  · cases h

theorem sureAddr_run (a : Addr) : (Instr.sureAddr (.pointer (some a))).run P w = .ok a w := rfl

theorem fieldPlace_run {b o n : Nat} {f : Field} (h : sizeD P f.type = some (n + 1)) : (fieldPlace ⟨b, o, none⟩ f).run P w = .ok ⟨b, o + f.offset, none⟩ w := by
  simp [fieldPlace, run_sz h, add_eq]

theorem fldD_get {fs : Array Field} {i : Nat} {f : Field} (h : fldD fs i = some f) : fs[i]? = some f := by
  unfold fldD at h
  simpa [Array.getElem?_toList] using h

theorem yl_fieldAddr {t : TypeId} {x : Operand} {f : Nat} (ho : o.op = .fieldAddr t x f) (he : Evs P β tr ev [x]) (h : opK P tr o = some (.pure v)) : Yl P β ev o v := by
  intro w
  simp only [opK, ho] at h
  split at h
  · rename_i i off fs hx hu
    split at h
    · rename_i fd hf
      split at h
      · rename_i n hn
        simp only [fNat_eq, Option.some.injEq, K.pure.injEq] at h
        subst h
        have hr := he x (by simp) _ hx
        cases hv : ev x <;> rw [hv] at hr <;> cases hr
        rename_i y hy
        refine ⟨_, .ptr hy, exec_v (by first | (simp only [execOp, ho]; done) | (simp only [execOp, ho]; rfl)) ?_⟩
        simp only [Instr.fieldAt, Sem.run_bind, run_ud hu, Result.andThen_ok, fldD_get hf, hv, sureAddr_run, fieldPlace_run hn]
        change Result.ok _ w = Result.ok _ w
        congr 4
        change y.d + off + fd.offset = y.d + (off + fd.offset)
        omega
      · cases h
    · cases h
  · cases h

theorem yl_nilCheck {x : Operand} (ho : o.op = .nilCheck x) (he : Evs P β tr ev [x]) (h : opK P tr o = some (.pure v)) : Yl P β ev o v := by
  intro w
  simp only [opK, ho] at h
  split at h
  all_goals first
    | (cases h; done)
    | (rename_i hx
       simp only [Option.some.injEq, K.pure.injEq] at h
       subst h
       have hr := he x (by simp) _ hx
       refine ⟨ev x, hr, ?_⟩
       cases hv : ev x <;> rw [hv] at hr <;> cases hr <;> simp [execOp, ho, hv])

theorem asIntOf_int (k : IntKind) (n : Int) : (asIntOf (.int k n)).run P w = .ok (k, n) w := rfl

theorem yl_indexAddr {t : TypeId} {x ix : Operand} (ho : o.op = .indexAddr t x ix) (he : Evs P β tr ev [x, ix]) (h : opK P tr o = some (.pure v)) : Yl P β ev o v := by
  intro w
  simp only [opK, ho] at h
  split at h
  · rename_i b k n hx hi
    have hri := he ix (by simp) _ hi
    cases hvi : ev ix <;> rw [hvi] at hri <;> cases hri
    have hrx := he x (by simp) _ hx
    split at h
    · rename_i len elem i off hu
      split at h
      · rename_i sz hlt hsz
        simp only [fNat_eq, Option.some.injEq, K.pure.injEq] at h
        subst h
        cases hvx : ev x <;> rw [hvx] at hrx <;> cases hrx
        rename_i y hy
        refine ⟨_, .ptr hy, exec_v (by first | (simp only [execOp, ho]; done) | (simp only [execOp, ho]; rfl)) ?_⟩
        have hlt : n < len := Nat.le_of_ble_eq_true hlt
        simp only [hvx, hvi, Instr.indexAt, Sem.run_bind, asIntOf_int, run_ud hu, Result.andThen_ok, sureAddr_run, Sem.run_pure]
        rw [if_pos ⟨by simp, by simpa using hlt⟩]
        simp only [Sem.run_bind, run_sz hsz, Result.andThen_ok, add_eq, Sem.run_pure]
        congr 4
        change y.d + off + n * sz = y.d + (off + n * sz)
        omega
      · cases h
    · rename_i elem i off len cap hu
      split at h
      · rename_i sz hlt hsz
        simp only [fNat_eq, Option.some.injEq, K.pure.injEq] at h
        subst h
        have hlt : n < len := Nat.le_of_ble_eq_true hlt
        have key : ∀ (y : BI) (c : Nat), β i = some y → ev x = .slice (some ⟨y.b, y.d + off, none⟩) len c → ∃ v', VRel β (.pointer (some ⟨i, Nat.add off (Nat.mul n sz), none⟩)) v' ∧ (execOp ev o).run P w = .ok (.value v') w := by
          intro y c hy hvx
          refine ⟨_, .ptr hy, exec_v (by first | (simp only [execOp, ho]; done) | (simp only [execOp, ho]; rfl)) ?_⟩
          simp only [hvx, hvi, Instr.indexAt, Sem.run_bind, asIntOf_int, run_ud hu, Result.andThen_ok, Sem.run_pure]
          rw [if_pos ⟨by simp, by simpa using hlt⟩]
          simp only [Sem.run_bind, run_sz hsz, Result.andThen_ok, add_eq, Sem.run_pure]
          congr 4
          change y.d + off + n * sz = y.d + (off + n * sz)
          omega
        rcases hrx.slice_inv with ⟨y, hy, _, hvx⟩ | ⟨y, c', _, hy, _, _, _, hvx⟩ | ⟨_, h0, _⟩
        · exact key y _ hy hvx
        · exact key y _ hy hvx
        · omega
      · cases h
    · cases h
  · cases h

theorem yl_index {t : TypeId} {x ix : Operand} (ho : o.op = .index t x ix) (he : Evs P β tr ev [x, ix]) (h : opK P tr o = some (.pure v)) : Yl P β ev o v := by
  intro w
  simp only [opK, ho] at h
  split at h
  · rename_i b k n hx hi
    have hri := he ix (by simp) _ hi
    cases hvi : ev ix <;> rw [hvi] at hri <;> cases hri
    have hrx := he x (by simp) _ hx
    split at h
    · rename_i len elem cs hu
      split at h
      · rename_i sz d hlt hsz hd
        have hlt : n < len := Nat.le_of_ble_eq_true hlt
        cases hvx : ev x <;> rw [hvx] at hrx <;> cases hrx
        rename_i cs' hs hcs
        split at h
        · rename_i ha
          simp only [Option.some.injEq, K.pure.injEq] at h
          subst h
          have hl := LR.slc (⟨hs, hcs⟩ : LR β cs cs') (n * sz) sz
          refine ⟨.agg ⟨slc cs' (n * sz) sz⟩, .agg hl.1 hl.2, exec_v (by first | (simp only [execOp, ho]; done) | (simp only [execOp, ho]; rfl)) ?_⟩
          simp only [hvx, hvi, Instr.index, Sem.run_bind, asIntOf_int, run_ud hu, Result.andThen_ok]
          rw [if_pos ⟨by simp, by simpa using hlt⟩]
          simp only [Sem.run_bind, run_sz hsz, Result.andThen_ok, run_part_agg hd ha hsz]
          simp
        · rename_i ha
          obtain ⟨v', hv', hr⟩ := LR.getElem (⟨hs, hcs⟩ : LR β cs cs') (kV_pure h)
          refine ⟨v', hr, exec_v (by first | (simp only [execOp, ho]; done) | (simp only [execOp, ho]; rfl)) ?_⟩
          simp only [hvx, hvi, Instr.index, Sem.run_bind, asIntOf_int, run_ud hu, Result.andThen_ok]
          rw [if_pos ⟨by simp, by simpa using hlt⟩]
          have hv'' : cs'[n * sz]? = some v' := hv'
          simp [run_sz hsz, run_part_one hd ha _ _ hv'']
      · cases h
    · rename_i s hu
      cases hvx : ev x <;> rw [hvx] at hrx <;> cases hrx
      split at h
      · rename_i c hc
        rw [vInt_eq] at h
        have := kV_pure h
        cases this
        refine ⟨.int .u8 c.toNat, .int _ _, exec_v (by first | (simp only [execOp, ho]; done) | (simp only [execOp, ho]; rfl)) ?_⟩
        have hc' : s[n]? = some c := by
          rw [Array.getElem?_toList] at hc
          have hlt : n < s.data.size := by
            rcases Nat.lt_or_ge n s.data.size with h | h
            · exact h
            · rw [Array.getElem?_eq_none h] at hc; cases hc
          rw [Array.getElem?_eq_getElem hlt] at hc
          have hlt' : n < s.size := hlt
          rw [getElem?_pos s n hlt']
          exact hc
        simp [hvx, hvi, Instr.index, asIntOf_int, run_ud hu, hc']
      · cases h
    · cases h
  · cases h

theorem yl_field {t : TypeId} {x : Operand} {f : Nat} (ho : o.op = .field t x f) (he : Evs P β tr ev [x]) (h : opK P tr o = some (.pure v)) : Yl P β ev o v := by
  intro w
  simp only [opK, ho] at h
  split at h
  · rename_i cs fs hx hu
    have hrx := he x (by simp) _ hx
    cases hvx : ev x <;> rw [hvx] at hrx <;> cases hrx
    rename_i cs' hs hcs
    split at h
    · rename_i fd hf
      split at h
      · rename_i d sz hd hsz
        split at h
        · rename_i ha
          simp only [Option.some.injEq, K.pure.injEq] at h
          subst h
          have hl := LR.slc (⟨hs, hcs⟩ : LR β cs cs') fd.offset sz
          refine ⟨.agg ⟨slc cs' fd.offset sz⟩, .agg hl.1 hl.2, exec_v (by first | (simp only [execOp, ho]; done) | (simp only [execOp, ho]; rfl)) ?_⟩
          simp [hvx, Instr.field, run_ud hu, fldD_get hf, asAgg, run_part_agg hd ha hsz]
        · rename_i ha
          obtain ⟨v', hv', hr⟩ := LR.getElem (⟨hs, hcs⟩ : LR β cs cs') (kV_pure h)
          refine ⟨v', hr, exec_v (by first | (simp only [execOp, ho]; done) | (simp only [execOp, ho]; rfl)) ?_⟩
          simp [hvx, Instr.field, run_ud hu, fldD_get hf, asAgg, run_part_one hd ha _ _ hv']
      · cases h
    · cases h
  · cases h

theorem yl_extract {x : Operand} {i : Nat} (ho : o.op = .extract x i) (he : Evs P β tr ev [x]) (h : opK P tr o = some (.pure v)) : Yl P β ev o v := by
  intro w
  simp only [opK, ho] at h
  split at h
  · rename_i cs hx
    have hrx := he x (by simp) _ hx
    cases hvx : ev x <;> rw [hvx] at hrx <;> cases hrx
    rename_i cs' hs hcs
    obtain ⟨v', hv', hr⟩ := LR.getElem (⟨hs, hcs⟩ : LR β cs cs') (kV_pure h)
    refine ⟨v', hr, exec_v (by first | (simp only [execOp, ho]; done) | (simp only [execOp, ho]; rfl)) ?_⟩
    simp [hvx, Instr.extract, hv']
  · cases h

theorem mapM_places (l : List Field) (hl : ∀ f ∈ l, (∃ n, sizeD P f.type = some n)) :
    ∃ ps : Array (Nat × Nat), (l.toArray.mapM fun f => (do pure (f.offset, ← sizeOf f.type) : Sem (Nat × Nat))).run P w = .ok ps w ∧
      ∀ (i : Nat) (f : Field) (n : Nat), l[i]? = some f → sizeD P f.type = some n → ps[i]? = some (f.offset, n) := by
  rw [Array.mapM_eq_mapM_toList]
  simp only
  suffices ∃ ps : List (Nat × Nat), (l.mapM fun f => (do pure (f.offset, ← sizeOf f.type) : Sem (Nat × Nat))).run P w = .ok ps w ∧
      ∀ (i : Nat) (f : Field) (n : Nat), l[i]? = some f → sizeD P f.type = some n → ps[i]? = some (f.offset, n) by
    obtain ⟨ps, h1, h2⟩ := this
    exact ⟨ps.toArray, by simp only [Sem.run_map, h1, Result.andThen_ok], fun i f n a b => by simpa using h2 i f n a b⟩
  induction l with
  | nil => exact ⟨[], rfl, fun i f n h => by simp at h⟩
  | cons f l ih =>
    obtain ⟨n, hn⟩ := hl f (.head _)
    obtain ⟨ps, h1, h2⟩ := ih fun g hg => hl g (.tail _ hg)
    refine ⟨(f.offset, n) :: ps, by simp only [List.mapM_cons, Sem.run_bind, run_sz hn, h1, Result.andThen_ok, Sem.run_pure], fun i g m a b => ?_⟩
    cases i with
    | zero => simp at a; subst a; rw [hn] at b; cases b; rfl
    | succ i => simpa using h2 i g m (by simpa using a) b

theorem szsOk_all {fs : List Field} (h : szsOk P fs = true) : ∀ f ∈ fs, ∃ n, sizeD P f.type = some n := by
  induction fs with
  | nil => intro f hf; cases hf
  | cons g fs ih =>
    simp only [szsOk] at h
    split at h
    · rename_i n hn
      intro f hf
      cases hf with
      | head => exact ⟨n, hn⟩
      | tail _ hf => exact ih h f hf
    · cases h

theorem yl_build {t : TypeId} {parts : Array (Nat × Operand)} (ho : o.op = .build t parts) (he : Evs P β tr ev (parts.toList.map (·.2))) (h : opK P tr o = some (.pure v)) : Yl P β ev o v := by
  intro w
  simp only [opK, ho] at h
  split at h
  · rename_i z ps hz hps
    have hpr := partsD_rel he hps
    have hzz := (scalar_refl z (zeroD_scalar hz) : VRel β z z).cells
    have hmap : (parts.map fun (i, x) => (i, ev x)).toList = parts.toList.map fun (i, x) => (i, ev x) := by simp
    split at h
    · rename_i fs hu
      split at h
      · rename_i cs hall hf
        simp only [Option.some.injEq, K.pure.injEq] at h
        subst h
        obtain ⟨pl, hpl, hget⟩ := mapM_places (w := w) fs.toList (szsOk_all hall)
        obtain ⟨r', hr', hlr⟩ := fill_rel (place' := fun i => pl[i]?) (c' := z.cells) (fun i p hp => by
          split at hp
          · rename_i f hf
            split at hp
            · rename_i sz hsz; cases hp; exact hget i f sz hf hsz
            · cases hp
          · cases hp) hpr hzz hf
        refine ⟨.agg ⟨r'.toList⟩, .agg hlr.1 hlr.2, exec_v (by first | (simp only [execOp, ho]; done) | (simp only [execOp, ho]; rfl)) ?_⟩
        have e1 : (fs.mapM fun f => (do pure (f.offset, ← sizeOf f.type) : Sem (Nat × Nat))).run P w = .ok pl w := by simpa using hpl
        simp only [Instr.build, Sem.run_bind, run_zero hz, run_ud hu, Result.andThen_ok, e1, hmap, hr', Sem.run_pure]
      · cases h
    · rename_i len elem hu
      split at h
      · rename_i sz hsz
        split at h
        · rename_i cs hf
          simp only [Option.some.injEq, K.pure.injEq] at h
          subst h
          obtain ⟨r', hr', hlr⟩ := fill_rel (place' := fun i => some (i * sz, sz)) (c' := z.cells) (fun i p hp => hp) hpr hzz hf
          refine ⟨.agg ⟨r'.toList⟩, .agg hlr.1 hlr.2, exec_v (by first | (simp only [execOp, ho]; done) | (simp only [execOp, ho]; rfl)) ?_⟩
          simp only [Instr.build, Sem.run_bind, run_zero hz, run_ud hu, Result.andThen_ok, run_sz hsz, hmap, hr', Sem.run_pure]
        · cases h
      · cases h
    · cases h
  · cases h

theorem yl_makeInterface {t : TypeId} {x : Operand} (ho : o.op = .makeInterface t x) (he : Evs P β tr ev [x]) (h : opK P tr o = some (.pure v)) : Yl P β ev o v := by
  intro w
  simp only [opK, ho] at h
  split at h
  · cases h
  · rename_i u d hno hx hd
    simp only [Option.some.injEq, K.pure.injEq] at h
    subst h
    refine ⟨_, .iface (he x (by simp) u hx), exec_v (by first | (simp only [execOp, ho]; done) | (simp only [execOp, ho]; rfl)) ?_⟩
    simp only [Instr.makeInterface, Sem.run_bind, run_ud hd, Result.andThen_ok]
    cases d <;> first | rfl | (exact (hno _ rfl).elim)
  · cases h

theorem yl_makeFunc {fn : Fn} {a b : Array Operand} (ho : o.op = .makeFunc fn a b) (he : Evs P β tr ev (a.toList ++ b.toList)) (h : opK P tr o = some (.pure v)) : Yl P β ev o v := by
  intro w
  simp only [opK, ho] at h
  split at h
  · rename_i f as bs ha hb
    simp only [Option.some.injEq, K.pure.injEq] at h
    subst h
    have h1 := evalL_rel (fun x hx => he x (List.mem_append_left _ hx)) ha
    have h2 := evalL_rel (fun x hx => he x (List.mem_append_right _ hx)) hb
    refine ⟨_, .func h1.1 h2.1 h1.2 h2.2, exec_v (by first | (simp only [execOp, ho]; done) | (simp only [execOp, ho]; rfl)) ?_⟩
    simp only [Instr.makeFunc, Sem.run_pure]
    congr 2 <;> (apply Array.ext'; simp)
  · cases h

theorem scalar_pair (z : Value) (b : Bool) (h : scalar z = true) : scalar (.tuple #[z, .bool b]) = true := by
  simp [scalar, scalars, h]

theorem tuple2_rel {a a' : Value} (h : VRel β a a') (b : Bool) : VRel β (.tuple #[a, .bool b]) (.tuple #[a', .bool b]) := by
  have hl : LR β [a, .bool b] [a', .bool b] := .cons h (.cons (.bool b) .nil)
  exact .tuple hl.1 hl.2

theorem okV_rel {a a' : Value} (h : VRel β a a') (ok b : Bool) : VRel β (okV ok a b) (if ok then .tuple #[a', .bool b] else a') := by
  cases ok
  · exact h
  · exact tuple2_rel h b

theorem yl_typeAssert {x : Operand} {s t : TypeId} {ok : Bool} (ho : o.op = .typeAssert x s t ok) (he : Evs P β tr ev [x]) (h : opK P tr o = some (.pure v)) : Yl P β ev o v := by
  intro w
  simp only [opK, ho] at h
  split at h
  · cases h
  · rename_i u v0 d hno hx hd
    obtain ⟨u', hv, hr⟩ := (he x (by simp) _ hx).iface_inv
    have hni : ∀ ms, d ≠ .interface ms := fun ms hh => hno ms hh
    split at h
    · rename_i hut
      have hut := Nat.eq_of_beq_eq_true hut
      simp only [Option.some.injEq, K.pure.injEq] at h
      subst h
      refine ⟨_, okV_rel hr ok true, exec_v (by first | (simp only [execOp, ho]; done) | (simp only [execOp, ho]; rfl)) ?_⟩
      simp only [hv, Instr.typeAssert, Sem.run_bind, run_ud hd, Result.andThen_ok]
      cases d <;> first | (exact absurd rfl (hni _)) | (simp [hut]; done) | (rw [if_pos hut]; cases ok <;> rfl)
    · rename_i hut
      have hut : ¬ u = t := by intro h; subst h; simp at hut
      split at h
      · rename_i z hz
        simp only [Option.some.injEq, K.pure.injEq] at h
        subst h
        refine ⟨_, tuple2_rel (scalar_refl z (zeroD_scalar hz)) false, exec_v (by first | (simp only [execOp, ho]; done) | (simp only [execOp, ho]; rfl)) ?_⟩
        simp only [hv, Instr.typeAssert, Sem.run_bind, run_ud hd, Result.andThen_ok]
        cases d <;> first | (exact absurd rfl (hni _)) | (simp [hut, run_zero hz]; done)
      · cases h
  · rename_i d hno hx hd
    have hni : ∀ ms, d ≠ .interface ms := fun ms hh => hno ms hh
    have hv : ev x = .nilIface := by
      have := he x (by simp) _ hx
      cases hv : ev x <;> rw [hv] at this <;> cases this
    split at h
    · rename_i z hz
      simp only [Option.some.injEq, K.pure.injEq] at h
      subst h
      refine ⟨_, tuple2_rel (scalar_refl z (zeroD_scalar hz)) false, exec_v (by first | (simp only [execOp, ho]; done) | (simp only [execOp, ho]; rfl)) ?_⟩
      simp only [hv, Instr.typeAssert, Sem.run_bind, run_ud hd, Result.andThen_ok]
      cases d <;> first | (exact absurd rfl (hni _)) | (simp [run_zero hz]; done)
    · cases h
  · cases h

end
end Go.Dv
end
section
/- Conversions, slices of slices, built-in functions that touch no memory. -/
namespace Go.Dv
section
variable {P : Program} {β : Bm} {w : World} {tr : Tr} {ev : Operand → Value} {o : Oper} {v : Value}

theorem yl_convert {a b : TypeId} {x : Operand} (ho : o.op = .convert a b x) (he : Evs P β tr ev [x]) (h : opK P tr o = some (.pure v)) : Yl P β ev o v := by
  intro w
  simp only [opK, ho] at h
  have scal : ∀ {u : Value}, evalO P tr x = some u → scalar u = true → vForce (pureRun P (convert a b u)) = some v → ∃ v', VRel β v v' ∧ (execOp ev o).run P w = .ok (.value v') w := by
    intro u hu hs hp
    obtain ⟨h1, h2⟩ := vForce_some hp
    have hx := (he x (by simp) u hu).scalar_eq hs
    refine ⟨v, scalar_refl v h2, exec_v (by first | (simp only [execOp, ho]; done) | (simp only [execOp, ho]; rfl)) ?_⟩
    rw [hx]; exact pureRun_run h1 w
  split at h
  · rename_i k n hx
    split at h
    · rename_i d k' hd hk
      rw [vInt_eq] at h
      have := kV_pure h
      cases this
      refine ⟨_, .int _ _, exec_v (by first | (simp only [execOp, ho]; done) | (simp only [execOp, ho]; rfl)) ?_⟩
      rw [(he x (by simp) _ hx).int_inv]
      simp only [convert, Sem.run_bind, run_ud hd, run_ud hk, Result.andThen_ok]
      rfl
    · exact scal hx rfl (kV_pure h)
  · rename_i base len cap hx
    split at h
    · rename_i e he' hs
      split at h
      · rename_i hu8
        split at h
        · simp only [Option.some.injEq, K.pure.injEq] at h
          subst h
          have hv : ev x = .slice none len cap := (he x (by simp) _ hx).scalar_eq rfl
          refine ⟨_, .string _, exec_v (by first | (simp only [execOp, ho]; done) | (simp only [execOp, ho]; rfl)) ?_⟩
          simp [hv, convert, run_ud he', run_ud hs, run_ud hu8, Conv.bytesToString]
        · simp at h
        · cases h
      · cases h
    · cases h
  · rename_i s hx
    split at h
    · rename_i ha hb
      simp only [Option.some.injEq, K.pure.injEq] at h
      subst h
      refine ⟨_, .string _, exec_v (by first | (simp only [execOp, ho]; done) | (simp only [execOp, ho]; rfl)) ?_⟩
      rw [(he x (by simp) _ hx).string_inv]
      simp [convert, run_ud ha, run_ud hb]
    · split at h <;> simp at h
    · cases h
  · rename_i u _ _ _ hx
    split at h
    · rename_i hs
      exact scal hx hs (kV_pure h)
    · cases h
  · cases h

theorem optO_rel {x : Option Operand} {u : Option Value} (he : Evs P β tr ev x.toList) (h : optO P tr x = some u) :
    (∀ a, u = some a → ∃ a', x.map ev = some a' ∧ VRel β a a') ∧ (u = none → x = none) := by
  cases x with
  | none => simp only [optO, Option.some.injEq] at h; subst h; exact ⟨fun a h => (by cases h), fun _ => rfl⟩
  | some x =>
    simp only [optO] at h
    split at h
    · cases h
    · rename_i a ha
      cases h
      exact ⟨fun b hb => by cases hb; exact ⟨ev x, rfl, he x (by simp) a ha⟩, fun h => by cases h⟩

theorem boundD_run {a a' : Value} {y n : Nat} {code : BoundsCode} (hr : VRel β a a') (h : boundD a y = some n) : n ≤ y ∧ ∀ y', n ≤ y' → (Instr.sliceBound a' y' code).run P w = .ok n w := by
  unfold boundD at h
  split at h
  · rename_i k m
    split at h
    · rename_i hb
      cases h
      have hb := Nat.le_of_ble_eq_true hb
      refine ⟨hb, fun y' hy => ?_⟩
      rw [hr.int_inv]
      simp only [Instr.sliceBound, Sem.run_bind, asIntOf_int, Result.andThen_ok]
      rw [if_pos ⟨by simp, by simpa using hy⟩]
      simp
    · cases h
  · cases h

/- the bounds of a slice expression; the model's own 'lim' and 'cap' may be greater than ours where there is no third index -/
theorem boundsD_run {isS : Bool} {len lim cap cap' l h m : Nat} {lo hi mx : Option Value} {lo' hi' mx' : Option Value}
    (hlo : (∀ a, lo = some a → ∃ a', lo' = some a' ∧ VRel β a a') ∧ (lo = none → lo' = none))
    (hhi : (∀ a, hi = some a → ∃ a', hi' = some a' ∧ VRel β a a') ∧ (hi = none → hi' = none))
    (hmx : (∀ a, mx = some a → ∃ a', mx' = some a' ∧ VRel β a a') ∧ (mx = none → mx' = none))
    (hl : lim ≤ cap') (hb : boundsD len lim cap lo hi mx = some (l, h, m)) :
    l ≤ h ∧ (h ≤ lim ∨ h = len) ∧ (mx ≠ none → h ≤ m ∧ m ≤ lim) ∧ (mx = none → m = cap) ∧
      (Instr.sliceBounds isS len cap' lo' hi' mx').run P w = .ok (l, h, if mx.isSome then m else cap') w := by
  unfold boundsD at hb
  split at hb
  · cases hb
  · rename_i m0 hm0
    split at hb
    · cases hb
    · rename_i h0 hh0
      split at hb
      · cases hb
      · rename_i l0 hl0
        simp only [fNat_eq, Option.some.injEq, Prod.mk.injEq] at hb
        obtain ⟨rfl, rfl, rfl⟩ := hb
        cases mx with
        | some a =>
          obtain ⟨a', rfl, hra⟩ := hmx.1 a rfl
          simp only at hm0 hh0
          obtain ⟨q1, r1⟩ := boundD_run (P := P) (w := w) (code := if isS then .slice3Acap else .slice3Alen) hra hm0
          cases hi with
          | none => simp at hh0
          | some b =>
            obtain ⟨b', rfl, hrb⟩ := hhi.1 b rfl
            simp only at hh0
            obtain ⟨q2, r2⟩ := boundD_run (P := P) (w := w) (code := .slice3B) hrb hh0
            cases lo with
            | none =>
              rw [hlo.2 rfl]
              simp only [Option.some.injEq] at hl0
              subst hl0
              refine ⟨Nat.zero_le _, .inl (Nat.le_trans q2 q1), fun _ => ⟨q2, q1⟩, fun h => (by cases h), ?_⟩
              simp [Instr.sliceBounds, r1 cap' (Nat.le_trans q1 hl), r2 m0 q2]
            | some c =>
              obtain ⟨c', rfl, hrc⟩ := hlo.1 c rfl
              simp only at hl0
              obtain ⟨q3, r3⟩ := boundD_run (P := P) (w := w) (code := .slice3C) hrc hl0
              refine ⟨q3, .inl (Nat.le_trans q2 q1), fun _ => ⟨q2, q1⟩, fun h => (by cases h), ?_⟩
              simp [Instr.sliceBounds, r1 cap' (Nat.le_trans q1 hl), r2 m0 q2, r3 h0 q3]
        | none =>
          rw [hmx.2 rfl]
          simp only [Option.some.injEq] at hm0
          subst hm0
          cases hi with
          | none =>
            rw [hhi.2 rfl]
            simp only [Option.some.injEq] at hh0
            subst hh0
            cases lo with
            | none =>
              rw [hlo.2 rfl]
              simp only [Option.some.injEq] at hl0
              subst hl0
              exact ⟨Nat.zero_le _, .inr rfl, fun h => absurd rfl h, fun _ => rfl, by simp [Instr.sliceBounds]⟩
            | some c =>
              obtain ⟨c', rfl, hrc⟩ := hlo.1 c rfl
              simp only at hl0
              obtain ⟨q3, r3⟩ := boundD_run (P := P) (w := w) (code := .sliceB) hrc hl0
              exact ⟨q3, .inr rfl, fun h => absurd rfl h, fun _ => rfl, by simp [Instr.sliceBounds, r3 _ q3]⟩
          | some b =>
            obtain ⟨b', rfl, hrb⟩ := hhi.1 b rfl
            simp only at hh0
            obtain ⟨q2, r2⟩ := boundD_run (P := P) (w := w) (code := if isS then .sliceAcap else .sliceAlen) hrb hh0
            cases lo with
            | none =>
              rw [hlo.2 rfl]
              simp only [Option.some.injEq] at hl0
              subst hl0
              exact ⟨Nat.zero_le _, .inl q2, fun h => absurd rfl h, fun _ => rfl, by simp [Instr.sliceBounds, r2 cap' (Nat.le_trans q2 hl)]⟩
            | some c =>
              obtain ⟨c', rfl, hrc⟩ := hlo.1 c rfl
              simp only at hl0
              obtain ⟨q3, r3⟩ := boundD_run (P := P) (w := w) (code := .sliceB) hrc hl0
              exact ⟨q3, .inl q2, fun h => absurd rfl h, fun _ => rfl, by simp [Instr.sliceBounds, r2 cap' (Nat.le_trans q2 hl), r3 _ q3]⟩

theorem string_slc (b : ByteArray) (l h : Nat) : b.extract l h = ⟨⟨slc b.data.toList l (Nat.sub h l)⟩⟩ := by
  apply ByteArray.ext
  apply Array.ext'
  simp only [ByteArray.data_extract, Array.toList_extract, slc, List.extract]
  rfl

theorem exec_slice {t : TypeId} {x : Operand} {lo hi mx : Option Operand} (ho : o.op = .slice t x lo hi mx) :
    execOp ev o = (do pure (.value (← Instr.sliceAt t (ev x) (lo.map ev) (hi.map ev) (mx.map ev)))) := by
  simp only [execOp, ho]

theorem yl_slice {t : TypeId} {x : Operand} {lo hi mx : Option Operand} (ho : o.op = .slice t x lo hi mx)
    (he : Evs P β tr ev ([x] ++ lo.toList ++ hi.toList ++ mx.toList)) (h : opK P tr o = some (.pure v)) : Yl P β ev o v := by
  intro w
  simp only [opK, ho] at h
  split at h
  case h_2 => cases h
  rename_i u lv hv mv hx hlo hhi hmx
  have rx := he x (by simp) u hx
  have rlo := optO_rel (fun y hy => he y (by simp at hy ⊢; simp [hy])) hlo
  have rhi := optO_rel (fun y hy => he y (by simp at hy ⊢; simp [hy])) hhi
  have rmx := optO_rel (fun y hy => he y (by simp at hy ⊢; simp [hy])) hmx
  have rlo' : (∀ a, lv = some a → ∃ a', lo.map ev = some a' ∧ VRel β a a') ∧ (lv = none → lo.map ev = none) := ⟨rlo.1, fun h => by rw [rlo.2 h]; rfl⟩
  have rhi' : (∀ a, hv = some a → ∃ a', hi.map ev = some a' ∧ VRel β a a') ∧ (hv = none → hi.map ev = none) := ⟨rhi.1, fun h => by rw [rhi.2 h]; rfl⟩
  have rmx' : (∀ a, mv = some a → ∃ a', mx.map ev = some a' ∧ VRel β a a') ∧ (mv = none → mx.map ev = none) := ⟨rmx.1, fun h => by rw [rmx.2 h]; rfl⟩
  split at h
  · rename_i b hu
    split at h
    · split at h
      · rename_i l hh m hb
        simp only [Option.some.injEq, K.pure.injEq] at h
        subst h
        obtain ⟨q1, q2, q3, q4, q5⟩ := boundsD_run (P := P) (w := w) (isS := false) (cap' := b.size) rlo' rhi' ⟨fun a h => (by cases h), fun _ => rfl⟩ (Nat.le_refl _) hb
        have hm : mx.map ev = none := rmx'.2 rfl
        refine ⟨_, .string _, exec_v (exec_slice ho) ?_⟩
        simp only [rx.string_inv, hm, Instr.sliceAt, Sem.run_bind, run_ud hu, Result.andThen_ok, Instr.slice]
        simp [q5, string_slc]
      · cases h
    · cases h
  · rename_i elem a len cap hu
    split at h
    · cases h
    rename_i sz hsz
    have run : ∀ (a' : Option Addr) (c' l hh m : Nat), ev x = .slice a' len c' → (Instr.sliceBounds true len c' (lo.map ev) (hi.map ev) (mx.map ev)).run P w = .ok (l, hh, m) w →
        (execOp ev o).run P w = .ok (.value (.slice (if m = l then a' else a'.map (·.add (l * sz))) (hh - l) (m - l))) w := by
      intro a' c' l hh m h1 h2
      refine exec_v (exec_slice ho) ?_
      simp only [h1, Instr.sliceAt, Sem.run_bind, run_ud hu, Result.andThen_ok, Instr.slice, h2, run_sz hsz, Sem.run_pure]
    split at h
    · rename_i hcap
      have hcap := Nat.le_of_ble_eq_true hcap
      split at h
      · rename_i i off hcs
        have hcs : cap = big + sz := Nat.eq_of_beq_eq_true hcs
        subst hcs
        split at h
        · rename_i mval
          split at h
          · rename_i l hh m hb
            split at h
            · cases h
            · rename_i hbig
              have hbig : m - l < big := by
                rcases Nat.lt_or_ge (m - l) big with h | h
                · exact h
                · have := Nat.ble_eq_true_of_le h
                  change Nat.ble big (m - l) = false at hbig
                  rw [this] at hbig; cases hbig
              simp only [fNat_eq, Option.some.injEq, K.pure.injEq] at h
              subst h
              rcases rx.slice_inv with ⟨y, hy, hc, hvx⟩ | ⟨y, c', sz', hy, hc, hlc, hn, hvx⟩ | ⟨a', h0, hc, hvx⟩
              · omega
              · have : sz' = sz := by omega
                subst this
                obtain ⟨q1, q2, q3, q4, q5⟩ := boundsD_run (P := P) (w := w) (isS := true) (cap' := c') rlo' rhi' rmx' hlc hb
                have q3 := q3 (by simp)
                simp only [Option.isSome_some, if_true] at q5
                refine ⟨_, ?_, run _ _ _ _ _ hvx q5⟩
                by_cases hml : m = l
                · subst hml
                  simp only [Nat.beq_refl, if_true]
                  exact .slice hy hbig
                · rw [if_neg hml]
                  have : Nat.beq m l = false := by
                    cases hbq : Nat.beq m l with
                    | false => rfl
                    | true => exact absurd (Nat.eq_of_beq_eq_true hbq) hml
                  rw [this]
                  simp only [Option.map_some, add_eq]
                  rw [show y.d + off + l * sz' = y.d + (off + l * sz') by omega]
                  exact .slice hy hbig
              · subst h0
                obtain ⟨q1, q2, q3, q4, q5⟩ := boundsD_run (P := P) (w := w) (isS := true) (cap' := 0) rlo' rhi' rmx' (Nat.le_refl _) hb
                have q3 := q3 (by simp)
                simp only [Option.isSome_some, if_true] at q5
                refine ⟨_, ?_, run _ _ _ _ _ hvx q5⟩
                obtain rfl : m = 0 := by omega
                obtain rfl : hh = 0 := by omega
                obtain rfl : l = 0 := by omega
                exact .sliceE a' (.inl rfl)
          · cases h
        · split at h
          · rename_i l hh m hb
            simp only [fNat_eq, Option.some.injEq, K.pure.injEq] at h
            subst h
            rcases rx.slice_inv with ⟨y, hy, hc, hvx⟩ | ⟨y, c', sz', hy, hc, hlc, hn, hvx⟩ | ⟨a', h0, hc, hvx⟩
            · omega
            · have : sz' = sz := by omega
              subst this
              obtain ⟨q1, q2, q3, q4, q5⟩ := boundsD_run (P := P) (w := w) (isS := true) (cap' := c') rlo' rhi' rmx' hlc hb
              simp only [Option.isSome_none, Bool.false_eq_true, if_false] at q5
              refine ⟨_, ?_, run _ _ _ _ _ hvx q5⟩
              have hhl : hh ≤ len := by rcases q2 with h | h <;> omega
              by_cases hml : c' = l
              · rw [if_pos hml]
                have e1 : Nat.sub hh l = 0 := by change hh - l = 0; omega
                have e2 : hh - l = 0 := by omega
                have e3 : c' - l = 0 := by omega
                rw [e1, e2, e3]
                exact .sliceE _ (.inr (by omega))
              · rw [if_neg hml]
                simp only [Option.map_some, add_eq]
                rw [show y.d + off + l * sz' = y.d + (off + l * sz') by omega]
                refine .sliceU hy (by change hh - l ≤ c' - l; omega) ?_
                have : l * sz' + (c' - l) * sz' = c' * sz' := by rw [← Nat.add_mul]; congr 1; omega
                change y.d + (off + l * sz') + (c' - l) * sz' ≤ y.n
                omega
            · subst h0
              obtain ⟨q1, q2, q3, q4, q5⟩ := boundsD_run (P := P) (w := w) (isS := true) (cap' := 0) rlo' rhi' rmx' (Nat.le_refl _) hb
              simp only [Option.isSome_none, Bool.false_eq_true, if_false] at q5
              refine ⟨_, ?_, run _ _ _ _ _ hvx q5⟩
              obtain rfl : hh = 0 := by rcases q2 with h | h <;> omega
              obtain rfl : l = 0 := by omega
              exact .sliceE a' (.inr (by omega))
          · cases h
      · cases h
    · rename_i hcap
      have hcap : cap < big := by
        rcases Nat.lt_or_ge cap big with h | h
        · exact h
        · rw [Nat.ble_eq_true_of_le h] at hcap; cases hcap
      split at h
      · rename_i l hh m hb
        have fin : ∀ a', ev x = .slice a' len cap → (execOp ev o).run P w = .ok (.value (.slice (if m = l then a' else a'.map (·.add (l * sz))) (hh - l) (m - l))) w ∧ m ≤ cap ∧ l ≤ hh ∧ (hh ≤ cap ∨ hh = len) := by
          intro a' hvx
          obtain ⟨q1, q2, q3, q4, q5⟩ := boundsD_run (P := P) (w := w) (isS := true) (cap' := cap) rlo' rhi' rmx' (Nat.le_refl _) hb
          cases mv with
          | none =>
            simp only [Option.isSome_none, Bool.false_eq_true, if_false] at q5
            have := q4 rfl
            subst this
            exact ⟨run _ _ _ _ _ hvx q5, Nat.le_refl _, q1, q2⟩
          | some b =>
            simp only [Option.isSome_some, if_true] at q5
            exact ⟨run _ _ _ _ _ hvx q5, (q3 (by simp)).2, q1, q2⟩
        split at h
        · simp only [Option.some.injEq, K.pure.injEq] at h
          subst h
          have hvx : ev x = .slice none len cap := rx.scalar_eq rfl
          obtain ⟨r1, _⟩ := fin _ hvx
          refine ⟨_, ?_, r1⟩
          simp only [Option.map_none, ite_self]
          exact .slice0 _ _
        · rename_i i off
          simp only [fNat_eq, Option.some.injEq, K.pure.injEq] at h
          subst h
          rcases rx.slice_inv with ⟨y, hy, hc, hvx⟩ | ⟨y, c', sz', hy, hc, hlc, hn, hvx⟩ | ⟨a', h0, hc, hvx⟩
          · obtain ⟨r1, r2, _⟩ := fin _ hvx
            refine ⟨_, ?_, r1⟩
            have hbig : m - l < big := by omega
            by_cases hml : m = l
            · subst hml
              simp only [Nat.beq_refl, if_true]
              exact .slice hy hbig
            · rw [if_neg hml]
              have : Nat.beq m l = false := by
                cases hbq : Nat.beq m l with
                | false => rfl
                | true => exact absurd (Nat.eq_of_beq_eq_true hbq) hml
              rw [this]
              simp only [Option.map_some, add_eq]
              rw [show y.d + off + l * sz = y.d + (off + l * sz) by omega]
              exact .slice hy hbig
          · omega
          · have hc0 : cap = 0 := by rcases hc with h | h <;> omega
            subst h0; subst hc0
            obtain ⟨r1, r2, r3, r4⟩ := fin _ hvx
            refine ⟨_, ?_, r1⟩
            obtain rfl : m = 0 := by omega
            obtain rfl : hh = 0 := by omega
            obtain rfl : l = 0 := by omega
            exact .sliceE a' (.inl rfl)
        · cases h
      · cases h
  · rename_i n elem i off hu
    split at h
    · rename_i l hh m sz hb hsz hbn
      have hbn : n < big := by
        rcases Nat.lt_or_ge n big with h | h
        · exact h
        · rw [Nat.ble_eq_true_of_le h] at hbn; cases hbn
      simp only [fNat_eq, Option.some.injEq, K.pure.injEq] at h
      subst h
      obtain ⟨y, hy, hvx⟩ := rx.ptr_inv
      obtain ⟨q1, q2, q3, q4, q5⟩ := boundsD_run (P := P) (w := w) (isS := false) (cap' := n) rlo' rhi' rmx' (Nat.le_refl _) hb
      have q5' : (Instr.sliceBounds false n n (lo.map ev) (hi.map ev) (mx.map ev)).run P w = .ok (l, hh, m) w ∧ m ≤ n := by
        cases mv with
        | none =>
          simp only [Option.isSome_none, Bool.false_eq_true, if_false] at q5
          have := q4 rfl
          subst this
          exact ⟨q5, Nat.le_refl _⟩
        | some b =>
          simp only [Option.isSome_some, if_true] at q5
          exact ⟨q5, (q3 (by simp)).2⟩
      have hbig : m - l < big := by omega
      have r1 : (execOp ev o).run P w = .ok (.value (.slice (some (if m = l then ⟨y.b, y.d + off, none⟩ else Addr.add ⟨y.b, y.d + off, none⟩ (l * sz))) (hh - l) (m - l))) w := by
        refine exec_v (exec_slice ho) ?_
        simp only [hvx, Instr.sliceAt, Sem.run_bind, run_ud hu, Result.andThen_ok, sureAddr_run, q5'.1, run_sz hsz, Sem.run_pure]
      refine ⟨_, ?_, r1⟩
      by_cases hml : m = l
      · subst hml
        simp only [Nat.beq_refl, if_true]
        exact .slice hy hbig
      · rw [if_neg hml]
        have : Nat.beq m l = false := by
          cases hbq : Nat.beq m l with
          | false => rfl
          | true => exact absurd (Nat.eq_of_beq_eq_true hbq) hml
        rw [this]
        simp only [add_eq]
        rw [show y.d + off + l * sz = y.d + (off + l * sz) by omega]
        exact .slice hy hbig
    · cases h
  · cases h

theorem exec_builtin {c : Call} {b : Builtin} (ho : o.op = .call c) (_hc : c.callee = .builtin b) :
    execOp ev o = (do let d ← resolve ev c o.type; invoke d.target d.args) := by
  simp only [execOp, ho]

theorem run_builtin {c : Call} {b : Builtin} (ho : o.op = .call c) (hc : c.callee = .builtin b) :
    (execOp ev o).run P w = (builtin b c.argTypes o.type (c.args.map fun | .const _ => true | _ => false) (c.args.map ev)).run P w := by
  simp only [execOp, ho, Sem.run_bind, resolve, hc, Sem.run_pure, Result.andThen_ok, invoke]
  rfl

theorem args_of {c : Call} {vs : List Value} (h : LR β vs (c.args.toList.map ev)) : ∃ vs', c.args.map ev = ⟨vs'⟩ ∧ LR β vs vs' :=
  ⟨c.args.toList.map ev, by apply Array.ext'; simp, h⟩

theorem yl_builtin {c : Call} {b : Builtin} {args : List Value} (ho : o.op = .call c) (hc : c.callee = .builtin b) (ha : LR β args (c.args.toList.map ev))
    (h : builtinK P b c.argTypes.toList args = some (.pure v)) : Yl P β ev o v := by
  intro w
  obtain ⟨vs', hvs, hlr⟩ := args_of ha
  rw [run_builtin ho hc, hvs]
  unfold builtinK at h
  split at h
  · -- len
    rename_i x
    obtain ⟨x', r, rfl, hx, hr⟩ := hlr.cons_inv
    rw [hr.nil_inv]
    split at h
    · rename_i t hat
      have hat : c.argTypes = #[t] := by apply Array.ext'; simpa using hat
      rw [hat]
      split at h
      · rename_i s hu
        simp only [fNat_eq, Option.some.injEq, K.pure.injEq] at h
        subst h
        refine ⟨_, .int _ _, ?_⟩
        simp [builtin, Builtin.len_, run_ud hu, hx.string_inv, goInt]
      · rename_i n e hu
        simp only [Option.some.injEq, K.pure.injEq] at h
        subst h
        refine ⟨_, .int _ _, ?_⟩
        simp [builtin, Builtin.len_, run_ud hu, goInt]
      · rename_i e a n cap hu
        simp only [fNat_eq, Option.some.injEq, K.pure.injEq] at h
        subst h
        refine ⟨_, .int _ _, ?_⟩
        cases hx <;> simp [builtin, Builtin.len_, run_ud hu, goInt]
      · rename_i k e hu
        simp only [Option.some.injEq, K.pure.injEq] at h
        subst h
        refine ⟨_, .int _ _, ?_⟩
        cases hx
        simp [builtin, Builtin.len_, run_ud hu, goInt]
      · cases h
      · cases h
    · cases h
  · -- cap
    rename_i a n cap
    obtain ⟨x', r, rfl, hx, hr⟩ := hlr.cons_inv
    rw [hr.nil_inv]
    split at h
    · rename_i t hat
      have hat : c.argTypes = #[t] := by apply Array.ext'; simpa using hat
      rw [hat]
      split at h
      · rename_i e hu
        split at h
        · cases h
        · rename_i hb
          have hb : cap < big := by
            rcases Nat.lt_or_ge cap big with h | h
            · exact h
            · rw [Nat.ble_eq_true_of_le h] at hb; cases hb
          simp only [Option.some.injEq, K.pure.injEq] at h
          subst h
          refine ⟨_, .int _ _, ?_⟩
          cases hx with
          | slice0 => simp [builtin, Builtin.cap_, run_ud hu, goInt]
          | slice => simp [builtin, Builtin.cap_, run_ud hu, goInt]
          | sliceU => omega
          | sliceE a hc =>
            have : cap = 0 := by omega
            subst this
            simp [builtin, Builtin.cap_, run_ud hu, goInt]
      · cases h
    · cases h
  · -- min
    obtain ⟨x', r, rfl, hx, hr⟩ := hlr.cons_inv
    obtain ⟨y', r, rfl, hy, hr⟩ := hr.cons_inv
    rw [hr.nil_inv, hx.int_inv, hy.int_inv]
    rw [vInt_eq] at h
    have := kV_pure h
    cases this
    exact ⟨_, .int _ _, by simp [builtin, Builtin.min_, Builtin.min2]⟩
  · -- max
    obtain ⟨x', r, rfl, hx, hr⟩ := hlr.cons_inv
    obtain ⟨y', r, rfl, hy, hr⟩ := hr.cons_inv
    rw [hr.nil_inv, hx.int_inv, hy.int_inv]
    rw [vInt_eq] at h
    have := kV_pure h
    cases this
    exact ⟨_, .int _ _, by simp [builtin, Builtin.max_, Builtin.max2]⟩
  · -- append
    repeat (split at h <;> try (cases h; done))
    all_goals (try (simp only [fNat_eq] at h))
    all_goals (try (split at h))
    all_goals (first | (cases h; done) | (simp at h; done))
  · repeat (split at h <;> try (cases h; done))
    all_goals (try (simp only [fNat_eq] at h))
    all_goals (first | (cases h; done) | (simp at h; done))
  · repeat (split at h <;> try (cases h; done))
    all_goals (first | (cases h; done) | (simp at h; done))
  · repeat (split at h <;> try (cases h; done))
    all_goals (first | (cases h; done) | (simp at h; done))
  · simp at h
  · -- a string of bytes
    rename_i p k n
    obtain ⟨x', r, rfl, hx, hr⟩ := hlr.cons_inv
    obtain ⟨y', r, rfl, hy, hr⟩ := hr.cons_inv
    rw [hr.nil_inv, hy.int_inv]
    split at h
    · rename_i t t2 hat
      have hat : c.argTypes = #[t, t2] := by apply Array.ext'; simpa using hat
      rw [hat]
      split at h
      · rename_i e hu
        split at h
        · simp only [fNat_eq] at h
          split at h
          · rename_i hn
            have hn := Nat.eq_of_beq_eq_true hn
            subst hn
            simp only [Option.some.injEq, K.pure.injEq] at h
            subst h
            refine ⟨_, .string _, ?_⟩
            cases hx <;> rfl
          · split at h <;> simp at h
          · cases h
        · cases h
      · cases h
    · cases h
  · cases h

end
end Go.Dv
end
section
/- Changes of memory, and what becomes of the relation. -/
namespace Go.Dv

def putB (w : World) (b : Nat) (ob : Obj) : World := { w with heap := w.heap.setIfInBounds b ob }

theorem putB_get (w : World) (b c : Nat) (ob : Obj) : (putB w b ob).heap[c]? = if b = c ∧ b < w.heap.size then some ob else w.heap[c]? := by
  simp only [putB, Array.getElem?_setIfInBounds]
  by_cases h : b = c
  · subst h
    by_cases hs : b < w.heap.size
    · simp [hs]
    · simp [hs]
      try omega
  · simp [h]

theorem putB_size (w : World) (b : Nat) (ob : Obj) : (putB w b ob).heap.size = w.heap.size := by simp [putB]

theorem putB_same {w : World} {b : Nat} {ob : Obj} (h : w.heap[b]? = some ob) : putB w b ob = w := by
  have hlt : b < w.heap.size := by
    rcases Nat.lt_or_ge b w.heap.size with h' | h'
    · exact h'
    · rw [Array.getElem?_eq_none h'] at h; cases h
  have : w.heap.setIfInBounds b ob = w.heap := by
    apply Array.ext_getElem?
    intro i
    rw [Array.getElem?_setIfInBounds]
    by_cases hb : b = i
    · subst hb; rw [if_pos rfl, if_pos hlt, h]
    · rw [if_neg hb]
  unfold putB; rw [this]

theorem putB_putB (w : World) (b : Nat) (o o' : Obj) : putB (putB w b o) b o' = putB w b o' := by
  unfold putB; simp

/- a run of stores -/
def Splice (cc cc' : Array Value) (o : Nat) (vs : List Value) : Prop :=
  cc'.size = cc.size ∧ ∀ i : Nat, cc'[i]? = if o ≤ i ∧ i < o + vs.length then vs[i - o]? else cc[i]?

theorem cell_of {w : World} {b o : Nat} {cc : Array Value} {e : TypeId} {fz : Nat × Nat} (h : w.heap[b]? = some (.cells cc e fz)) : w.cell? ⟨b, o, none⟩ = cc[o]? := by
  simp [World.cell?, h]

theorem frozen_of {w : World} {b o : Nat} {cc : Array Value} {e : TypeId} {lo hi : Nat} (h : w.heap[b]? = some (.cells cc e (lo, hi))) : w.frozen? ⟨b, o, none⟩ = (decide (lo ≤ o) && decide (o < hi)) := by
  simp [World.frozen?, h]

theorem lt_of_get {α : Type} {a : Array α} {i : Nat} {x : α} (h : a[i]? = some x) : i < a.size := by
  rcases Nat.lt_or_ge i a.size with h' | h'
  · exact h'
  · rw [Array.getElem?_eq_none h'] at h; cases h

theorem setCell_eq {w : World} {b o : Nat} {v : Value} {cc : Array Value} {e : TypeId} {fz : Nat × Nat} (h : w.heap[b]? = some (.cells cc e fz)) :
    w.setCell ⟨b, o, none⟩ v = putB w b (.cells (cc.setIfInBounds o v) e fz) := by
  have hlt := lt_of_get h
  unfold World.setCell putB
  congr 1
  apply Array.ext_getElem?
  intro i
  rw [Array.getElem?_setIfInBounds, Array.getElem?_modify]
  by_cases hb : b = i
  · subst hb; rw [if_pos rfl, if_pos rfl, if_pos hlt, h]; rfl
  · rw [if_neg hb, if_neg hb]

theorem isCell_one {v : Value} : isCell v = v.oneCell' := by cases v <;> rfl

theorem storeCells_run {P : Program} : ∀ (vs : List Value) (w : World) (b o k : Nat) (cc : Array Value) (e : TypeId) (lo hi : Nat),
    w.heap[b]? = some (.cells cc e (lo, hi)) → o + k + vs.length ≤ cc.size → allCells vs = true → (∀ j, o + k ≤ j → j < o + k + vs.length → ¬ (lo ≤ j ∧ j < hi)) →
    ∃ cc', Splice cc cc' (o + k) vs ∧ (storeCells ⟨b, o, none⟩ vs k).run P w = .ok () (putB w b (.cells cc' e (lo, hi))) := by
  intro vs
  induction vs with
  | nil =>
    intro w b o k cc e lo hi h _ _ _
    refine ⟨cc, ⟨rfl, fun i => by rw [if_neg (by simp only [List.length_nil]; omega)]⟩, ?_⟩
    rw [putB_same h]
    rfl
  | cons v vs ih =>
    intro w b o k cc e lo hi h hl ha hf
    simp only [allCells] at ha
    cases hc : isCell v with
    | false => rw [hc] at ha; cases ha
    | true =>
      rw [hc] at ha
      simp only [List.length_cons] at hl hf
      have hlt := lt_of_get h
      have h2 : (putB w b (.cells (cc.setIfInBounds (o + k) v) e (lo, hi))).heap[b]? = some (.cells (cc.setIfInBounds (o + k) v) e (lo, hi)) := by
        rw [putB_get]; simp [hlt]
      obtain ⟨cc', hs, hr⟩ := ih _ b o (k + 1) _ e lo hi h2 (by simp; omega) ha (fun j h1 h2 => hf j (by omega) (by omega))
      refine ⟨cc', ⟨by rw [hs.1]; simp, fun i => ?_⟩, ?_⟩
      · rw [hs.2 i]
        by_cases hi1 : o + (k + 1) ≤ i ∧ i < o + (k + 1) + vs.length
        · rw [if_pos hi1, if_pos (by simp only [List.length_cons]; omega)]
          rw [show i - (o + k) = (i - (o + (k + 1))) + 1 by omega]; simp
        · rw [if_neg hi1, Array.getElem?_setIfInBounds]
          by_cases he : o + k = i
          · subst he
            rw [if_pos rfl, if_pos (by omega), if_pos (by simp)]; simp
          · rw [if_neg he, if_neg (by simp only [List.length_cons]; omega)]
      · simp only [storeCells, Sem.run_bind]
        rw [run_store P w _ _ _ (by rw [← isCell_one]; exact hc)]
        have e1 : Addr.add ⟨b, o, none⟩ k = ⟨b, o + k, none⟩ := add_eq _ _ _
        have hcell : w.cell? ⟨b, o + k, none⟩ = some cc[o + k] := by rw [cell_of h]; exact Array.getElem?_eq_getElem (by omega)
        have hfr : w.frozen? ⟨b, o + k, none⟩ = false := by
          rw [frozen_of h]
          have := hf (o + k) (by omega) (by omega)
          simp only [Bool.and_eq_false_imp, decide_eq_true_eq, decide_eq_false_iff_not]
          intro h1 h2; exact this ⟨h1, h2⟩
        rw [e1]
        simp only [hcell, hfr, Bool.false_eq_true, if_false, Result.andThen_ok]
        rw [setCell_eq h, hr, putB_putB]

section
variable {P : Program} {nC : Nat} {C : Nat → Option Blk} {β : Bm} {s : St} {w : World}

theorem loadCells_run {b o n : Nat} {cc : Array Value} {e : TypeId} {fz : Nat × Nat} (h : w.heap[b]? = some (.cells cc e fz)) (hn : o + n ≤ cc.size) :
    (loadCells ⟨b, o, none⟩ n).run P w = .ok ⟨slc cc.toList o n⟩ w := by
  unfold loadCells
  suffices ∀ (n i : Nat) (acc : Array Value), o + i + n ≤ cc.size → (loadCellsFrom ⟨b, o, none⟩ i n acc).run P w = .ok (acc ++ ⟨slc cc.toList (o + i) n⟩) w by
    have := this n 0 #[] (by omega)
    simpa using this
  intro n
  induction n with
  | zero => intro i acc _; simp [loadCellsFrom, slc]
  | succ n ih =>
    intro i acc hl
    simp only [loadCellsFrom, Sem.run_bind, add_eq, run_load, cell_of h, Array.getElem?_eq_getElem (show o + i < cc.size by omega), Result.andThen_ok]
    rw [ih (i + 1) _ (by omega)]
    congr 1
    apply Array.ext'
    have : List.drop (o + i) cc.toList = cc[o + i] :: List.drop (o + i + 1) cc.toList := by
      rw [List.drop_eq_getElem_cons (by simp; omega)]; simp
    simp only [Array.toList_append, Array.toList_push, slc, this, List.take_succ_cons, List.append_assoc, List.singleton_append]
    rfl

/- what a block of cells is -/
theorem cells_inv {β : Bm} {i : Nat} {c : List Value} {e : TypeId} {l : Bool} {a : Option Nat} {fz : Nat} (h : BRel P β w i (.cells c e l a fz)) :
    ∃ (x : BI) (cc : Array Value) (lo hi : Nat), β i = some x ∧ w.heap[x.b]? = some (.cells cc e (lo, hi)) ∧ x.n = cc.size ∧ x.d + c.length ≤ cc.size ∧
      LR β c (slc cc.toList x.d c.length) ∧ (l = true → ∀ o, lo ≤ o → o < hi → o < x.d + fz ∨ cc.size ≤ o) := by
  obtain ⟨x, cc, lo, hi, h1, h2, h3, h4, h5, h6⟩ := h
  refine ⟨x, cc, lo, hi, h1, h2, h3, h4, ⟨by simp [slc]; omega, fun j v v' hv hv' => ?_⟩, h6⟩
  obtain ⟨u, hu, hr⟩ := h5 j v hv
  have : v' = u := by
    have hj : j < c.length := by
      rcases Nat.lt_or_ge j c.length with h | h
      · exact h
      · rw [List.getElem?_eq_none h] at hv; cases hv
    simp only [slc, List.getElem?_take, if_pos hj, List.getElem?_drop, Array.getElem?_toList] at hv'
    rw [hu] at hv'; exact (Option.some.inj hv').symm
  rw [this]; exact hr

theorem slc_slc (l : List Value) (d n o m : Nat) (h : o + m ≤ n) : slc (slc l d n) o m = slc l (d + o) m := by
  simp only [slc, List.drop_take, List.drop_drop, List.take_take]
  congr 1
  omega

/- a load -/
theorem loadD_run {i off n : Nat} {vs : List Value} (hr : Rel P nC C β s w) (h : loadD s i off n = some vs) :
    ∃ x vs', β i = some x ∧ LR β vs vs' ∧ vs.length = n ∧ (loadCells ⟨x.b, x.d + off, none⟩ n).run P w = .ok ⟨vs'⟩ w := by
  unfold loadD at h
  split at h
  · rename_i c e l a fz hb
    split at h
    · rename_i hle
      have hle : off + n ≤ c.length := Nat.le_of_ble_eq_true hle
      simp only [Option.some.injEq] at h
      subst h
      obtain ⟨x, cc, lo, hi, h1, h2, h3, h4, h5, h6⟩ := cells_inv (hr.blk _ _ hb)
      refine ⟨x, slc cc.toList (x.d + off) n, h1, ?_, by simp [slc]; omega, loadCells_run h2 (by omega)⟩
      have := h5.slc off n
      rw [slc_slc _ _ _ _ _ hle] at this
      exact this
    · cases h
  · cases h

theorem load_one {b o : Nat} {v : Value} (h : (loadCells ⟨b, o, none⟩ 1).run P w = .ok ⟨[v]⟩ w) : (load ⟨b, o, none⟩).run P w = .ok v w := by
  simp only [loadCells, loadCellsFrom, Sem.run_bind, add_eq, Nat.add_zero] at h
  revert h
  cases hl : (load ⟨b, o, none⟩).run P w with
  | ok u w' =>
    intro h
    simp only [Result.andThen_ok, Sem.run_pure] at h
    injection h with h1 h2
    have : [u] = [v] := congrArg Array.toList h1
    cases this; rw [h2]
  | halt u w' => intro h; cases h

/- an Ext that lets the ids be, by one concrete block -/
theorem BRel_other {i : Nat} {b : Blk} {bb : Nat} {ob : Obj} (h : BRel P β w i b) (hne : ∀ x, β i = some x → x.b ≠ bb) : BRel P β (putB w bb ob) i b := by
  cases b with
  | hole => trivial
  | cells c e l a fz =>
    obtain ⟨x, cc, lo, hi, h1, h2, h3⟩ := h
    refine ⟨x, cc, lo, hi, h1, ?_, h3⟩
    rw [putB_get, if_neg (fun hh => hne x h1 hh.1.symm)]; exact h2
  | map kk es =>
    obtain ⟨x, ces, clk, h1, h2, h3⟩ := h
    refine ⟨x, ces, clk, h1, ?_, h3⟩
    rw [putB_get, if_neg (fun hh => hne x h1 hh.1.symm)]; exact h2

theorem BRel_empty {i : Nat} {e : TypeId} {l : Bool} {a : Option Nat} {fz bb : Nat} {cc cc' : Array Value} {e' : TypeId} {f : Nat × Nat} (h : BRel P β w i (.cells [] e l a fz))
    (hb : w.heap[bb]? = some (.cells cc e' f)) (hs : cc'.size = cc.size) : BRel P β (putB w bb (.cells cc' e' f)) i (.cells [] e l a fz) := by
  obtain ⟨x, dd, lo, hi, h1, h2, h3, h4, h5, h6⟩ := h
  by_cases he : x.b = bb
  · subst he
    rw [hb] at h2
    cases h2
    refine ⟨x, cc', lo, hi, h1, by rw [putB_get]; simp [lt_of_get hb], by rw [hs]; exact h3, by rw [hs]; exact h4, fun j v hj => by simp at hj, fun o a b => by rw [hs]; exact h6 o a b⟩
  · exact ⟨x, dd, lo, hi, h1, by rw [putB_get, if_neg (fun hh => he hh.1.symm)]; exact h2, h3, h4, h5, h6⟩

theorem kill_some {s s1 : St} {anc : Option Nat} (h : kill s anc = some s1) :
    s1.n = s.n ∧ (∀ j, anc ≠ some j → s1.blk j = s.blk j) ∧ (∀ k, anc = some k → ∃ c e fz, s.blk k = some (.cells c e false none fz) ∨ (∃ a, s.blk k = some (.cells c e false a fz)) ∧ True) := by
  unfold kill at h
  split at h
  · cases h; exact ⟨rfl, fun _ _ => rfl, fun k h => by cases h⟩
  · rename_i k
    split at h
    · rename_i c e a fz hb
      cases h
      exact ⟨rfl, fun j hj => by rw [St.blk_put, if_neg (fun hh => hj (by rw [hh]))], fun k' hk => by cases hk; exact ⟨c, e, fz, .inr ⟨⟨a, hb⟩, trivial⟩⟩⟩
    · cases h

theorem kill_blk {s s1 : St} {anc : Option Nat} {k : Nat} (h : kill s anc = some s1) (hk : anc = some k) : ∃ c e a fz, s.blk k = some (.cells c e false a fz) ∧ s1.blk k = some (.cells [] e false none fz) := by
  subst hk
  unfold kill at h
  split at h
  · rename_i hh; cases hh
  · rename_i k' hh
    cases hh
    split at h
    · rename_i c e a fz hb
      cases h
      exact ⟨c, e, a, fz, hb, by rw [St.blk_put, if_pos rfl]⟩
    · cases h

end
end Go.Dv
end
section
/- Stores, new blocks, appends: what becomes of the relation. -/
namespace Go.Dv
section
variable {P : Program} {nC : Nat} {C : Nat → Option Blk} {β : Bm} {s : St} {w : World}

theorem own_cells_nil {e : TypeId} {a : Option Nat} {fz : Nat} : (Blk.cells [] e false a fz).own = false := rfl

theorem Rel.id_lt (h : Rel P nC C β s w) {i : Nat} {b : Blk} (hb : s.blk i = some b) : i < s.n := by
  rcases Nat.lt_or_ge i s.n with h' | h'
  · exact h'
  · rw [h.outB i h'] at hb; cases hb

/- a store into a live block -/
theorem storeD_ext {i off : Nat} {vs vs' : List Value} {s' : St} (hr : Rel P nC C β s w) (h : storeD s i off vs = some s') (hv : LR β vs vs') :
    ∃ x cc cc' e lo hi, β i = some x ∧ w.heap[x.b]? = some (.cells cc e (lo, hi)) ∧ Splice cc cc' (x.d + off) vs' ∧
      Ext P nC C β s w β s' (putB w x.b (.cells cc' e (lo, hi))) ∧ (storeCells ⟨x.b, x.d + off, none⟩ vs').run P w = .ok () (putB w x.b (.cells cc' e (lo, hi))) := by
  unfold storeD at h
  split at h
  · rename_i c e anc fz hb
    split at h
    · rename_i h1 h2 h3
      have h1 : off + vs.length ≤ c.length := Nat.le_of_ble_eq_true h1
      have h2 : fz ≤ off := Nat.le_of_ble_eq_true h2
      split at h
      · cases h
      · rename_i s1 hk
        split at h
        · cases h
        · rename_i c2 hu
          cases h
          obtain ⟨u1, u2⟩ := upd_get hu h1
          obtain ⟨x, cc, lo, hi, b1, b2, b3, b4, b5, b6⟩ := hr.blk _ _ hb
          obtain ⟨cc', hs, hrun⟩ := storeCells_run (P := P) vs' w x.b (x.d + off) 0 cc e lo hi b2 (by rw [← hv.1]; omega) (by rw [hv.allCells]; exact h3)
            (fun j q1 q2 q3 => by rcases b6 rfl j q3.1 q3.2 with q | q <;> (have := hv.1; omega))
          simp only [Nat.add_zero] at hs hrun
          have hin : nC ≤ i := by
            rcases Nat.lt_or_ge i nC with h | h
            · have := hr.conL i _ h hb; cases this
            · exact h
          obtain ⟨k1, k2, _⟩ := kill_some hk
          have hani : anc ≠ some i := by
            intro ha
            obtain ⟨_, hne, _⟩ := hr.anc i _ i hb rfl ha
            exact hne rfl
          -- the blocks of the new state
          have nb : ∀ j, (s1.put i (.cells c2 e true none fz)).blk j = if i = j then some (.cells c2 e true none fz) else s1.blk j := fun j => St.blk_put _ _ _ _
          have same : ∀ j, j ≠ i → anc ≠ some j → (s1.put i (.cells c2 e true none fz)).blk j = s.blk j := fun j q1 q2 => by rw [nb, if_neg (Ne.symm q1), k2 j q2]
          have kil : ∀ k, anc = some k → ∃ c' e' a' f', s.blk k = some (.cells c' e' false a' f') ∧ (s1.put i (.cells c2 e true none fz)).blk k = some (.cells [] e' false none f') ∧ k ≠ i ∧ nC ≤ k := by
            intro k ha
            obtain ⟨c', e', a', f', q1, q2⟩ := kill_blk hk ha
            obtain ⟨q3, q4, _⟩ := hr.anc i _ k hb rfl ha
            exact ⟨c', e', a', f', q1, by rw [nb, if_neg (Ne.symm q4)]; exact q2, q4, q3⟩
          -- where a block of the new state comes from
          have src : ∀ j bj, (s1.put i (.cells c2 e true none fz)).blk j = some bj → j ≠ i → (anc ≠ some j ∧ s.blk j = some bj) ∨ (anc = some j ∧ bj.own = false ∧ bj.live = false) := by
            intro j bj hj hji
            by_cases ha : anc = some j
            · obtain ⟨c', e', a', f', q1, q2, _⟩ := kil j ha
              rw [q2] at hj; cases hj
              exact .inr ⟨ha, rfl, rfl⟩
            · exact .inl ⟨ha, by rw [← same j hji ha]; exact hj⟩
          have rel : Rel P nC C β (s1.put i (.cells c2 e true none fz)) (putB w x.b (.cells cc' e (lo, hi))) :=
            { blk := fun j bj hj => by
                by_cases hji : j = i
                · subst hji
                  rw [nb, if_pos rfl] at hj
                  cases hj
                  refine ⟨x, cc', lo, hi, b1, by rw [putB_get]; simp [lt_of_get b2], by rw [hs.1]; exact b3, by rw [hs.1, u1]; exact b4, fun m v hm => ?_, fun _ o q1 q2 => by rw [hs.1]; exact b6 rfl o q1 q2⟩
                  rw [u2] at hm
                  by_cases hc : off ≤ m ∧ m < off + vs.length
                  · rw [if_pos hc] at hm
                    obtain ⟨v', hv', hvr⟩ := hv.getElem hm
                    refine ⟨v', ?_, hvr⟩
                    rw [hs.2, if_pos (by rw [← hv.1]; omega), show x.d + m - (x.d + off) = m - off by omega]; exact hv'
                  · rw [if_neg hc] at hm
                    obtain ⟨v', hv', hvr⟩ := b5 m v hm
                    refine ⟨v', ?_, hvr⟩
                    rw [hs.2, if_neg (by rw [← hv.1]; omega)]; exact hv'
                · by_cases ha : anc = some j
                  · obtain ⟨c', e', a', f', q1, q2, _⟩ := kil j ha
                    rw [q2] at hj; cases hj
                    have := hr.blk _ _ q1
                    refine BRel_empty (a := none) ?_ b2 hs.1
                    obtain ⟨y, dd, lo', hi', r1, r2, r3, r4, r5, r6⟩ := this
                    exact ⟨y, dd, lo', hi', r1, r2, r3, by simp; omega, fun m v hm => by simp at hm, r6⟩
                  · have hj' : s.blk j = some bj := by rw [← same j hji ha]; exact hj
                    have hB := hr.blk _ _ hj'
                    by_cases ho : bj.own = true
                    · refine BRel_other hB (fun y hy he => ?_)
                      exact ha (hr.sep i j _ _ x y hb rfl hj' ho (Ne.symm hji) b1 hy he.symm)
                    · cases bj with
                      | hole => trivial
                      | map kk es => exact absurd rfl ho
                      | cells c' e' l' a' f' =>
                        have : c' = [] := by
                          cases c' with
                          | nil => rfl
                          | cons => simp [Blk.own] at ho
                        subst this
                        exact BRel_empty hB b2 hs.1
              out := fun j hj => hr.out j (by simpa [k1] using hj)
              outB := fun j hj => by
                have hj' : s.n ≤ j := by simpa [k1] using hj
                have hji : j ≠ i := by have := hr.id_lt hb; omega
                by_cases ha : anc = some j
                · obtain ⟨c', e', a', f', q1, _⟩ := kil j ha
                  have := hr.id_lt q1; omega
                · rw [same j hji ha]; exact hr.outB j hj'
              sep := fun p q bp bq y z hp hpl hq hqo hne hy hz he => by
                by_cases hpi : p = i
                · subst hpi
                  rw [b1] at hy; cases hy
                  exfalso
                  rcases src q bq hq (Ne.symm hne) with ⟨ha, hq'⟩ | ⟨_, ho, _⟩
                  · exact ha (hr.sep p q _ _ x z hb rfl hq' hqo hne b1 hz he)
                  · rw [ho] at hqo; cases hqo
                · rcases src p bp hp hpi with ⟨hap, hp'⟩ | ⟨_, _, hl⟩
                  · by_cases hqi : q = i
                    · subst hqi
                      have := hr.sep p q _ _ y z hp' hpl hb rfl hne hy hz he
                      obtain ⟨_, _, c', e', f', hq'⟩ := hr.anc p _ q hp' hpl this
                      rw [hb] at hq'; cases hq'
                    · rcases src q bq hq hqi with ⟨_, hq'⟩ | ⟨_, ho, _⟩
                      · exact hr.sep p q _ _ y z hp' hpl hq' hqo hne hy hz he
                      · rw [ho] at hqo; cases hqo
                  · rw [hl] at hpl; cases hpl
              anc := fun p bp q hp hpl hq => by
                by_cases hpi : p = i
                · subst hpi
                  rw [nb, if_pos rfl] at hp; cases hp; cases hq
                · rcases src p bp hp hpi with ⟨hap, hp'⟩ | ⟨_, _, hl⟩
                  · obtain ⟨r1, r2, c', e', f', hq'⟩ := hr.anc p _ q hp' hpl hq
                    refine ⟨r1, r2, ?_⟩
                    by_cases hqi : q = i
                    · subst hqi; rw [hb] at hq'; cases hq'
                    · by_cases ha : anc = some q
                      · obtain ⟨c'', e'', a'', f'', _, q2, _⟩ := kil q ha
                        exact ⟨[], e'', f'', q2⟩
                      · exact ⟨c', e', f', by rw [same q hqi ha]; exact hq'⟩
                  · rw [hl] at hpl; cases hpl
              con := fun j hj => by
                have hji : j ≠ i := by omega
                by_cases ha : anc = some j
                · obtain ⟨_, _, _, _, _, _, _, hk⟩ := kil j ha; omega
                · rw [same j hji ha]; exact hr.con j hj
              conL := fun j b hj hb' => by
                have hji : j ≠ i := by omega
                by_cases ha : anc = some j
                · obtain ⟨_, _, _, _, _, _, _, hk⟩ := kil j ha; omega
                · rw [same j hji ha] at hb'; exact hr.conL j b hj hb'
              le := by simpa [k1] using hr.le
              glob := hr.glob
              bnd := fun j y hy => by rw [putB_size]; exact hr.bnd j y hy }
          refine ⟨x, cc, cc', e, lo, hi, b1, b2, hs, ?_, hrun⟩
          exact
            { mono := fun _ _ h => h, rel := rel, size := by rw [putB_size]; exact Nat.le_refl _, os := rfl, output := rfl, tape := rfl
              grow := by simp [k1]
              new := fun _ _ => rfl
              unhole := fun j _ hj => by
                by_cases hji : j = i
                · subst hji; rw [nb, if_pos rfl] at hj; cases hj
                · by_cases ha : anc = some j
                  · obtain ⟨_, _, _, _, _, q2, _⟩ := kil j ha
                    rw [q2] at hj; cases hj
                  · rw [same j hji ha] at hj; exact hj
              holes := fun j hj => by
                have hji : j ≠ i := by intro h; subst h; rw [hb] at hj; cases hj
                have ha : anc ≠ some j := by
                  intro ha
                  obtain ⟨_, _, _, _, q1, _⟩ := kil j ha
                  rw [q1] at hj; cases hj
                rw [same j hji ha]; exact hj
              keep := fun b hb' hn => by
                rw [putB_get, if_neg (fun hh => hn i _ x hb rfl b1 hh.1)]
              rangeL := fun j bj y hj hl hy => by
                by_cases hji : j = i
                · subst hji; exact .inr ⟨j, _, y, hb, rfl, hy, rfl⟩
                · rcases src j bj hj hji with ⟨_, hj'⟩ | ⟨_, _, hl'⟩
                  · exact .inr ⟨j, bj, y, hj', hl, hy, rfl⟩
                  · rw [hl'] at hl; cases hl
              rangeO := fun j bj y hj ho hy => by
                by_cases hji : j = i
                · subst hji; exact .inr ⟨j, _, y, hb, rfl, hy, rfl⟩
                · rcases src j bj hj hji with ⟨_, hj'⟩ | ⟨_, ho', _⟩
                  · exact .inr ⟨j, bj, y, hj', ho, hy, rfl⟩
                  · rw [ho'] at ho; cases ho }
    · cases h
  · cases h

/- a new block -/
def NewB (_P : Program) (β : Bm) : Blk → Obj → Prop
  | .cells c e live _ _, ob => live = true ∧ ∃ (cc : Array Value) (lo hi : Nat), ob = .cells cc e (lo, hi) ∧ c.length ≤ cc.size ∧
      (∀ (j : Nat) (v : Value), c[j]? = some v → ∃ v', cc[j]? = some v' ∧ VRel β v v') ∧ (∀ o, lo ≤ o → o < hi → cc.size ≤ o)
  | .map kk es, ob => ∃ ces clk, ob = .map ces clk ∧ MRel β kk es ces.toList
  | .hole, _ => False

def obSize : Obj → Nat
  | .cells cc _ _ => cc.size
  | _ => 0

def addB (β : Bm) (i : Nat) (x : BI) : Bm := fun j => if j = i then some x else β j

theorem MRel.mono {β γ : Bm} {kk : Kk} {es : List (Value × Value)} {ces : List MapEntry} (h : MRel β kk es ces) (hb : ∀ i x, β i = some x → γ i = some x) : MRel γ kk es ces :=
  { keys := h.keys, dist := h.dist, cdist := h.cdist, len := h.len
    fwd := fun p hp => let ⟨e, a, b, c⟩ := h.fwd p hp; ⟨e, a, b, c.mono hb⟩
    bwd := fun e he => let ⟨p, a, b, c⟩ := h.bwd e he; ⟨p, a, b, c.mono hb⟩ }

theorem BRel.mono {γ : Bm} {i : Nat} {b : Blk} (h : BRel P β w i b) (hb : ∀ i x, β i = some x → γ i = some x) : BRel P γ w i b := by
  cases b with
  | hole => trivial
  | cells c e l a fz =>
    obtain ⟨x, cc, lo, hi, h1, h2, h3, h4, h5, h6⟩ := h
    exact ⟨x, cc, lo, hi, hb _ _ h1, h2, h3, h4, fun j v hj => let ⟨v', q1, q2⟩ := h5 j v hj; ⟨v', q1, q2.mono hb⟩, h6⟩
  | map kk es =>
    obtain ⟨x, ces, clk, h1, h2, h3⟩ := h
    exact ⟨x, ces, clk, hb _ _ h1, h2, h3.mono hb⟩

theorem BRel_push {i : Nat} {b : Blk} {ob : Obj} (h : BRel P β w i b) : BRel P β { w with heap := w.heap.push ob } i b := by
  have key : ∀ (k : Nat) (o : Obj), w.heap[k]? = some o → (w.heap.push ob)[k]? = some o := fun k o hk => by
    rw [Array.getElem?_push, if_neg (Nat.ne_of_lt (lt_of_get hk))]; exact hk
  cases b with
  | hole => trivial
  | cells c e l a fz =>
    obtain ⟨x, cc, lo, hi, h1, h2, h3⟩ := h
    exact ⟨x, cc, lo, hi, h1, key _ _ h2, h3⟩
  | map kk es =>
    obtain ⟨x, ces, clk, h1, h2, h3⟩ := h
    exact ⟨x, ces, clk, h1, key _ _ h2, h3⟩

theorem addB_mono {i : Nat} {x : BI} (h : β i = none) : ∀ j y, β j = some y → addB β i x j = some y := by
  intro j y hy
  unfold addB
  split
  · rename_i hj; subst hj; rw [h] at hy; cases hy
  · exact hy

theorem addB_same (i : Nat) (x : BI) : addB β i x i = some x := by simp [addB]

/- a new block, in the evaluator's memory and in the model's -/
theorem push_ext' {b : Blk} {ob : Obj} (hr : Rel P nC C β s w) (hn : NewB P β b ob)
    (hanc : ∀ j, b.anc = some j → nC ≤ j ∧ j ≠ s.n ∧ ∃ c e fz, s.blk j = some (.cells c e false none fz)) :
    Ext P nC C β s w (addB β s.n ⟨w.heap.size, 0, obSize ob⟩) (s.push b) { w with heap := w.heap.push ob } := by
  have h0 : β s.n = none := hr.out _ (Nat.le_refl _)
  have mono := addB_mono (x := ⟨w.heap.size, 0, obSize ob⟩) h0
  have bl : ∀ j, j ≠ s.n → (s.push b).blk j = s.blk j := fun j hj => by rw [St.blk_push, if_neg (Ne.symm hj)]
  have bn : (s.push b).blk s.n = some b := by rw [St.blk_push, if_pos rfl]
  have old : ∀ j bj, s.blk j = some bj → j ≠ s.n := fun j bj hj => by have := hr.id_lt hj; omega
  have ad : ∀ j y, j ≠ s.n → addB β s.n ⟨w.heap.size, 0, obSize ob⟩ j = some y → β j = some y := fun j y hj hy => by simpa [addB, hj] using hy
  have bown : b.own = true := by
    cases b with
    | hole => exact hn.elim
    | cells c e l a fz => obtain ⟨rfl, _⟩ := hn; rfl
    | map => rfl
  have gp : (w.heap.push ob)[w.heap.size]? = some ob := by simp
  have rel : Rel P nC C (addB β s.n ⟨w.heap.size, 0, obSize ob⟩) (s.push b) { w with heap := w.heap.push ob } :=
    { blk := fun j bj hj => by
        by_cases hjn : j = s.n
        · subst hjn
          rw [bn] at hj; cases hj
          cases b with
          | hole => exact hn.elim
          | cells c e l a fz =>
            obtain ⟨_, cc, lo, hi, rfl, q1, q2, q3⟩ := hn
            refine ⟨_, cc, lo, hi, addB_same _ _, gp, rfl, by simpa using q1, fun m v hm => ?_, fun _ o a b => .inr (q3 o a b)⟩
            obtain ⟨v', r1, r2⟩ := q2 m v hm
            exact ⟨v', by simpa using r1, r2.mono mono⟩
          | map kk es =>
            obtain ⟨ces, clk, rfl, q⟩ := hn
            exact ⟨_, ces, clk, addB_same _ _, gp, q.mono mono⟩
        · rw [bl j hjn] at hj
          exact BRel_push ((hr.blk j bj hj).mono mono)
      out := fun j hj => by
        have : j ≠ s.n := by simp at hj; omega
        simp only [addB, this, if_false]
        exact hr.out j (by simp at hj; omega)
      outB := fun j hj => by
        have : j ≠ s.n := by simp at hj; omega
        rw [bl j this]; exact hr.outB j (by simp at hj; omega)
      sep := fun p q bp bq y z hp hpl hq hqo hne hy hz he => by
        by_cases hpn : p = s.n
        · subst hpn
          have hqn : q ≠ s.n := Ne.symm hne
          rw [addB_same] at hy; cases hy
          have := hr.bnd q z (ad q z hqn hz)
          simp at he; omega
        · have hy' := ad p y hpn hy
          by_cases hqn : q = s.n
          · subst hqn
            rw [addB_same] at hz; cases hz
            have := hr.bnd p y hy'
            simp at he; omega
          · rw [bl p hpn] at hp; rw [bl q hqn] at hq
            exact hr.sep p q bp bq y z hp hpl hq hqo hne hy' (ad q z hqn hz) he
      anc := fun p bp q hp hpl hq => by
        by_cases hpn : p = s.n
        · subst hpn; rw [bn] at hp; cases hp
          obtain ⟨r1, r2, c', e', f', r3⟩ := hanc q hq
          exact ⟨r1, r2, c', e', f', by rw [bl q r2]; exact r3⟩
        · rw [bl p hpn] at hp
          obtain ⟨r1, r2, c', e', f', r3⟩ := hr.anc p bp q hp hpl hq
          exact ⟨r1, r2, c', e', f', by rw [bl q (old q _ r3)]; exact r3⟩
      con := fun j hj => by rw [bl j (by have := hr.le; omega)]; exact hr.con j hj
      conL := fun j b' hj hb' => by rw [bl j (by have := hr.le; omega)] at hb'; exact hr.conL j b' hj hb'
      le := by have := hr.le; simp; omega
      glob := fun g hg => let ⟨r1, x, r2, r3⟩ := hr.glob g hg; ⟨r1, x, mono _ _ r2, r3⟩
      bnd := fun j y hy => by
        by_cases hjn : j = s.n
        · subst hjn; rw [addB_same] at hy; cases hy; simp
        · have := hr.bnd j y (ad j y hjn hy); simp; omega }
  exact
    { mono := mono, rel := rel, size := by simp, os := rfl, output := rfl, tape := rfl, grow := by simp
      holes := fun j hj => by rw [bl j (old j _ hj)]; exact hj
      unhole := fun j hjn hj => by rw [bl j (Nat.ne_of_lt hjn)] at hj; exact hj
      new := fun j hj => by simp [addB, Nat.ne_of_lt hj]
      keep := fun k hk _ => by simp only [Array.getElem?_push]; rw [if_neg (Nat.ne_of_lt hk)]
      rangeL := fun j bj y hj hl hy => by
        by_cases hjn : j = s.n
        · subst hjn; rw [addB_same] at hy; cases hy; exact .inl (Nat.le_refl _)
        · rw [bl j hjn] at hj; exact .inr ⟨j, bj, y, hj, hl, ad j y hjn hy, rfl⟩
      rangeO := fun j bj y hj hl hy => by
        by_cases hjn : j = s.n
        · subst hjn; rw [addB_same] at hy; cases hy; exact .inl (Nat.le_refl _)
        · rw [bl j hjn] at hj; exact .inr ⟨j, bj, y, hj, hl, ad j y hjn hy, rfl⟩ }

theorem push_ext {b : Blk} {ob : Obj} (hr : Rel P nC C β s w) (hn : NewB P β b ob) (hanc : b.anc = none) :
    Ext P nC C β s w (addB β s.n ⟨w.heap.size, 0, obSize ob⟩) (s.push b) { w with heap := w.heap.push ob } :=
  push_ext' hr hn (fun j hj => by rw [hanc] at hj; cases hj)

end
end Go.Dv
end
section
/- The model's append, run. -/
namespace Go.Dv
section
variable {P : Program} {nC : Nat} {C : Nat → Option Blk} {β : Bm} {s : St} {w : World}

theorem elemD_spec {t : TypeId} {size : Nat} {z : List Value} (h : elemD P t = some (size, z)) :
    ∃ i zv, P.info? t = some i ∧ i.zero = some zv ∧ zv.cells.toList = z ∧ scalar zv = true ∧ i.size = size ∧ size = z.length ∧ 1 ≤ size ∧ i.bytes ≤ room ∧ allCells z = true := by
  unfold elemD at h
  split at h
  · rename_i i hi
    split at h
    · rename_i zv hz
      split at h
      · rename_i h1 h2 h3 h4 h5
        simp only [Option.some.injEq, Prod.mk.injEq] at h
        obtain ⟨rfl, rfl⟩ := h
        exact ⟨i, zv, hi, hz, rfl, h1, rfl, Nat.eq_of_beq_eq_true h2, Nat.le_of_ble_eq_true h3, Nat.le_of_ble_eq_true h4, h5⟩
      · cases h
    · cases h
  · cases h

theorem repZ_length (z : List Value) (n : Nat) : (repZ z n).length = n * z.length := by
  induction n with
  | zero => simp [repZ]
  | succ n ih => simp [repZ, ih, Nat.add_mul]; omega

theorem repZ_get (z : List Value) (_hz : 1 ≤ z.length) : ∀ (n i : Nat), i < n * z.length → (repZ z n)[i]? = z[i % z.length]? := by
  intro n
  induction n with
  | zero => intro i h; simp at h
  | succ n ih =>
    intro i h
    simp only [repZ, List.getElem?_append]
    split
    · rename_i hi; rw [Nat.mod_eq_of_lt hi]
    · rename_i hi
      rw [ih (i - z.length) (by rw [Nat.add_mul] at h; omega)]
      congr 1
      have : i = (i - z.length) + z.length := by omega
      conv => rhs; rw [this]
      rw [Nat.add_mod_right]

theorem range_map_repZ (z : Array Value) (hz : 1 ≤ z.toList.length) (n : Nat) : ((Array.range (n * z.size)).map fun i => z[i % z.size]!) = ⟨repZ z.toList n⟩ := by
  apply Array.ext'
  apply List.ext_getElem?
  intro i
  simp only [Array.toList_map, Array.toList_range, List.getElem?_map]
  have hz' : 1 ≤ z.size := by simpa using hz
  by_cases hi : i < n * z.size
  · rw [List.getElem?_range hi, repZ_get _ hz n i (by simpa using hi)]
    have hm : i % z.size < z.size := Nat.mod_lt _ (by omega)
    simp only [Option.map_some, Array.length_toList, Array.getElem?_toList, Array.getElem?_eq_getElem hm]
    rw [getElem!_pos z (i % z.size) hm]
  · rw [List.getElem?_eq_none (by simp; omega), List.getElem?_eq_none (by rw [repZ_length]; simp; omega)]
    rfl

theorem zeroCells_run (z : Array Value) (hz : 1 ≤ z.toList.length) (n : Nat) : Builtin.zeroCells z n = ⟨repZ z.toList n⟩ := range_map_repZ z hz n

theorem nsc_bound (need cap : Nat) (h1 : cap < need) (h2 : need ≤ room) : Builtin.nextslicecap need cap ≤ 4 * room := by
  unfold room at *
  unfold Builtin.nextslicecap
  split
  · omega
  · split
    · omega
    · have : ∀ (r c : Nat), c ≤ 4 * 1048576 → Builtin.growBy need r c ≤ 4 * 1048576 := by
        intro r
        induction r with
        | zero => intro c hc; simpa [Builtin.growBy] using hc
        | succ r ih =>
          intro c hc
          unfold Builtin.growBy
          split
          · exact hc
          · exact ih _ (by omega)
      exact this _ _ (by omega)

/- what is appended: its number, its cells -/
structure AppIn (P : Program) (w : World) (elem : TypeId) (size : Nat) (xt : TypeId) (x : Value) (n : Nat) (xs : List Value) : Prop where
  fits : ∃ d, P.underlying xt = some d ∧ (((∃ k, d = .int k) ∧ (∃ k, x = .int k n) ∧ n ≤ room ∧ (∃ z, elemD P elem = some (size, z) ∧ xs = repZ z n)) ∨
    (((∃ e, d = .slice e) ∨ d = .string) ∧ (Builtin.lenOf x).run P w = .ok n w ∧ (Builtin.firstCells size n x).run P w = .ok ⟨xs⟩ w ∧ (Builtin.firstCells size n x).run P w.drew = .ok ⟨xs⟩ w.drew))

theorem wrap_small {n : Nat} (h : n ≤ room) : IntKind.i64.wrap (n : Int) = (n : Int) := by
  unfold room at h
  simp [IntKind.wrap, IntKind.signed, IntKind.bits]
  omega

theorem append_fits {st xt ty elem : TypeId} {size : Nat} {z : List Value} {base : Option Addr} {len cap n : Nat} {x : Value} {xs : List Value}
    (hst : P.underlying st = some (.slice elem)) (hE : elemD P elem = some (size, z)) (hx : AppIn P w elem size xt x n xs) (hle : len + n ≤ cap) :
    (Builtin.append_ #[st, xt] ty #[.slice base len cap, x]).run P w =
        (match base with
          | some a => (storeCells (a.add (len * size)) xs).run P w |>.andThen fun _ w' => .ok (.slice base (len + n) cap) w'
          | none => .ok (.slice base (len + n) cap) w) := by
  obtain ⟨i, zv, hi, hz, hzc, hsc, his, hsl, h1s, hby, _⟩ := elemD_spec hE
  have hsz : ∀ w : World, (sizeOf elem).run P w = .ok size w := fun w => by simp [sizeOf, typeInfo, hi, his]
  have hzr : ∀ w : World, (zeroValue elem).run P w = .ok zv w := fun w => by simp [zeroValue, typeInfo, hi, hz]
  have hti : ∀ w : World, (typeInfo elem).run P w = .ok i w := fun w => by simp [typeInfo, hi]
  have hzl : 1 ≤ zv.cells.toList.length := by rw [hzc, ← hsl]; exact h1s
  have hzz : ∀ m, Builtin.zeroCells zv.cells m = ⟨repZ z m⟩ := fun m => by rw [zeroCells_run _ hzl, hzc]
  obtain ⟨d, hd, hc⟩ := hx.fits
  rcases hc with ⟨⟨kd, rfl⟩, ⟨k, rfl⟩, hnr, z', hE', hxs⟩ | ⟨hint, hlen, hcells, hcd⟩
  · rw [hE] at hE'; cases hE'
    have hb3 : ¬ ((281474976710656 : Int) < (n : Int) * (i.bytes : Int)) := by
      have : n * i.bytes ≤ room * room := Nat.mul_le_mul hnr hby
      have h2 : ((n * i.bytes : Nat) : Int) ≤ ((room * room : Nat) : Int) := Int.ofNat_le.2 this
      rw [Int.natCast_mul] at h2
      unfold room at h2
      omega
    have hn0 : ¬ ((n : Int) < 0) := by omega
    have e0 : ∀ w : World, (asInt (.int k (n : Int))).run P w = .ok (n : Int) w := fun w => rfl
    have hcells : n * size = 0 → xs = [] := by
      intro hns
      have : n = 0 := by
        rcases Nat.mul_eq_zero.1 hns with h | h
        · exact h
        · omega
      subst this
      rw [hxs]; rfl
    unfold Builtin.append_
    by_cases hns : n * size = 0
    · rw [hcells hns] at hxs ⊢
      cases base with
      | none => simp [run_ud hst, hsz, run_ud hd, e0, hn0, hti, hb3, hle, hns, wrap_small hnr]
      | some a => simp [run_ud hst, hsz, run_ud hd, e0, hn0, hti, hb3, hle, hns, wrap_small hnr]
    · cases base with
      | none => simp [run_ud hst, hsz, run_ud hd, e0, hn0, hti, hb3, hle, wrap_small hnr, hzr, hzz]
      | some a => simp [run_ud hst, hsz, run_ud hd, e0, hn0, hti, hb3, hle, hns, wrap_small hnr, hzr, hzz, hxs]
  · unfold Builtin.append_
    rcases hint with ⟨e', rfl⟩ | rfl
    · cases base with
      | none => simp [run_ud hst, hsz, run_ud hd, hle, hlen, hcells]
      | some a => simp [run_ud hst, hsz, run_ud hd, hle, hlen, hcells]
    · cases base with
      | none => simp [run_ud hst, hsz, run_ud hd, hle, hlen, hcells]
      | some a => simp [run_ud hst, hsz, run_ud hd, hle, hlen, hcells]

theorem append_grows {st xt ty elem : TypeId} {size : Nat} {z : List Value} {base : Option Addr} {len cap n : Nat} {x : Value} {xs old : List Value}
    (hst : P.underlying st = some (.slice elem)) (hE : elemD P elem = some (size, z)) (hx : AppIn P w elem size xt x n xs) (hn : len + n ≤ room) (hle : ¬ len + n ≤ cap)
    (hold : (Builtin.firstCells size len (.slice base len cap)).run P w.drew = .ok ⟨old⟩ w.drew) :
    ∃ newCap, len + n ≤ newCap ∧ (Builtin.append_ #[st, xt] ty #[.slice base len cap, x]).run P w =
      .ok (.slice (some ⟨w.heap.size, 0, none⟩) (len + n) newCap) (w.drew.alloc (.cells ⟨old ++ (xs ++ repZ z (newCap - (len + n)))⟩ elem)) := by
  refine ⟨(Question.appendCap (len + n) cap elem).cut (w.tape w.drawn (.appendCap (len + n) cap elem)), by simp [Question.cut], ?_⟩
  generalize hcut : (Question.appendCap (len + n) cap elem).cut (w.tape w.drawn (.appendCap (len + n) cap elem)) = newCap
  obtain ⟨i, zv, hi, hz, hzc, hsc, his, hsl, h1s, hby, _⟩ := elemD_spec hE
  have hsz : ∀ w : World, (sizeOf elem).run P w = .ok size w := fun w => by simp [sizeOf, typeInfo, hi, his]
  have hzr : ∀ w : World, (zeroValue elem).run P w = .ok zv w := fun w => by simp [zeroValue, typeInfo, hi, hz]
  have hti : ∀ w : World, (typeInfo elem).run P w = .ok i w := fun w => by simp [typeInfo, hi]
  have hzl : 1 ≤ zv.cells.toList.length := by rw [hzc, ← hsl]; exact h1s
  have hzz : ∀ m, Builtin.zeroCells zv.cells m = ⟨repZ z m⟩ := fun m => by rw [zeroCells_run _ hzl, hzc]
  obtain ⟨d, hd, hc⟩ := hx.fits
  have h3 : ¬ (281474976710656 < Builtin.nextslicecap (len + n) cap * i.bytes) := by
    have h1 := nsc_bound (len + n) cap (by omega) hn
    have h2 : Builtin.nextslicecap (len + n) cap * i.bytes ≤ (4 * room) * room := Nat.mul_le_mul h1 hby
    unfold room at h2
    omega
  have hby1 : ¬ (IntKind.i64.max < (len : Int) + (n : Int)) := by
    unfold room at hn
    simp [IntKind.max, IntKind.signed, IntKind.bits]
    omega
  rcases hc with ⟨⟨kd, rfl⟩, ⟨k, rfl⟩, hnr, z', hE', hxs⟩ | ⟨hint, hlen, hcells, hcd⟩
  · rw [hE] at hE'; cases hE'
    have hb3 : ¬ ((281474976710656 : Int) < (n : Int) * (i.bytes : Int)) := by
      have : n * i.bytes ≤ room * room := Nat.mul_le_mul hnr hby
      have h2 : ((n * i.bytes : Nat) : Int) ≤ ((room * room : Nat) : Int) := Int.ofNat_le.2 this
      rw [Int.natCast_mul] at h2
      unfold room at h2
      omega
    have hn0 : ¬ ((n : Int) < 0) := by omega
    have e0 : ∀ w : World, (asInt (.int k (n : Int))).run P w = .ok (n : Int) w := fun w => rfl
    have hcells : n * size = 0 → xs = [] := by
      intro hns
      have : n = 0 := by
        rcases Nat.mul_eq_zero.1 hns with h | h
        · exact h
        · omega
      subst this
      rw [hxs]; rfl
    unfold Builtin.append_
    by_cases hns : n * size = 0
    · rw [hcells hns] at hxs ⊢
      simp [run_ud hst, hsz, run_ud hd, e0, hn0, hti, hb3, hle, hns, wrap_small hnr, hby1, h3, Question.forced, hzr, hzz, newRow, hold, hcut]
    · simp [run_ud hst, hsz, run_ud hd, e0, hn0, hti, hb3, hle, hns, wrap_small hnr, hby1, h3, Question.forced, hzr, hzz, hxs, newRow, hold, hcut]
  · unfold Builtin.append_
    rcases hint with ⟨e', rfl⟩ | rfl
    · simp [run_ud hst, hsz, run_ud hd, hlen, hti, hle, hby1, h3, Question.forced, hzr, hzz, newRow, hold, hcd, hcut]
    · simp [run_ud hst, hsz, run_ud hd, hlen, hti, hle, hby1, h3, Question.forced, hzr, hzz, newRow, hold, hcd, hcut]

end
end Go.Dv
end
section
/- Appends. -/
namespace Go.Dv
section
variable {P : Program} {nC : Nat} {C : Nat → Option Blk} {β : Bm} {s : St} {w : World}

theorem BRel.heap {w' : World} {i : Nat} {b : Blk} (h : BRel P β w i b) (he : w'.heap = w.heap) : BRel P β w' i b := by
  cases b with
  | hole => trivial
  | cells c e l a fz => obtain ⟨x, cc, lo, hi, h1, h2, h3⟩ := h; exact ⟨x, cc, lo, hi, h1, by rw [he]; exact h2, h3⟩
  | map kk es => obtain ⟨x, ces, clk, h1, h2, h3⟩ := h; exact ⟨x, ces, clk, h1, by rw [he]; exact h2, h3⟩

theorem Rel.heap {w' : World} (hr : Rel P nC C β s w) (he : w'.heap = w.heap) : Rel P nC C β s w' :=
  { blk := fun i b hb => (hr.blk i b hb).heap he, out := hr.out, outB := hr.outB, sep := hr.sep, anc := hr.anc, con := hr.con, conL := hr.conL, le := hr.le, glob := hr.glob
    bnd := fun i x hx => by rw [he]; exact hr.bnd i x hx }

theorem Ext.heapL {β' : Bm} {s' : St} {w1 w' : World} (h : Ext P nC C β s w1 β' s' w') (he : w1.heap = w.heap) (ho : w1.os = w.os) (hu : w1.output = w.output) (ht : w1.tape = w.tape) :
    Ext P nC C β s w β' s' w' :=
  { mono := h.mono, rel := h.rel, size := by rw [← he]; exact h.size, keep := fun b hb hn => by rw [← he]; exact h.keep b (by rw [he]; exact hb) hn
    rangeL := fun i bi x a b c => by rw [← he]; exact h.rangeL i bi x a b c
    rangeO := fun i bi x a b c => by rw [← he]; exact h.rangeO i bi x a b c
    os := h.os.trans ho, output := h.output.trans hu, tape := h.tape.trans ht, grow := h.grow, holes := h.holes, unhole := h.unhole, new := h.new }

/- a live block becomes an old one, cut -/
theorem weaken_ext {b k fz : Nat} {c : List Value} {e : TypeId} {anc : Option Nat} {s1 : St} (hr : Rel P nC C β s w) (hb : s.blk b = some (.cells c e true anc fz)) (hk : kill s anc = some s1) :
    Ext P nC C β s w β (s1.put b (.cells (c.take k) e false none fz)) w ∧
      (∀ j bj, (s1.put b (.cells (c.take k) e false none fz)).blk j = some bj → j ≠ b → bj.own = true → s.blk j = some bj ∧ anc ≠ some j) ∧ b < s1.n ∧ s1.n = s.n ∧ nC ≤ b := by
  obtain ⟨k1, k2, _⟩ := kill_some hk
  have hin : nC ≤ b := by
    rcases Nat.lt_or_ge b nC with h | h
    · have := hr.conL b _ h hb; cases this
    · exact h
  have hani : anc ≠ some b := by
    intro ha
    obtain ⟨_, hne, _⟩ := hr.anc b _ b hb rfl ha
    exact hne rfl
  have nb : ∀ j, (s1.put b (.cells (c.take k) e false none fz)).blk j = if b = j then some (.cells (c.take k) e false none fz) else s1.blk j := fun j => St.blk_put _ _ _ _
  have same : ∀ j, j ≠ b → anc ≠ some j → (s1.put b (.cells (c.take k) e false none fz)).blk j = s.blk j := fun j q1 q2 => by rw [nb, if_neg (Ne.symm q1), k2 j q2]
  have kil : ∀ j, anc = some j → ∃ c' e' a' f', s.blk j = some (.cells c' e' false a' f') ∧ (s1.put b (.cells (c.take k) e false none fz)).blk j = some (.cells [] e' false none f') ∧ j ≠ b ∧ nC ≤ j := by
    intro j ha
    obtain ⟨c', e', a', f', q1, q2⟩ := kill_blk hk ha
    obtain ⟨q3, q4, _⟩ := hr.anc b _ j hb rfl ha
    exact ⟨c', e', a', f', q1, by rw [nb, if_neg (Ne.symm q4)]; exact q2, q4, q3⟩
  have src : ∀ j bj, (s1.put b (.cells (c.take k) e false none fz)).blk j = some bj → j ≠ b → (anc ≠ some j ∧ s.blk j = some bj) ∨ (anc = some j ∧ bj.own = false ∧ bj.live = false) := by
    intro j bj hj hji
    by_cases ha : anc = some j
    · obtain ⟨c', e', a', f', q1, q2, _⟩ := kil j ha
      rw [q2] at hj; cases hj
      exact .inr ⟨ha, rfl, rfl⟩
    · exact .inl ⟨ha, by rw [← same j hji ha]; exact hj⟩
  have self : ∀ bj, (s1.put b (.cells (c.take k) e false none fz)).blk b = some bj → bj = .cells (c.take k) e false none fz := by
    intro bj hj; rw [nb, if_pos rfl] at hj; exact (Option.some.inj hj).symm
  have rel : Rel P nC C β (s1.put b (.cells (c.take k) e false none fz)) w :=
    { blk := fun j bj hj => by
        by_cases hji : j = b
        · subst hji
          rw [self bj hj]
          obtain ⟨x, cc, lo, hi, b1, b2, b3, b4, b5, b6⟩ := hr.blk _ _ hb
          refine ⟨x, cc, lo, hi, b1, b2, b3, ?_, fun m v hm => ?_, fun h => by cases h⟩
          · rw [List.length_take]; omega
          · rw [List.getElem?_take] at hm
            split at hm
            · exact b5 m v hm
            · cases hm
        · by_cases ha : anc = some j
          · obtain ⟨c', e', a', f', q1, q2, _⟩ := kil j ha
            rw [q2] at hj; cases hj
            obtain ⟨y, dd, lo', hi', r1, r2, r3, r4, r5, r6⟩ := hr.blk _ _ q1
            exact ⟨y, dd, lo', hi', r1, r2, r3, by simp; omega, fun m v hm => by simp at hm, r6⟩
          · rw [same j hji ha] at hj; exact hr.blk j bj hj
      out := fun j hj => hr.out j (by simpa [k1] using hj)
      outB := fun j hj => by
        have hj' : s.n ≤ j := by simpa [k1] using hj
        have hji : j ≠ b := by have := hr.id_lt hb; omega
        by_cases ha : anc = some j
        · obtain ⟨c', e', a', f', q1, _⟩ := kil j ha
          have := hr.id_lt q1; omega
        · rw [same j hji ha]; exact hr.outB j hj'
      sep := fun p q bp bq y z hp hpl hq hqo hne hy hz he => by
        by_cases hpi : p = b
        · subst hpi; rw [self bp hp] at hpl; cases hpl
        · rcases src p bp hp hpi with ⟨hap, hp'⟩ | ⟨_, _, hl⟩
          · by_cases hqi : q = b
            · subst hqi
              exact hr.sep p q _ _ y z hp' hpl hb rfl hne hy hz he
            · rcases src q bq hq hqi with ⟨_, hq'⟩ | ⟨_, ho, _⟩
              · exact hr.sep p q _ _ y z hp' hpl hq' hqo hne hy hz he
              · rw [ho] at hqo; cases hqo
          · rw [hl] at hpl; cases hpl
      anc := fun p bp q hp hpl hq => by
        by_cases hpi : p = b
        · subst hpi; rw [self bp hp] at hpl; cases hpl
        · rcases src p bp hp hpi with ⟨hap, hp'⟩ | ⟨_, _, hl⟩
          · obtain ⟨r1, r2, c', e', f', hq'⟩ := hr.anc p _ q hp' hpl hq
            refine ⟨r1, r2, ?_⟩
            by_cases hqi : q = b
            · subst hqi; rw [hb] at hq'; cases hq'
            · by_cases ha : anc = some q
              · obtain ⟨c'', e'', a'', f'', _, q2, _⟩ := kil q ha
                exact ⟨[], e'', f'', q2⟩
              · exact ⟨c', e', f', by rw [same q hqi ha]; exact hq'⟩
          · rw [hl] at hpl; cases hpl
      con := fun j hj => by
        have hji : j ≠ b := by omega
        by_cases ha : anc = some j
        · obtain ⟨_, _, _, _, _, _, _, hk⟩ := kil j ha; omega
        · rw [same j hji ha]; exact hr.con j hj
      conL := fun j b' hj hb' => by
        have hji : j ≠ b := by omega
        by_cases ha : anc = some j
        · obtain ⟨_, _, _, _, _, _, _, hk⟩ := kil j ha; omega
        · rw [same j hji ha] at hb'; exact hr.conL j b' hj hb'
      le := by simpa [k1] using hr.le
      glob := hr.glob
      bnd := hr.bnd }
  refine ⟨?_, ?_, by rw [k1]; exact hr.id_lt hb, k1, hin⟩
  · exact
      { mono := fun _ _ h => h, rel := rel, size := Nat.le_refl _, os := rfl, output := rfl, tape := rfl, grow := by simp [k1]
        new := fun _ _ => rfl
        unhole := fun j _ hj => by
          by_cases hji : j = b
          · subst hji; rw [nb, if_pos rfl] at hj; cases hj
          · by_cases ha : anc = some j
            · obtain ⟨_, _, _, _, _, q2, _⟩ := kil j ha
              rw [q2] at hj; cases hj
            · rw [same j hji ha] at hj; exact hj
        holes := fun j hj => by
          have hji : j ≠ b := by intro h; subst h; rw [hb] at hj; cases hj
          have ha : anc ≠ some j := by
            intro ha
            obtain ⟨_, _, _, _, q1, _⟩ := kil j ha
            rw [q1] at hj; cases hj
          rw [same j hji ha]; exact hj
        keep := fun _ _ _ => rfl
        rangeL := fun j bj y hj hl hy => by
          by_cases hji : j = b
          · subst hji; rw [self bj hj] at hl; cases hl
          · rcases src j bj hj hji with ⟨_, hj'⟩ | ⟨_, _, hl'⟩
            · exact .inr ⟨j, bj, y, hj', hl, hy, rfl⟩
            · rw [hl'] at hl; cases hl
        rangeO := fun j bj y hj ho hy => by
          by_cases hji : j = b
          · subst hji; exact .inr ⟨j, _, y, hb, rfl, hy, rfl⟩
          · rcases src j bj hj hji with ⟨_, hj'⟩ | ⟨_, ho', _⟩
            · exact .inr ⟨j, bj, y, hj', ho, hy, rfl⟩
            · rw [ho'] at ho; cases ho }
  · intro j bj hj hji ho
    rcases src j bj hj hji with ⟨ha, hj'⟩ | ⟨_, ho', _⟩
    · exact ⟨hj', ha⟩
    · rw [ho'] at ho; cases ho

/- an append in place -/
theorem inplace_ext {b off k fz : Nat} {c xs xs' : List Value} {e : TypeId} {anc : Option Nat} {s1 : St} {x : BI} {cc cc' : Array Value} {lo hi : Nat}
    (hr : Rel P nC C β s w) (hb : s.blk b = some (.cells c e true anc fz)) (hk : kill s anc = some s1) (hx : β b = some x)
    (hc : w.heap[x.b]? = some (.cells cc e (lo, hi))) (hle : off + k ≤ c.length) (hv : LR β xs xs') (hs : Splice cc cc' (x.d + off + k) xs') (hroom : x.d + off + k + xs.length ≤ cc.size) :
    Ext P nC C β s w (addB β s.n ⟨x.b, x.d + off, x.n⟩) ((s1.put b (.cells (c.take (off + k)) e false none fz)).push (.cells (slc c off k ++ xs) e true (some b) (fz - off)))
      (putB w x.b (.cells cc' e (lo, hi))) := by
  obtain ⟨hw, hown, hbn, hn1, hnb⟩ := weaken_ext (k := off + k) hr hb hk
  have hr2 := hw.rel
  have b2 : (s1.put b (.cells (c.take (off + k)) e false none fz)).blk b = some (.cells (c.take (off + k)) e false none fz) := by rw [St.blk_put, if_pos rfl]
  have hn2 : (s1.put b (.cells (c.take (off + k)) e false none fz)).n = s.n := hn1
  revert b2 hn2 hr2 hown hw
  generalize hs2 : s1.put b (.cells (c.take (off + k)) e false none fz) = s2
  intro hw hown hr2 b2 hn2
  have h0 : β s.n = none := hr.out _ (Nat.le_refl _)
  have mono := addB_mono (x := ⟨x.b, x.d + off, x.n⟩) h0
  have bl : ∀ j, j ≠ s.n → (s2.push (.cells (slc c off k ++ xs) e true (some b) (fz - off))).blk j = s2.blk j := fun j hj => by rw [St.blk_push, if_neg (by rw [hn2]; exact Ne.symm hj)]
  have bn : (s2.push (.cells (slc c off k ++ xs) e true (some b) (fz - off))).blk s.n = some (.cells (slc c off k ++ xs) e true (some b) (fz - off)) := by rw [St.blk_push, if_pos hn2]
  have old : ∀ j bj, s2.blk j = some bj → j ≠ s.n := fun j bj hj => by have := hr2.id_lt hj; omega
  have ad : ∀ j y, j ≠ s.n → addB β s.n ⟨x.b, x.d + off, x.n⟩ j = some y → β j = some y := fun j y hj hy => by simpa [addB, hj] using hy
  have hbs : b ≠ s.n := by have := hr.id_lt hb; omega
  obtain ⟨x', cc0, lo0, hi0, b1, b2', b3, b4, b5, b6⟩ := hr.blk _ _ hb
  rw [hx] at b1; cases b1
  rw [hc] at b2'; cases b2'
  have hlen : (slc c off k).length = k := by simp [slc]; omega
  -- who owns the concrete block in s2: b alone
  have only : ∀ j bj y, s2.blk j = some bj → bj.own = true → β j = some y → y.b = x.b → j = b := by
    intro j bj y hj ho hy he
    by_cases hjb : j = b
    · exact hjb
    · obtain ⟨hj', ha⟩ := hown j bj hj hjb ho
      exact absurd (hr.sep b j _ _ x y hb rfl hj' ho (Ne.symm hjb) hx hy he.symm) ha
  have gp : (putB w x.b (.cells cc' e (lo, hi))).heap[x.b]? = some (.cells cc' e (lo, hi)) := by rw [putB_get]; simp [lt_of_get hc]
  have rel : Rel P nC C (addB β s.n ⟨x.b, x.d + off, x.n⟩) (s2.push (.cells (slc c off k ++ xs) e true (some b) (fz - off))) (putB w x.b (.cells cc' e (lo, hi))) :=
    { blk := fun j bj hj => by
        by_cases hjn : j = s.n
        · subst hjn
          rw [bn] at hj; cases hj
          refine ⟨_, cc', lo, hi, addB_same _ _, gp, by rw [hs.1]; exact b3, ?_, fun m v hm => ?_, fun _ o q1 q2 => ?_⟩
          · rw [hs.1]; simp only [List.length_append, hlen]; omega
          · rw [List.getElem?_append] at hm
            change ∃ v', cc'[x.d + off + m]? = some v' ∧ _
            rw [hs.2]
            split at hm
            · rename_i hmk
              rw [hlen] at hmk
              rw [if_neg (by omega)]
              simp only [slc, List.getElem?_take, if_pos hmk, List.getElem?_drop] at hm
              obtain ⟨v', q1, q2⟩ := b5 _ v hm
              exact ⟨v', by rw [Nat.add_assoc]; exact q1, q2.mono mono⟩
            · rename_i hmk
              rw [hlen] at hmk hm
              obtain ⟨v', q1, q2⟩ := hv.getElem hm
              have hml : m - k < xs'.length := by
                rcases Nat.lt_or_ge (m - k) xs'.length with h | h
                · exact h
                · rw [List.getElem?_eq_none h] at q1; cases q1
              rw [if_pos (by omega), show x.d + off + m - (x.d + off + k) = m - k by omega]
              exact ⟨v', q1, q2.mono mono⟩
          · rw [hs.1]
            rcases b6 rfl o q1 q2 with q | q
            · exact .inl (by change o < x.d + off + (fz - off); omega)
            · exact .inr q
        · rw [bl j hjn] at hj
          have hB := (hr2.blk j bj hj).mono mono
          by_cases hjb : j = b
          · subst hjb
            rw [b2] at hj; cases hj
            refine ⟨x, cc', lo, hi, mono _ _ hx, gp, by rw [hs.1]; exact b3, ?_, fun m v hm => ?_, fun h => by cases h⟩
            · rw [hs.1, List.length_take]; omega
            · rw [List.getElem?_take] at hm
              split at hm
              · rename_i hmk
                obtain ⟨v', q1, q2⟩ := b5 m v hm
                exact ⟨v', by rw [hs.2, if_neg (by omega)]; exact q1, q2.mono mono⟩
              · cases hm
          · by_cases ho : bj.own = true
            · refine BRel_other hB (fun y hy he => hjb (only j bj y hj ho (ad j y hjn hy) he))
            · cases bj with
              | hole => trivial
              | map kk es => exact absurd rfl ho
              | cells c' e' l' a' f' =>
                have : c' = [] := by
                  cases c' with
                  | nil => rfl
                  | cons => simp [Blk.own] at ho
                subst this
                exact BRel_empty hB hc hs.1
      out := fun j hj => by
        have : j ≠ s.n := by simp [hn2] at hj; omega
        simp only [addB, this, if_false]
        exact hr.out j (by simp [hn2] at hj; omega)
      outB := fun j hj => by
        have : j ≠ s.n := by simp [hn2] at hj; omega
        rw [bl j this]; exact hr2.outB j (by simp [hn2] at hj; omega)
      sep := fun p q bp bq y z hp hpl hq hqo hne hy hz he => by
        by_cases hpn : p = s.n
        · subst hpn
          rw [bn] at hp; cases hp
          have hqn : q ≠ s.n := Ne.symm hne
          rw [addB_same] at hy; cases hy
          rw [bl q hqn] at hq
          rw [only q bq z hq hqo (ad q z hqn hz) he.symm]; rfl
        · have hy' := ad p y hpn hy
          rw [bl p hpn] at hp
          by_cases hqn : q = s.n
          · subst hqn
            rw [addB_same] at hz; cases hz
            have ho : bp.own = true := by cases bp <;> simp_all [Blk.own, Blk.live]
            have := only p bp y hp ho hy' he
            subst this
            rw [b2] at hp; cases hp; cases hpl
          · rw [bl q hqn] at hq
            exact hr2.sep p q bp bq y z hp hpl hq hqo hne hy' (ad q z hqn hz) he
      anc := fun p bp q hp hpl hq => by
        by_cases hpn : p = s.n
        · subst hpn; rw [bn] at hp; cases hp
          cases hq
          exact ⟨hnb, hbs, _, _, _, by rw [bl b hbs]; exact b2⟩
        · rw [bl p hpn] at hp
          obtain ⟨r1, r2, c', e', f', r3⟩ := hr2.anc p bp q hp hpl hq
          exact ⟨r1, r2, c', e', f', by rw [bl q (old q _ r3)]; exact r3⟩
      con := fun j hj => by rw [bl j (by have := hr.le; omega)]; exact hr2.con j hj
      conL := fun j b' hj hb' => by rw [bl j (by have := hr.le; omega)] at hb'; exact hr2.conL j b' hj hb'
      le := by have := hr2.le; simp; omega
      glob := fun g hg => let ⟨r1, x, r2, r3⟩ := hr.glob g hg; ⟨r1, x, mono _ _ r2, r3⟩
      bnd := fun j y hy => by
        rw [putB_size]
        by_cases hjn : j = s.n
        · subst hjn; rw [addB_same] at hy; cases hy; exact lt_of_get hc
        · exact hr.bnd j y (ad j y hjn hy) }
  exact
    { mono := mono, rel := rel, size := by rw [putB_size]; exact Nat.le_refl _, os := rfl, output := rfl, tape := rfl, grow := by simp [hn2]
      unhole := fun j hjn hj => by
        rw [bl j (Nat.ne_of_lt hjn)] at hj
        exact hw.unhole j hjn hj
      new := fun j hj => by simp [addB, Nat.ne_of_lt hj]
      holes := fun j hj => by
        have := hw.holes j hj
        rw [bl j (old j _ this)]; exact this
      keep := fun k' hk' hn => by
        rw [putB_get, if_neg (fun hh => hn b _ x hb rfl hx hh.1)]
      rangeL := fun j bj y hj hl hy => by
        by_cases hjn : j = s.n
        · subst hjn; rw [addB_same] at hy; cases hy; exact .inr ⟨b, _, x, hb, rfl, hx, rfl⟩
        · rw [bl j hjn] at hj
          exact hw.rangeL j bj y hj hl (ad j y hjn hy)
      rangeO := fun j bj y hj hl hy => by
        by_cases hjn : j = s.n
        · subst hjn; rw [addB_same] at hy; cases hy; exact .inr ⟨b, _, x, hb, rfl, hx, rfl⟩
        · rw [bl j hjn] at hj
          exact hw.rangeO j bj y hj hl (ad j y hjn hy) }

end
end Go.Dv
end
section
/- Effects on memory. -/
namespace Go.Dv
section
variable {P : Program} {nC : Nat} {C : Nat → Option Blk} {β : Bm} {s : St} {w : World}

theorem firstCells_slice {size n : Nat} {a : Addr} {l c : Nat} : (Builtin.firstCells size n (.slice (some a) l c)).run P w = (loadCells a (n * size)).run P w := rfl

theorem loadCells_zero (a : Addr) : (loadCells a 0).run P w = .ok #[] w := rfl

theorem LR.len {l l' : List Value} (h : LR β l l') : l'.length = l.length := h.1.symm

/- an append, of which a new block comes: 'keep' are the cells that stay -/
theorem new_ext {elem : TypeId} {size len m newCap fz : Nat} {anc : Option Nat} {keep xs keep' xs' z : List Value} (hr : Rel P nC C β s w)
    (hanc : ∀ j, anc = some j → nC ≤ j ∧ j ≠ s.n ∧ ∃ c e fz, s.blk j = some (.cells c e false none fz)) (hk : LR β keep keep') (hx : LR β xs xs')
    (hlk : keep.length = len * size) (hlx : xs.length = m * size) (hz : z.length = size) (hcap : len + m ≤ newCap) :
    ∃ x : BI, x.d = 0 ∧ x.b = w.heap.size ∧ newCap * size ≤ x.n ∧
      Ext P nC C β s w (addB β s.n x) (s.push (.cells (keep ++ xs) elem true anc fz)) (w.drew.alloc (.cells ⟨keep' ++ (xs' ++ repZ z (newCap - (len + m)))⟩ elem)) := by
  have hr' : Rel P nC C β s w.drew := hr.heap rfl
  have hn : NewB P β (.cells (keep ++ xs) elem true anc fz) (.cells ⟨keep' ++ (xs' ++ repZ z (newCap - (len + m)))⟩ elem) := by
    refine ⟨rfl, _, 0, 0, rfl, ?_, fun j v hv => ?_, fun o h1 h2 => by omega⟩
    · simp [hk.len, hx.len]
    · obtain ⟨v', q1, q2⟩ := (hk.append hx).getElem hv
      refine ⟨v', ?_, q2⟩
      have hlt : j < (keep' ++ xs').length := by
        rcases Nat.lt_or_ge j (keep' ++ xs').length with h | h
        · exact h
        · rw [List.getElem?_eq_none h] at q1; cases q1
      have : (Array.mk (keep' ++ (xs' ++ repZ z (newCap - (len + m)))))[j]? = ((keep' ++ xs') ++ repZ z (newCap - (len + m)))[j]? := by simp
      rw [this, List.getElem?_append_left hlt]; exact q1
  have he := push_ext' hr' hn hanc
  refine ⟨_, rfl, rfl, ?_, he.heapL rfl rfl rfl rfl⟩
  have e1 : (newCap - (len + m)) * size + (len + m) * size = newCap * size := by rw [← Nat.add_mul]; congr 1; omega
  simp only [obSize, List.size_toArray, List.length_append, repZ_length, hk.len, hx.len, hlk, hlx, hz]
  rw [Nat.add_mul] at e1
  omega

theorem VRel.newU {i l sz c : Nat} {x : BI} (h : β i = some x) (hd : x.d = 0) (hl : l ≤ c) (hn : c * sz ≤ x.n) :
    VRel β (.slice (some ⟨i, 0, none⟩) l (big + sz)) (.slice (some ⟨x.b, 0, none⟩) l c) := by
  have := VRel.sliceU (o := 0) (sz := sz) h hl (by omega)
  rw [hd] at this
  exact this

theorem appendD_ext {st xt ty elem : TypeId} {size : Nat} {z : List Value} {base : Option Addr} {len cap m : Nat} {x' cb v : Value} {xs xs' : List Value} {s' : St}
    (hr : Rel P nC C β s w) (h : appendD s elem size base len cap xs m = some (v, s')) (hcb : VRel β (.slice base len cap) cb) (hxs : LR β xs xs') (hlx : xs.length = m * size)
    (hst : P.underlying st = some (.slice elem)) (hE : elemD P elem = some (size, z)) (hx : AppIn P w elem size xt x' m xs') (hac : allCells xs' = true) :
    ∃ β' v' w', Ext P nC C β s w β' s' w' ∧ VRel β' v v' ∧ (Builtin.append_ #[st, xt] ty #[cb, x']).run P w = .ok v' w' := by
  obtain ⟨_, _, _, _, _, _, _, hsl, h1s, _, _⟩ := elemD_spec hE
  have hzl : z.length = size := hsl.symm
  unfold appendD at h
  split at h
  · -- nothing is appended
    rename_i hm
    have hm := Nat.eq_of_beq_eq_true hm
    subst hm
    split at h
    · rename_i hle
      have hle := Nat.le_of_ble_eq_true hle
      simp only [Option.some.injEq, Prod.mk.injEq] at h
      obtain ⟨rfl, rfl⟩ := h
      have hxn : xs' = [] := by
        have := hxs.len
        rw [hlx] at this
        simp at this; exact this
      subst hxn
      refine ⟨β, cb, w, .refl hr, hcb, ?_⟩
      cases hcb with
      | slice0 => rw [append_fits hst hE hx (by omega)]; rfl
      | slice => rw [append_fits hst hE hx (by omega)]; rfl
      | sliceU h hl hn => rw [append_fits hst hE hx (by omega)]; rfl
      | sliceE a hc => rw [append_fits hst hE hx (by omega)]; rfl
    · cases h
  · rename_i hm
    have hm : 1 ≤ m := by
      rcases Nat.eq_zero_or_pos m with h | h
      · subst h; simp at hm
      · exact h
    split at h
    · cases h
    · rename_i hroom
      have hroom : len + m ≤ room := Nat.le_of_ble_eq_true hroom
      split at h
      · -- nil
        split at h
        · rename_i h1 h2
          have h1 := Nat.eq_of_beq_eq_true h1
          have h2 := Nat.eq_of_beq_eq_true h2
          subst h1; subst h2
          simp only [fNat_eq, Option.some.injEq, Prod.mk.injEq] at h
          obtain ⟨rfl, rfl⟩ := h
          have : cb = .slice none 0 0 := hcb.scalar_eq rfl
          subst this
          obtain ⟨newCap, hcap, hrun⟩ := append_grows (ty := ty) (base := none) (len := 0) (cap := 0) (old := []) hst hE hx hroom (by omega) rfl
          obtain ⟨y, y1, y2, y3, hext⟩ := new_ext (elem := elem) (fz := 0) (anc := none) (keep := []) (keep' := []) (len := 0) (m := m) hr (fun j h => by cases h) .nil hxs (by simp) hlx hzl hcap
          refine ⟨_, _, _, hext, ?_, hrun⟩
          have := VRel.newU (l := m) (sz := size) (addB_same (β := β) s.n y) y1 (by omega : m ≤ newCap) y3
          rw [y2] at this
          simpa using this
        · cases h
      · -- a slice
        rename_i b off
        simp only [fNat_eq] at h
        split at h
        · rename_i c e live anc fz hb
          split at h
          · rename_i he hle
            have he := Nat.eq_of_beq_eq_true he
            subst he
            have hle : off + len * size ≤ c.length := Nat.le_of_ble_eq_true hle
            have hkl : (slc c off (len * size)).length = len * size := by simp [slc]; omega
            obtain ⟨x0, cc, lo, hi, b1, b2, b3, b4, b5, b6⟩ := cells_inv (hr.blk _ _ hb)
            have hold : LR β (slc c off (len * size)) (slc cc.toList (x0.d + off) (len * size)) := by
              have := b5.slc off (len * size)
              rw [slc_slc _ _ _ _ _ hle] at this
              exact this
            have hload : (loadCells ⟨x0.b, x0.d + off, none⟩ (len * size)).run P w.drew = .ok ⟨slc cc.toList (x0.d + off) (len * size)⟩ w.drew :=
              loadCells_run (w := w.drew) b2 (by omega)
            split at h
            · -- the capacity is not known
              rename_i hcap
              have hcap : cap = big + size := Nat.eq_of_beq_eq_true hcap
              subst hcap
              split at h
              · rename_i s1 hfz hk
                have hfz : fz ≤ off + len * size := Nat.le_of_ble_eq_true hfz
                simp only [Option.some.injEq, Prod.mk.injEq] at h
                obtain ⟨rfl, rfl⟩ := h
                obtain ⟨hw, _, _, hn1, _⟩ := weaken_ext (k := off + len * size) hr hb hk
                have hsn : (s1.put b (.cells (c.take (off + len * size)) e false none fz)).n = s.n := hn1
                have grown : ∀ (a : Addr) (c' : Nat) (oldc : List Value), cb = .slice (some a) len c' → ¬ len + m ≤ c' → (loadCells a (len * size)).run P w.drew = .ok ⟨oldc⟩ w.drew →
                    LR β (slc c off (len * size)) oldc →
                    ∃ β' v' w', Ext P nC C β s w β' ((s1.put b (.cells (c.take (off + len * size)) e false none fz)).push (.cells (slc c off (len * size) ++ xs) e true (some b) (fz - off))) w' ∧
                      VRel β' (.slice (some ⟨s.n, 0, none⟩) (len + m) (big + size)) v' ∧ (Builtin.append_ #[st, xt] ty #[cb, x']).run P w = .ok v' w' := by
                  intro a c' oldc hcb' hno hl hlr
                  subst hcb'
                  obtain ⟨newCap, hcap, hrun⟩ := append_grows (ty := ty) (base := some a) (cap := c') (old := oldc) hst hE hx hroom hno hl
                  have hbs : b ≠ s.n := by have := hr.id_lt hb; omega
                  obtain ⟨y, y1, y2, y3, hext⟩ := new_ext (elem := e) (fz := fz - off) (anc := some b) (len := len) (m := m) hw.rel
                    (fun j hj => by cases hj; exact ⟨‹_›, by rw [hsn]; exact hbs, _, _, _, by rw [St.blk_put, if_pos rfl]⟩) hlr hxs hkl hlx hzl hcap
                  have hext := hw.trans hext
                  rw [hsn] at hext
                  refine ⟨_, _, _, hext, ?_, hrun⟩
                  have := VRel.newU (l := len + m) (sz := size) (addB_same (β := β) s.n y) y1 hcap y3
                  rw [y2] at this
                  exact this
                rcases hcb.slice_inv with ⟨y, hy, hc, hv⟩ | ⟨y, c', sz, hy, hc, hlc, hn, hv⟩ | ⟨a, h0, hc, hv⟩
                · omega
                · have : sz = size := by omega
                  subst this
                  rw [b1] at hy; cases hy
                  by_cases hfit : len + m ≤ c'
                  · subst hv
                    have e1 : len * sz + m * sz ≤ c' * sz := by rw [← Nat.add_mul]; exact Nat.mul_le_mul_right _ hfit
                    obtain ⟨cc2, q1, q2⟩ := storeCells_run (P := P) xs' w x0.b (x0.d + off + len * sz) 0 cc e lo hi b2 (by rw [hxs.len]; omega) hac
                      (fun j r1 r2 r3 => by rcases b6 rfl j r3.1 r3.2 with q | q <;> (have := hxs.len; omega))
                    simp only [Nat.add_zero] at q1 q2
                    have hext := inplace_ext hr hb hk b1 b2 hle hxs q1 (by omega)
                    refine ⟨_, .slice (some ⟨x0.b, x0.d + off, none⟩) (len + m) c', _, hext, ?_, ?_⟩
                    rotate_left
                    · rw [append_fits hst hE hx hfit]
                      simp only [add_eq]
                      rw [q2]; rfl
                    · have := VRel.sliceU (o := 0) (sz := sz) (addB_same (β := β) s.n ⟨x0.b, x0.d + off, x0.n⟩) hfit (by change x0.d + off + 0 + c' * sz ≤ x0.n; omega)
                      simp only [Nat.add_zero] at this
                      change VRel _ (.slice (some ⟨(s1.put b (.cells (c.take (off + len * sz)) e false none fz)).n, 0, none⟩) (len + m) (big + sz)) _
                      rw [hsn]
                      exact this
                  · have := grown _ _ _ hv hfit hload hold
                    change ∃ β' v' w', Ext P nC C β s w β' _ w' ∧ VRel β' (.slice (some ⟨(s1.put b (.cells (c.take (off + len * sz)) e false none fz)).n, 0, none⟩) (len + m) (big + sz)) v' ∧ _
                    rw [hsn]
                    exact this
                · subst h0
                  have := grown a 0 [] hv (by omega) (by rw [Nat.zero_mul]; rfl) (by
                    have : slc c off (0 * size) = [] := by simp [slc]
                    rw [this]; exact .nil)
                  change ∃ β' v' w', Ext P nC C β s w β' _ w' ∧ VRel β' (.slice (some ⟨(s1.put b (.cells (c.take (off + 0 * size)) e false none fz)).n, 0, none⟩) (0 + m) (big + size)) v' ∧ _
                  rw [hsn]
                  exact this
              · cases h
            · -- it is
              split at h
              · cases h
              · rename_i hbig
                have hbig : cap < big := by
                  rcases Nat.lt_or_ge cap big with h | h
                  · exact h
                  · rw [Nat.ble_eq_true_of_le h] at hbig; cases hbig
                split at h
                · -- it fits
                  rename_i hfit
                  have hfit : len + m ≤ cap := Nat.le_of_ble_eq_true hfit
                  split at h
                  · cases h
                  · rename_i s2 hst2
                    simp only [Option.some.injEq, Prod.mk.injEq] at h
                    obtain ⟨rfl, rfl⟩ := h
                    rcases hcb.slice_inv with ⟨y, hy, hc, hv⟩ | ⟨y, c', sz, hy, hc, _⟩ | ⟨a, h0, hc, _⟩
                    · rw [b1] at hy; cases hy
                      subst hv
                      obtain ⟨y, cc2, cc3, e2, lo2, hi2, q1, q2, q3, q4, q5⟩ := storeD_ext hr hst2 hxs
                      rw [b1] at q1; cases q1
                      refine ⟨β, _, _, q4, .slice b1 hbig, ?_⟩
                      rw [append_fits hst hE hx hfit]
                      simp only [add_eq]
                      rw [show x0.d + off + len * size = x0.d + (off + len * size) by omega]
                      change Result.andThen ((storeCells ⟨x0.b, x0.d + Nat.add off (Nat.mul len size), none⟩ xs').run P w) _ = _
                      rw [q5]; rfl
                    · omega
                    · omega
                · -- it grows
                  rename_i hfit
                  have hfit : ¬ len + m ≤ cap := by
                    intro hh; have h2 := Nat.ble_eq_true_of_le hh; change Nat.ble (len + m) cap = false at hfit; rw [h2] at hfit; cases hfit
                  simp only [Option.some.injEq, Prod.mk.injEq] at h
                  obtain ⟨rfl, rfl⟩ := h
                  have grown : ∀ (a : Addr) (oldc : List Value), cb = .slice (some a) len cap → (loadCells a (len * size)).run P w.drew = .ok ⟨oldc⟩ w.drew → LR β (slc c off (len * size)) oldc →
                      ∃ β' v' w', Ext P nC C β s w β' (s.push (.cells (slc c off (len * size) ++ xs) e true none 0)) w' ∧
                        VRel β' (.slice (some ⟨s.n, 0, none⟩) (len + m) (big + size)) v' ∧ (Builtin.append_ #[st, xt] ty #[cb, x']).run P w = .ok v' w' := by
                    intro a oldc hcb' hl hlr
                    subst hcb'
                    obtain ⟨newCap, hcap, hrun⟩ := append_grows (ty := ty) (base := some a) (cap := cap) (old := oldc) hst hE hx hroom hfit hl
                    obtain ⟨y, y1, y2, y3, hext⟩ := new_ext (elem := e) (fz := 0) (anc := none) (len := len) (m := m) hr (fun j h => by cases h) hlr hxs hkl hlx hzl hcap
                    refine ⟨_, _, _, hext, ?_, hrun⟩
                    have := VRel.newU (l := len + m) (sz := size) (addB_same (β := β) s.n y) y1 hcap y3
                    rw [y2] at this
                    exact this
                  rcases hcb.slice_inv with ⟨y, hy, hc, hv⟩ | ⟨y, c', sz, hy, hc, _⟩ | ⟨a, h0, hc, hv⟩
                  · rw [b1] at hy; cases hy
                    exact grown _ _ hv hload hold
                  · omega
                  · have hc0 : cap = 0 := by rcases hc with h | h <;> omega
                    subst h0; subst hc0
                    refine grown a [] hv (by rw [Nat.zero_mul]; rfl) ?_
                    have : slc c off (0 * size) = [] := by simp [slc]
                    rw [this]; exact .nil
          · cases h
        · cases h
      · cases h

end
end Go.Dv
end
section
/- Maps. -/
namespace Go.Dv
section
variable {P : Program} {nC : Nat} {C : Nat → Option Blk} {β : Bm} {s : St} {w : World}

theorem bytes_beq (a b : ByteArray) : (a == b) = (a.data.toList == b.data.toList) := by
  obtain ⟨⟨x⟩⟩ := a
  obtain ⟨⟨y⟩⟩ := b
  show ((⟨x⟩ : Array UInt8) == ⟨y⟩) = (x == y)
  simp

theorem bytes_beq_iff {a b : ByteArray} : (a.data.toList == b.data.toList) = true ↔ a = b := by
  constructor
  · intro h
    apply ByteArray.ext
    exact Array.ext' (by simpa using h)
  · intro h; subst h; simp

theorem keyEq_iff {kk : Kk} {a b : Value} (ha : kk.has a = true) (hb : kk.has b = true) : keyEq a b = true ↔ a = b := by
  cases kk <;> cases a <;> simp [Kk.has] at ha <;> cases b <;> simp [Kk.has] at hb
  · subst ha; subst hb; simp [keyEq]
  · simp only [keyEq, Value.string.injEq]
    exact bytes_beq_iff
  · simp [keyEq]

theorem has_inj {kk kk' : Kk} {a : Value} (h : kk.has a = true) (h' : kk'.has a = true) : kk = kk' := by
  cases kk <;> cases a <;> simp [Kk.has] at h <;> cases kk' <;> simp [Kk.has] at h' <;> simp_all

theorem has_scalar {kk : Kk} {a : Value} (h : kk.has a = true) : scalar a = true := by
  cases kk <;> cases a <;> simp [Kk.has] at h <;> rfl

theorem sameNow_key {d : TypeDesc} {kk : Kk} {a b : Value} (hd : kkOf (some d) = some kk) (ha : kk.has a = true) (hb : kk.has b = true) : Instr.sameNow d a b = some (keyEq a b) := by
  cases d <;> simp [kkOf] at hd <;> subst hd
  all_goals cases a <;> simp [Kk.has] at ha <;> cases b <;> simp [Kk.has] at hb
  · rfl
  · subst ha; subst hb; simp [Instr.sameNow, keyEq]
  · simp only [Instr.sameNow, keyEq, bytes_beq]

theorem findNow_spec {d : TypeDesc} {kk : Kk} {k : Value} (hd : kkOf (some d) = some kk) (hk : kk.has k = true) :
    ∀ (es : List MapEntry) (i : Nat), (∀ e ∈ es, kk.has e.key = true) →
      (Instr.findNow d k es i = some none ∧ ∀ e ∈ es, e.key ≠ k) ∨
      (∃ j e, Instr.findNow d k es i = some (some (i + j, e.val)) ∧ es[j]? = some e ∧ e.key = k) := by
  intro es
  induction es with
  | nil => intro i _; exact .inl ⟨rfl, fun e he => by cases he⟩
  | cons e es ih =>
    intro i h
    have he := h e (.head _)
    have hs := sameNow_key hd hk he
    simp only [Instr.findNow, hs]
    cases hq : keyEq k e.key with
    | true =>
      refine .inr ⟨0, e, by simp, rfl, ((keyEq_iff hk he).1 hq).symm⟩
    | false =>
      have hne : e.key ≠ k := fun hh => by rw [(keyEq_iff hk he).2 hh.symm] at hq; cases hq
      rcases ih (i + 1) (fun e' he' => h e' (.tail _ he')) with ⟨h1, h2⟩ | ⟨j, e', h1, h2, h3⟩
      · exact .inl ⟨h1, fun e' he' => by cases he' with | head => exact hne | tail _ he' => exact h2 e' he'⟩
      · exact .inr ⟨j + 1, e', by simp only [h1]; congr 3; omega, by simpa using h2, h3⟩

theorem findKey_run {t : TypeId} {d : TypeDesc} {kk : Kk} {k : Value} {es : List MapEntry} (ht : P.underlying t = some d) (hd : kkOf (some d) = some kk) (hk : kk.has k = true)
    (h : ∀ e ∈ es, kk.has e.key = true) :
    ((Instr.findKey t k es).run P w = .ok none w ∧ ∀ e ∈ es, e.key ≠ k) ∨
      (∃ j e, (Instr.findKey t k es).run P w = .ok (some (j, e.val)) w ∧ es[j]? = some e ∧ e.key = k) := by
  unfold Instr.findKey
  rcases findNow_spec hd hk es 0 h with ⟨h1, h2⟩ | ⟨j, e, h1, h2, h3⟩
  · exact .inl ⟨by simp [run_ud ht, h1], h2⟩
  · exact .inr ⟨j, e, by simp [run_ud ht, h1], h2, h3⟩

theorem checkKey_run {b : Bool} {t : TypeId} {d : TypeDesc} {kk : Kk} {k : Value} (ht : P.underlying t = some d) (hd : kkOf (some d) = some kk) (hk : kk.has k = true) :
    (Instr.checkKey b 10000 t k).run P w = .ok () w := by
  have : (10000 : Nat) = 9999 + 1 := rfl
  rw [this, Instr.checkKey]
  simp only [Sem.run_bind, run_ud ht, Result.andThen_ok]
  cases d <;> simp [kkOf] at hd <;> subst hd <;> cases k <;> simp [Kk.has] at hk <;> rfl

theorem mapFind_spec {kk : Kk} {k : Value} (hk : kk.has k = true) : ∀ {es : List (Value × Value)}, (∀ p ∈ es, kk.has p.1 = true) →
    (mapFind k es = none ∧ ∀ p ∈ es, p.1 ≠ k) ∨ (∃ v, mapFind k es = some v ∧ (k, v) ∈ es) := by
  intro es
  induction es with
  | nil => intro _; exact .inl ⟨rfl, fun p hp => by cases hp⟩
  | cons p es ih =>
    intro h
    obtain ⟨a, b⟩ := p
    have ha := h _ (.head _)
    simp only [mapFind]
    cases hq : keyEq k a with
    | true =>
      have := (keyEq_iff hk ha).1 hq
      subst this
      exact .inr ⟨b, rfl, .head _⟩
    | false =>
      have hne : a ≠ k := fun hh => by rw [(keyEq_iff hk ha).2 hh.symm] at hq; cases hq
      rcases ih (fun p hp => h p (.tail _ hp)) with ⟨h1, h2⟩ | ⟨v, h1, h2⟩
      · exact .inl ⟨h1, fun p hp => by cases hp with | head => exact hne | tail _ hp => exact h2 p hp⟩
      · exact .inr ⟨v, h1, .tail _ h2⟩

theorem mapSet_spec {kk : Kk} {k v : Value} (hk : kk.has k = true) : ∀ {es : List (Value × Value)}, (∀ p ∈ es, kk.has p.1 = true) → KDist es →
    (∀ p, p ∈ mapSet k v es ↔ p = (k, v) ∨ (p ∈ es ∧ p.1 ≠ k)) ∧ KDist (mapSet k v es) ∧ (mapSet k v es).length = (if (mapFind k es).isSome then es.length else es.length + 1) := by
  intro es
  induction es with
  | nil => intro _ _; exact ⟨fun p => by simp [mapSet], by simp [mapSet, KDist], rfl⟩
  | cons p es ih =>
    intro h hd
    obtain ⟨a, b⟩ := p
    have ha := h _ (.head _)
    obtain ⟨hd1, hd2⟩ := List.pairwise_cons.1 hd
    obtain ⟨i1, i2, i3⟩ := ih (fun p hp => h p (.tail _ hp)) hd2
    simp only [mapSet, mapFind]
    by_cases hq : keyEq k a = true
    · have := (keyEq_iff hk ha).1 hq
      subst this
      simp only [hq]
      refine ⟨fun p => ?_, List.pairwise_cons.2 ⟨fun q hq => hd1 q hq, hd2⟩, by simp⟩
      constructor
      · intro hp
        cases hp with
        | head => exact .inl rfl
        | tail _ hp => exact .inr ⟨.tail _ hp, fun hh => hd1 p hp hh.symm⟩
      · rintro (rfl | ⟨hp, hne⟩)
        · exact .head _
        · cases hp with
          | head => exact absurd rfl hne
          | tail _ hp => exact .tail _ hp
    · have hne : a ≠ k := fun hh => hq ((keyEq_iff hk ha).2 hh.symm)
      have hq : keyEq k a = false := by simpa using hq
      simp only [hq]
      refine ⟨fun p => ?_, List.pairwise_cons.2 ⟨fun q hq => ?_, i2⟩, ?_⟩
      · constructor
        · intro hp
          cases hp with
          | head => exact .inr ⟨.head _, hne⟩
          | tail _ hp =>
            rcases (i1 p).1 hp with rfl | ⟨q1, q2⟩
            · exact .inl rfl
            · exact .inr ⟨.tail _ q1, q2⟩
        · rintro (rfl | ⟨hp, hn⟩)
          · exact .tail _ ((i1 _).2 (.inl rfl))
          · cases hp with
            | head => exact .head _
            | tail _ hp => exact .tail _ ((i1 p).2 (.inr ⟨hp, hn⟩))
      · rcases (i1 q).1 hq with rfl | ⟨q1, _⟩
        · exact hne
        · exact hd1 q q1
      · simp only [List.length_cons, i3]
        split <;> rfl

theorem mapDel_spec {kk : Kk} {k : Value} (hk : kk.has k = true) : ∀ {es : List (Value × Value)}, (∀ p ∈ es, kk.has p.1 = true) → KDist es →
    (∀ p, p ∈ mapDel k es ↔ p ∈ es ∧ p.1 ≠ k) ∧ KDist (mapDel k es) ∧ (mapDel k es).length = (if (mapFind k es).isSome then es.length - 1 else es.length) := by
  intro es
  induction es with
  | nil => intro _ _; exact ⟨fun p => by simp [mapDel], by simp [mapDel, KDist], rfl⟩
  | cons p es ih =>
    intro h hd
    obtain ⟨a, b⟩ := p
    have ha := h _ (.head _)
    obtain ⟨hd1, hd2⟩ := List.pairwise_cons.1 hd
    obtain ⟨i1, i2, i3⟩ := ih (fun p hp => h p (.tail _ hp)) hd2
    simp only [mapDel, mapFind]
    by_cases hq : keyEq k a = true
    · have := (keyEq_iff hk ha).1 hq
      subst this
      simp only [hq]
      refine ⟨fun p => ?_, hd2, by simp⟩
      constructor
      · intro hp; exact ⟨.tail _ hp, fun hh => hd1 p hp hh.symm⟩
      · rintro ⟨hp, hne⟩
        cases hp with
        | head => exact absurd rfl hne
        | tail _ hp => exact hp
    · have hne : a ≠ k := fun hh => hq ((keyEq_iff hk ha).2 hh.symm)
      have hq : keyEq k a = false := by simpa using hq
      simp only [hq]
      refine ⟨fun p => ?_, List.pairwise_cons.2 ⟨fun q hq => hd1 q ((i1 q).1 hq).1, i2⟩, ?_⟩
      · constructor
        · intro hp
          cases hp with
          | head => exact ⟨.head _, hne⟩
          | tail _ hp => exact ⟨.tail _ ((i1 p).1 hp).1, ((i1 p).1 hp).2⟩
        · rintro ⟨hp, hn⟩
          cases hp with
          | head => exact .head _
          | tail _ hp => exact .tail _ ((i1 p).2 ⟨hp, hn⟩)
      · simp only [List.length_cons, i3]
        split
        · rename_i hs
          rcases mapFind_spec hk (fun p hp => h p (.tail _ hp)) with ⟨h1, _⟩ | ⟨v, h1, h2⟩
          · rw [h1] at hs; cases hs
          · have : 1 ≤ es.length := by cases es with | nil => cases h2 | cons => simp
            omega
        · rfl

/- the same of the model's entries -/
theorem mem_modify {es : List MapEntry} {j : Nat} {e : MapEntry} {f : MapEntry → MapEntry} (hj : es[j]? = some e) (hd : CDist es) :
    ∀ x, x ∈ es.modify j f ↔ x = f e ∨ (x ∈ es ∧ x.key ≠ e.key) := by
  induction es generalizing j with
  | nil => simp at hj
  | cons a es ih =>
    obtain ⟨hd1, hd2⟩ := List.pairwise_cons.1 hd
    intro x
    cases j with
    | zero =>
      simp at hj; subst hj
      simp only [List.modify_zero_cons, List.mem_cons]
      constructor
      · rintro (h | h)
        · exact .inl h
        · exact .inr ⟨.inr h, fun hh => hd1 x h hh.symm⟩
      · rintro (h | ⟨h | h, hn⟩)
        · exact .inl h
        · subst h; exact absurd rfl hn
        · exact .inr h
    | succ j =>
      have hj' : es[j]? = some e := by simpa using hj
      simp only [List.modify_succ_cons, List.mem_cons, ih hj' hd2]
      have hmem := List.mem_of_getElem? hj'
      constructor
      · rintro (h | h | ⟨h, hn⟩)
        · subst h; exact .inr ⟨.inl rfl, hd1 e hmem⟩
        · exact .inl h
        · exact .inr ⟨.inr h, hn⟩
      · rintro (h | ⟨h | h, hn⟩)
        · exact .inr (.inl h)
        · exact .inl h
        · exact .inr (.inr ⟨h, hn⟩)

theorem cdist_modify {es : List MapEntry} {j : Nat} {f : MapEntry → MapEntry} (hf : ∀ e, (f e).key = e.key) (hd : CDist es) : CDist (es.modify j f) := by
  induction es generalizing j with
  | nil => simp [CDist]
  | cons a es ih =>
    obtain ⟨hd1, hd2⟩ := List.pairwise_cons.1 hd
    cases j with
    | zero =>
      simp only [List.modify_zero_cons]
      exact List.pairwise_cons.2 ⟨fun x hx => by rw [hf]; exact hd1 x hx, hd2⟩
    | succ j =>
      simp only [List.modify_succ_cons]
      refine List.pairwise_cons.2 ⟨fun x hx => ?_, ih hd2⟩
      have : ∃ y ∈ es, x.key = y.key := by
        clear hd hd1 hd2 ih
        induction es generalizing j with
        | nil => simp at hx
        | cons b es ih2 =>
          cases j with
          | zero =>
            simp only [List.modify_zero_cons, List.mem_cons] at hx
            rcases hx with h | h
            · exact ⟨b, .head _, by rw [h, hf]⟩
            · exact ⟨x, .tail _ h, rfl⟩
          | succ j =>
            simp only [List.modify_succ_cons, List.mem_cons] at hx
            rcases hx with h | h
            · exact ⟨b, .head _, by rw [h]⟩
            · obtain ⟨y, hy, he⟩ := ih2 (j := j) h; exact ⟨y, .tail _ hy, he⟩
      obtain ⟨y, hy, he⟩ := this
      rw [he]; exact hd1 y hy

theorem MRel.ckeys {kk : Kk} {es : List (Value × Value)} {ces : List MapEntry} (h : MRel β kk es ces) : ∀ e ∈ ces, kk.has e.key = true := by
  intro e he
  obtain ⟨p, hp, hk, _⟩ := h.bwd e he
  rw [← hk]; exact h.keys p hp

theorem MRel.find {kk : Kk} {es : List (Value × Value)} {ces : List MapEntry} {k : Value} (h : MRel β kk es ces) (hk : kk.has k = true) :
    (mapFind k es = none ↔ ∀ e ∈ ces, e.key ≠ k) ∧ ∀ v e, mapFind k es = some v → e ∈ ces → e.key = k → VRel β v e.val := by
  have hs := mapFind_spec hk h.keys
  refine ⟨⟨fun hn e he hek => ?_, fun hn => ?_⟩, fun v e hv he hek => ?_⟩
  · rcases hs with ⟨_, h2⟩ | ⟨v, h1, _⟩
    · obtain ⟨p, hp, hpk, _⟩ := h.bwd e he
      exact h2 p hp (hpk.trans hek)
    · rw [h1] at hn; cases hn
  · rcases hs with ⟨h1, _⟩ | ⟨v, h1, h2⟩
    · exact h1
    · obtain ⟨e, he, hek, _⟩ := h.fwd _ h2
      exact absurd hek (hn e he)
  · rcases hs with ⟨h1, _⟩ | ⟨v', h1, h2⟩
    · rw [h1] at hv; cases hv
    · rw [h1] at hv; cases hv
      obtain ⟨p, hp, hpk, hr⟩ := h.bwd e he
      have : p = (k, v) := by
        -- two entries of one key are one
        have hd := h.dist
        have : ∀ {l : List (Value × Value)}, KDist l → ∀ a b, a ∈ l → b ∈ l → a.1 = b.1 → a = b := by
          intro l
          induction l with
          | nil => intro _ a b ha; cases ha
          | cons c l ih =>
            intro hd a b ha hb hab
            obtain ⟨q1, q2⟩ := List.pairwise_cons.1 hd
            cases ha with
            | head => cases hb with
              | head => rfl
              | tail _ hb => exact absurd hab (q1 b hb)
            | tail _ ha => cases hb with
              | head => exact absurd hab.symm (q1 a ha)
              | tail _ hb => exact ih q2 a b ha hb hab
        exact this hd p (k, v) hp h2 (hpk.trans hek)
      rw [this] at hr; exact hr

end
end Go.Dv
end
