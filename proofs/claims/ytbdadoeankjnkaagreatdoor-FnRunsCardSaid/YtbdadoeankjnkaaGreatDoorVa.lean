/- A part of the proof. No statement of the claim is in it. -/
import Derived.Calls
import Derived.Orders
import Derived.Laws.Sem
import Derived.Laws.Cells
import Derived.Laws.IdiomCopy
import GoSem.Dispatch
import Derived.Laws.Strings
import Derived.Laws.StructEq
import Derived.IntWalk
set_option linter.all false
set_option linter.deprecated false
/- A pure interpreter of the model's code over trees (T) and a small store of mutable things (V): its definitions. -/
namespace Go.V

/-- Loc-free trees. 'list': a slice that no one writes, its rows inline, each row an 'agg' of its cells. 'snap': a pointer to cells that no one writes. -/
inductive T where
 | undef
 | bool (b : Bool)
 | int (k : IntKind) (n : Int)
 | str (s : List Nat)
 | nilp | nils | nilm | nilf
 | agg (cs : List T)
 | tup (vs : List T)
 | list (rows : List T)
 | snap (cells : List T)

inductive V where
 | t (x : T)
 | sl (loc gen off len k : Nat)
 | ptr (loc gen off ext : Nat)
 | mp (loc : Nat)
 | fn (f : FuncId) (caps : List V)
 | agg (cs : List V)
 | tup (vs : List V)
 | bm (f : FuncId) (first : List V)

inductive Obj where
 | cells (cs : List V) (gen wgen : Nat)
 | map (es : List (T × V))

abbrev Store := List Obj

def bytes (s : ByteArray) : List Nat := s.data.toList.map UInt8.toNat

def sc : Value → Option T
 | .bool b => some (.bool b)
 | .int k n => some (.int k n)
 | .string s => some (.str (bytes s))
 | .pointer none => some .nilp
 | .slice none 0 0 => some .nils
 | .map none => some .nilm
 | .nilFunc => some .nilf
 | _ => none

def scs : List Value → Option (List T)
 | [] => some []
 | v :: r => match sc v, scs r with
  | some x, some xs => some (x :: xs)
  | _, _ => none

def quw : Value → Option T
 | .agg cs => (scs cs.toList).map .agg
 | .tuple cs => (scs cs.toList).map .tup
 | v => sc v

def allT : List V → Option (List T)
 | [] => some []
 | .t x :: r => match allT r with
  | some xs => some (x :: xs)
  | none => none
 | _ :: _ => none

def qcc (vs : List V) : V := match allT vs with
 | some ts => .t (.agg ts)
 | none => .agg vs

def qjh (vs : List V) : V := match allT vs with
 | some ts => .t (.tup ts)
 | none => .tup vs

/-- The cells that a value takes in memory. -/
def cellsOf : V → Option (List V)
 | .t (.agg cs) => some (cs.map .t)
 | .t .undef => none
 | .t (.tup _) => none
 | .agg cs => some cs
 | .tup _ => none
 | v => some [v]

/-! ### Types -/
inductive Shape where
 | int (k : IntKind) | bool | str
 | slice (elem : TypeId)
 | struct (fields : List (Nat × TypeId))
 | ptr (elem : TypeId)
 | map (key elem : TypeId)
 | array (n : Nat) (elem : TypeId)
 | other

structure TI where
 agg : Bool
 size : Nat
 bytes : Nat
 zero : Option T
 shape : Shape
 /-- a struct whose fields are numbers, strings, bools: it may be compared -/
 eqs : Bool

def shapeOf : TypeDesc → Shape
 | .int k => .int k
 | .bool => .bool
 | .string => .str
 | .slice e => .slice e
 | .struct fs => .struct (fs.toList.map fun f => (f.offset, f.type))
 | .pointer e => .ptr e
 | .map k e => .map k e
 | .array n e => .array n e
 | _ => .other

def qsg : TypeDesc → Bool
 | .struct _ => true
 | .array _ _ => true
 | _ => false

def qla (P : Program) (t : TypeId) : Bool := match P.underlying t with
 | some (.int _) => true
 | some .bool => true
 | some .string => true
 | _ => false

def eqsOf (P : Program) (t : TypeId) : TypeDesc → Bool
 | .struct fs => !P.stoodInHeld t && !P.eqGuardType P.depth t && fs.toList.all fun f => f.name != "_" && qla P f.type
 | _ => false

def tiOf (P : Program) (t : TypeId) : Option TI :=
 match P.info? t, P.underlying t with
 | some i, some d => some { agg := qsg d, size := i.size, bytes := i.bytes, zero := i.zero.bind quw, shape := shapeOf d, eqs := eqsOf P t d }
 | _, _ => none

/-! ### Frames -/
abbrev Env := List (Nat × V)

def Env.find : Env → Nat → Option V
 | [], _ => none
 | (s, v) :: r, t => if s = t then some v else Env.find r t

def Env.put : Env → Nat → V → Env
 | [], t, v => [(t, v)]
 | (s, u) :: r, t, v => if t < s then (t, v) :: (s, u) :: r else if t = s then (t, v) :: r else (s, u) :: Env.put r t v

def Env.drop : Env → List Nat → Env
 | [], _ => []
 | (s, u) :: r, ks => if ks.contains s then Env.drop r ks else (s, u) :: Env.drop r ks

structure St where
 vars : Env
 scr : Env

def St.get (st : St) (t : Nat) : V := match st.scr.find t with
 | some v => v
 | none => match st.vars.find t with
  | some v => v
  | none => .t .undef

structure Ann where
 vars : List Nat
 kills : List (Nat × List Nat)
 owned : List (Nat × Nat)
 isPure : Bool
 /-- called with its arguments as they stand (frozen for the call); what it gives is new and points to nothing old -/
 isFresh : Bool := false
 /-- regions whose order is open, whose loads are looked at again -/
 dyn : List Nat := []
 /-- regions that are not taken -/
 bad : List Nat := []
 /-- regions whose order is open, whose allocs may come ahead of a writer that stands ahead of them in the text -/
 pend : List Nat := []

def St.put (A : Ann) (st : St) (t : Nat) (v : V) : St :=
 if A.vars.contains t then { st with vars := st.vars.put t v } else { st with scr := (t, v) :: st.scr }

def St.putO (A : Ann) (st : St) (dst : Option Nat) (v : V) : St := match dst with
 | some t => st.put A t v
 | none => st

def St.eval (st : St) : Operand → V
 | .tmp t => st.get t
 | .const v => match quw v with
  | some x => .t x
  | none => .t .undef
 | .global _ => .t .undef
 | .func f => .fn f []

/-! ### Operations -/
def qdn : List Nat → List Nat → Bool
 | _, [] => false
 | [], _ :: _ => true
 | a :: x, b :: y => Nat.blt a b || (Nat.beq a b && qdn x y)

def eqL : List Nat → List Nat → Bool
 | [], [] => true
 | a :: x, b :: y => Nat.beq a b && eqL x y
 | _, _ => false

def qfw (op : BinOp) (a b : List Nat) : Option T :=
 match op with
 | .add => if a.length + b.length ≤ 9223372036854775807 then some (.str (a ++ b)) else none
 | .eql => some (.bool (eqL a b))
 | .neq => some (.bool (!eqL a b))
 | .lss => some (.bool (qdn a b))
 | .leq => some (.bool (qdn a b || eqL a b))
 | .gtr => some (.bool (!(qdn a b || eqL a b)))
 | .geq => some (.bool (!qdn a b))
 | _ => none

def qfa (op : BinOp) (k : IntKind) (x y : Int) : Option T :=
 match op with
 | .add => some (.int k (k.wrap (x + y)))
 | .sub => some (.int k (k.wrap (x - y)))
 | .mul => some (.int k (k.wrap (x * y)))
 | .quo => if y = 0 then none else some (.int k (k.wrap (x.tdiv y)))
 | .rem => if y = 0 then none else some (.int k (x.tmod y))
 | .and => some (.int k (k.wrap (BitVec.ofInt k.bits x &&& BitVec.ofInt k.bits y).toNat))
 | .or => some (.int k (k.wrap (BitVec.ofInt k.bits x ||| BitVec.ofInt k.bits y).toNat))
 | .xor => some (.int k (k.wrap (BitVec.ofInt k.bits x ^^^ BitVec.ofInt k.bits y).toNat))
 | .eql => some (.bool (x == y))
 | .neq => some (.bool (x != y))
 | .lss => some (.bool (x < y))
 | .leq => some (.bool (x ≤ y))
 | .gtr => some (.bool (x > y))
 | .geq => some (.bool (x ≥ y))
 | _ => none

/-- Whether two scalars of a shape are the same; none where they are not of it. -/
def qex : Shape → T → T → Option Bool
 | .int _, .int j a, .int k b => if j = k then some (a == b) else none
 | .str, .str a, .str b => some (eqL a b)
 | .bool, .bool a, .bool b => some (a == b)
 | _, _, _ => none

def eqFields (ty : TypeId → Option TI) (xs ys : List T) : List (Nat × TypeId) → Option Bool
 | [] => some true
 | (off, t) :: r => match ty t, xs[off]?, ys[off]? with
  | some i, some a, some b => match qex i.shape a b with
   | some true => eqFields ty xs ys r
   | some false => some false
   | none => none
  | _, _, _ => none

def isNil : V → Option Bool
 | .t .nils => some true
 | .t (.list _) => some false
 | .sl .. => some false
 | _ => none

def eqOp (ty : TypeId → Option TI) (t : TypeId) (x y : V) : Option Bool :=
 match ty t with
 | none => none
 | some t => match t.shape, x, y with
  | .bool, .t (.bool a), .t (.bool b) => some (a == b)
  | .struct fs, .t (.agg xs), .t (.agg ys) => if t.eqs then eqFields ty xs ys fs else none
  | .slice _, .t .nils, y => isNil y
  | .slice _, x, .t .nils => isNil x
  | _, _, _ => none

def binV (ty : TypeId → Option TI) (op : BinOp) (t : TypeId) (x y : V) : Option T :=
 match op, x, y with
 | .shl, .t (.int k a), .t (.int _ b) => if b < 0 then none else some (.int k (k.wrap (a * 2 ^ (min b.toNat k.bits))))
 | .shr, .t (.int k a), .t (.int _ b) => if b < 0 then none else some (.int k (a.fdiv (2 ^ (min b.toNat k.bits))))
 | op, .t (.int k a), .t (.int k' b) => if k = k' then qfa op k a b else none
 | op, .t (.str a), .t (.str b) => qfw op a b
 | .eql, x, y => (eqOp ty t x y).map .bool
 | .neq, x, y => (eqOp ty t x y).map fun b => .bool (!b)
 | _, _, _ => none

def unV (op : UnOp) (x : V) : Option T :=
 match op, x with
 | .not, .t (.bool b) => some (.bool !b)
 | .neg, .t (.int k n) => some (.int k (k.wrap (0 - n)))
 | _, _ => none

/-- Rows of k cells. -/
def chunk (k : Nat) : Nat → List T → List T
 | 0, _ => []
 | n + 1, ts => .agg (ts.take k) :: chunk k n (ts.drop k)

def frzs (f : V → Option T) : List V → Option (List T)
 | [] => some []
 | v :: r => match f v, frzs f r with
  | some x, some xs => some (x :: xs)
  | _, _ => none

def frz : Nat → Store → V → Option T
 | 0, _, _ => none
 | d + 1, σ, v => match v with
  | .t x => some x
  | .sl loc g off len k => match σ[loc]? with
   | some (.cells cs gen wgen) =>
    if wgen ≤ g ∧ g ≤ gen ∧ 0 < k ∧ off + len * k ≤ cs.length then
     (frzs (frz d σ) ((cs.drop off).take (len * k))).map fun ts => .list (chunk k len ts)
    else none
   | _ => none
  | .agg cs => (frzs (frz d σ) cs).map .agg
  | .tup cs => (frzs (frz d σ) cs).map .tup
  | _ => none

/-- The cells of all rows of a slice, k a row; none where it is none, or a row has another number. -/
def qag (k : Nat) : List T → Option (List V)
 | [] => some []
 | .agg cs :: r => if cs.length = k then (qag k r).map (cs.map V.t ++ ·) else none
 | _ :: _ => none

def qaf (σ : Store) (k : Nat) : V → Option (Nat × List V)
 | .t (.list rows) => (qag k rows).map fun cs => (rows.length, cs)
 | .t .nils => some (0, [])
 | .t (.str s) => if k = 1 then some (s.length, s.map fun (b : Nat) => V.t (.int .u8 b)) else none
 | .sl loc g off len k' => match σ[loc]? with
  | some (.cells cs gen wgen) =>
   if wgen ≤ g ∧ g ≤ gen ∧ k' = k ∧ off + len * k ≤ cs.length then some (len, (cs.drop off).take (len * k)) else none
  | _ => none
 | _ => none

def zeroCells (t : TI) : Option (List V) := match t.zero with
 | some x => cellsOf (.t x)
 | none => none

def qab (z : List V) : Nat → List V
 | 0 => []
 | n + 1 => z ++ qab z n

def qap (ty : TypeId → Option TI) (σ : Store) (argTypes : List TypeId) (s x : V) : Option (V × Store) :=
 match argTypes with
 | [st, xt] => match ty st, ty xt with
  | some st, some xt => match st.shape, (match xt.shape with | .slice _ => true | .str => true | _ => false) with
   | .slice e, true => match ty e with
    | some te => match qaf σ te.size x, zeroCells te with
     | some (n, cs), some z =>
      if te.size = 0 ∨ te.bytes = 0 ∨ z.length ≠ te.size then none else
      if n = 0 then (match s with
       | .t (.list _) | .t .nils | .sl .. => some (s, σ)
       | _ => none) else
      match s with
      | .t .nils => if n * te.bytes ≤ 140737488355328 then some (.sl σ.length 0 0 n te.size, σ ++ [.cells cs 0 0]) else none
      | .sl loc g off len k => match σ[loc]? with
       | some (.cells old gen wgen) =>
        if g = gen ∧ off = 0 ∧ k = te.size ∧ len * k = old.length ∧ (len + n) * te.bytes ≤ 140737488355328 then
         some (.sl loc (gen + 1) 0 (len + n) k, σ.set loc (.cells (old ++ cs) (gen + 1) wgen))
        else if g = gen ∧ off = 0 ∧ k = te.size ∧ len * k < old.length ∧ (len + n) * te.bytes ≤ 140737488355328 then
         some (.sl loc (gen + 1) 0 (len + n) k, σ.set loc (.cells (old.take (len * k) ++ cs) (gen + 1) (gen + 1)))
        else none
       | _ => none
      | _ => none
     | _, _ => none
    | none => none
   | .slice e, false => match s, x with
    | .t .nils, .t (.int .i64 m) => match ty e, xt.shape with
     | some te, .int _ => match zeroCells te with
      | some z =>
       if te.size = 0 ∨ te.bytes = 0 ∨ z.length ≠ te.size then none else
       if 0 < m ∧ m.toNat * te.bytes ≤ 140737488355328 then some (.sl σ.length 0 0 m.toNat te.size, σ ++ [.cells (qab z m.toNat) 0 0]) else none
      | none => none
     | _, _ => none
    | _, _ => none
   | _, _ => none
  | _, _ => none
 | _ => none

def lenV (σ : Store) (s : Shape) (x : V) : Option Int :=
 match s, x with
 | .str, .t (.str s) => some s.length
 | .slice _, .t (.list rows) => some rows.length
 | .slice _, .t .nils => some 0
 | .slice _, .sl _ _ _ len _ => some len
 | .map _ _, .t .nilm => some 0
 | .map _ _, .mp loc => match σ[loc]? with
  | some (.map es) => some es.length
  | _ => none
 | _, _ => none

def qei : V → Option (List V)
 | .t (.agg cs) => some (cs.map .t)
 | .agg cs => some cs
 | _ => none

def minV : List V → Option T
 | [.t (.int k a), .t (.int k' b)] => if k = k' then some (.int k (if b < a then b else a)) else none
 | _ => none

def maxV : List V → Option T
 | [.t (.int k a), .t (.int k' b)] => if k = k' then some (.int k (if b > a then b else a)) else none
 | _ => none

def qac (cs : List V) (off : Nat) : List V → List V
 | [] => cs
 | v :: r => qac (cs.set off v) (off + 1) r

def qbx (σ : Store) (t : TI) : V → Option V
 | .ptr loc g off ext => match σ[loc]? with
  | some (.cells cs gen wgen) =>
   if wgen ≤ g ∧ g ≤ gen ∧ t.size ≤ ext ∧ off + t.size ≤ cs.length then
    if t.agg then some (qcc ((cs.drop off).take t.size))
    else if t.size = 1 then cs[off]? else none
   else none
  | _ => none
 | .t (.snap cells) =>
  if t.size ≤ cells.length then
   if t.agg then some (.t (.agg (cells.take t.size))) else if t.size = 1 then (cells[0]?).map .t else none
  else none
 | _ => none

def qoa (σ : Store) (t : TI) (a v : V) : Option Store :=
 match a with
 | .ptr loc g off ext => match σ[loc]?, cellsOf v with
  | some (.cells cs gen _), some vs =>
   if g = gen ∧ t.size ≤ ext ∧ off + t.size ≤ cs.length ∧ vs.length = t.size ∧ 0 < t.size then
    some (σ.set loc (.cells (qac cs off vs) gen gen))
   else none
  | _, _ => none
 | _ => none

/-- The rows of a slice are zero. -/
def qrr (σ : Store) (te : TI) (x : V) : Option Store := match x with
 | .t .nils => some σ
 | .sl loc g off len k => if len = 0 then some σ else match σ[loc]?, zeroCells te with
  | some (.cells cs gen _), some z =>
   if g = gen ∧ k = te.size ∧ z.length = k ∧ 0 < k ∧ off + len * k ≤ cs.length then some (σ.set loc (.cells (qac cs off (qab z len)) gen gen)) else none
  | _, _ => none
 | _ => none

def qfr (ty : TypeId → Option TI) (t : TypeId) (i : Nat) : Option (Nat × TI) :=
 match ty t with
 | some { shape := .struct fs, .. } => match fs[i]? with
  | some (off, ft) => (ty ft).map fun x => (off, x)
  | none => none
 | _ => none

def qnq (cs : List V) (off : Nat) (t : TI) : Option V :=
 if off + t.size ≤ cs.length then
  if t.agg then some (qcc ((cs.drop off).take t.size)) else cs[off]?
 else none

def qao (fs : List (Nat × Nat)) (cells : List V) : List (Nat × V) → Option (List V)
 | [] => some cells
 | (i, v) :: rest => match fs[i]?, cellsOf v with
  | some (off, size), some vs =>
   if vs.length = size ∧ off + size ≤ cells.length then qao fs (qac cells off vs) rest else none
  | _, _ => none

def qar (ty : TypeId → Option TI) : List (Nat × TypeId) → Option (List (Nat × Nat))
 | [] => some []
 | (off, t) :: r => match ty t, qar ty r with
  | some x, some xs => some ((off, x.size) :: xs)
  | _, _ => none

def qbz (ty : TypeId → Option TI) (t : TypeId) (parts : List (Nat × V)) : Option V :=
 match ty t with
 | some i => match i.shape with
  | .struct fs => match qar ty fs, zeroCells i with
   | some sz, some z => (qao sz z parts).map qcc
   | _, _ => none
  | _ => none
 | none => none

/-- The cells of a slice literal. -/
def qaa (ty : TypeId → Option TI) (t : TypeId) (len : Nat) (parts : List (Nat × V)) : Option (Nat × List V) :=
 match ty t with
 | some i => match i.shape with
  | .slice e => match ty e with
   | some x =>
    if x.size = 0 ∨ 16777216 < len * x.size then none else
    if len = 0 then (if parts.isEmpty then some (x.size, []) else none) else
    match zeroCells x with
    | some z => if z.length = x.size then
      (qao ((List.range len).map fun i => (i * x.size, x.size)) (qab z len) parts).map fun cs => (x.size, cs)
     else none
    | none => none
   | none => none
  | _ => none
 | none => none

def findKey (s : Shape) (k : T) : List (T × V) → Option (Option V)
 | [] => some none
 | (k', v) :: r => match qex s k k' with
  | some true => some (some v)
  | some false => findKey s k r
  | none => none

def qfp (s : Shape) (k : T) (v : V) : List (T × V) → Option (List (T × V))
 | [] => some [(k, v)]
 | (k', u) :: r => match qex s k k' with
  | some true => some ((k, v) :: r)
  | some false => (qfp s k v r).map ((k', u) :: ·)
  | none => none

/-- Whether a value may be a map's key of this shape. -/
def qjs : Shape → T → Bool
 | .int _, .int _ _ => true
 | .str, .str _ => true
 | .bool, .bool _ => true
 | _, _ => false

def idxV (k : Nat) (x : V) (i : Int) : Option V :=
 match x with
 | .t (.list rows) => if 0 ≤ i then (match rows[i.toNat]? with
   | some (.agg cs) => if cs.length = k then some (.t (.snap cs)) else none
   | _ => none) else none
 | .sl loc g off len k' => if 0 ≤ i ∧ i < len ∧ k' = k then some (.ptr loc g (off + i.toNat * k) k) else none
 | _ => none

def bound (d : Int) : Option V → Option Int
 | none => some d
 | some (.t (.int _ i)) => some i
 | _ => none

def qez (x : V) (lo hi : Option V) : Option V :=
 match x with
 | .t (.str s) => match bound 0 lo, bound s.length hi with
  | some l, some h => if 0 ≤ l ∧ l ≤ h ∧ h ≤ s.length then some (.t (.str ((s.take h.toNat).drop l.toNat))) else none
  | _, _ => none
 | .t (.list rows) => match bound 0 lo, bound rows.length hi with
  | some l, some h => if 0 ≤ l ∧ l ≤ h ∧ h ≤ rows.length then some (.t (.list ((rows.take h.toNat).drop l.toNat))) else none
  | _, _ => none
 | .t .nils => match bound 0 lo, bound 0 hi with
  | some l, some h => if l = 0 ∧ h = 0 then some (.t .nils) else none
  | _, _ => none
 | .sl loc g off len k => match bound 0 lo, bound len hi with
  | some l, some h => if 0 ≤ l ∧ l ≤ h ∧ h ≤ len then some (.sl loc g (off + l.toNat * k) (h.toNat - l.toNat) k) else none
  | _, _ => none
 | _ => none

/-- Whether a slice has rows of k cells (its first row is looked at). -/
def qvc (k : Nat) : V → Bool
 | .t (.list []) => true
 | .t (.list (.agg cs :: _)) => cs.length == k
 | .t .nils => true
 | .sl _ _ _ _ k' => k' == k
 | _ => false

def isStr : V → Bool
 | .t (.str _) => true
 | _ => false

def qfq : List V → Option (List Nat)
 | [] => some []
 | .t (.int .u8 n) :: r => (qfq r).map ((n.toNat % 256) :: ·)
 | _ => none

def qkl (ty : TypeId → Option TI) (σ : Store) (src dst : TypeId) (x : V) : Option (V × Store) :=
 match ty src, ty dst with
 | some s, some d => match s.shape, d.shape, x with
  | .int _, .int k, .t (.int _ n) => some (.t (.int k (k.wrap n)), σ)
  | .str, .str, .t (.str l) => some (.t (.str l), σ)
  | .str, .slice e, .t (.str l) => match ty e with
   | some { shape := .int .u8, size := 1, .. } => if Nat.ble l.length 9223372036854775807 = false then none else some (.sl σ.length 1 0 l.length 1, σ ++ [.cells (l.map fun (b : Nat) => V.t (.int .u8 b)) 1 1])
   | _ => none
  | .slice e, .str, x => if isStr x then none else match ty e with
   | some { shape := .int .u8, size := 1, .. } => match qaf σ 1 x with
    | some (_, cs) => (qfq cs).map fun l => (.t (.str l), σ)
    | none => none
   | _ => none
  | _, _, _ => none
 | _, _ => none

/-- An operation that is no call of a function. 'owned': a slice literal that may be written or appended to. -/
def qae (ty : TypeId → Option TI) (owned : Bool) (ρ : Operand → V) (σ : Store) (op : Op) : Option (V × Store) :=
 match op with
 | .move x | .assign x => some (ρ x, σ)
 | .pick c a b => match ρ c with
  | .t (.bool true) => some (ρ a, σ)
  | .t (.bool false) => some (ρ b, σ)
  | _ => none
 | .alloc e => match ty e with
  | some i => match zeroCells i with
   | some z => some (.ptr σ.length 0 0 z.length, σ ++ [.cells z 0 0])
   | none => none
  | none => none
 | .box _ x => match cellsOf (ρ x) with
  | some cs => some (.ptr σ.length 0 0 cs.length, σ ++ [.cells cs 0 0])
  | none => none
 | .build t parts => (qbz ty t (parts.toList.map fun p => (p.1, ρ p.2))).map fun v => (v, σ)
 | .buildSlice t len parts => match qaa ty t len (parts.toList.map fun p => (p.1, ρ p.2)) with
  | some (k, cs) =>
   if owned then some (.sl σ.length 0 0 len k, σ ++ [.cells cs 0 0])
   else match allT cs with
    | some ts => some (.t (.list (chunk k len ts)), σ)
    | none => some (.sl σ.length 0 0 len k, σ ++ [.cells cs 0 0])
  | none => none
 | .load t a => match ty t with
  | some i => (qbx σ i (ρ a)).map fun v => (v, σ)
  | none => none
 | .store t a x => match ty t with
  | some i => (qoa σ i (ρ a) (ρ x)).map fun σ' => (.t .undef, σ')
  | none => none
 | .nilCheck x => match ρ x with
  | .ptr l g o e => some (.ptr l g o e, σ)
  | .t (.snap cs) => some (.t (.snap cs), σ)
  | .fn f cs => some (.fn f cs, σ)
  | _ => none
 | .binOp op t x y _ => (binV ty op t (ρ x) (ρ y)).map fun v => (.t v, σ)
 | .unOp op _ x => (unV op (ρ x)).map fun v => (.t v, σ)
 | .convert s d x => qkl ty σ s d (ρ x)
 | .makeFunc (.func f) first caps => if first.isEmpty then some (.fn f (caps.toList.map ρ), σ) else if caps.isEmpty then some (.bm f (first.toList.map ρ), σ) else none
 | .makeMap _ none => some (.mp σ.length, σ ++ [.map []])
 | .makeSlice t l c => match ty t, ρ l, ρ c with
  | some { shape := .slice e, .. }, .t (.int .i64 l), .t (.int .i64 c) => match ty e with
   | some x => match zeroCells x with
    | some z => if 0 ≤ l ∧ l = c ∧ l * x.bytes ≤ 140737488355328 ∧ 0 < x.size ∧ 0 < x.bytes ∧ z.length = x.size then
      (match owned, allT (qab z l.toNat) with
       | true, some ts => some (.t (.list (chunk x.size l.toNat ts)), σ)
       | _, _ => some (.sl σ.length 0 0 l.toNat x.size, σ ++ [.cells (qab z l.toNat) 0 0])) else none
    | none => none
   | none => none
  | _, _, _ => none
 | .slice t x lo hi none => match ty t with
  | some { shape := .str, .. } => if isStr (ρ x) then (qez (ρ x) (lo.map ρ) (hi.map ρ)).map fun v => (v, σ) else none
  | some { shape := .slice e, .. } => match ty e with
   | some te => if qvc te.size (ρ x) then (qez (ρ x) (lo.map ρ) (hi.map ρ)).map fun v => (v, σ) else none
   | none => none
  | _ => none
 | .fieldAddr s x f => match qfr ty s f with
  | some (off, ft) => if ft.size = 0 then none else match ρ x with
   | .ptr loc g o ext => if off + ft.size ≤ ext then some (.ptr loc g (o + off) (ext - off), σ) else none
   | .t (.snap cs) => if off + ft.size ≤ cs.length then some (.t (.snap (cs.drop off)), σ) else none
   | _ => none
  | none => none
 | .field s x f => match qfr ty s f, qei (ρ x) with
  | some (off, ft), some cs => (qnq cs off ft).map fun v => (v, σ)
  | _, _ => none
 | .indexAddr t x i => match ty t, ρ i with
  | some { shape := .slice e, .. }, .t (.int _ i) => match ty e with
   | some te => (idxV te.size (ρ x) i).map fun v => (v, σ)
   | none => none
  | _, _ => none
 | .index t x i => match ty t, ρ x, ρ i with
  | some { shape := .str, .. }, .t (.str s), .t (.int _ i) => if 0 ≤ i then (match s[i.toNat]? with
    | some b => some (.t (.int .u8 b), σ)
    | none => none) else none
  | _, _, _ => none
 | .lookup t m k ok => match ty t, ρ m, ρ k with
  | some { shape := .map kt e, .. }, .mp loc, .t k => match σ[loc]?, ty e, ty kt with
   | some (.map es), some te, some tk => if qjs tk.shape k = false then none else match findKey tk.shape k es with
    | some (some v) => some (if ok then (qjh [v, .t (.bool true)]) else v, σ)
    | some none => match te.zero with
     | some z => some (if ok then .t (.tup [z, .bool false]) else .t z, σ)
     | none => none
    | none => none
   | _, _, _ => none
  | _, _, _ => none
 | .mapUpdate t m k x => match ty t, ρ m, ρ k with
  | some { shape := .map kt _, .. }, .mp loc, .t k => match σ[loc]?, ty kt with
   | some (.map es), some tk => if qjs tk.shape k = false then none else (qfp tk.shape k (ρ x) es).map fun es' => (.t .undef, σ.set loc (.map es'))
   | _, _ => none
  | _, _, _ => none
 | .extract x i => match ρ x with
  | .t (.tup vs) => (vs[i]?).map fun v => (.t v, σ)
  | .tup vs => (vs[i]?).map fun v => (v, σ)
  | _ => none
 | .call { callee := .builtin b, args := args, argTypes := ats } => match b, args.toList.map ρ with
  | .append, [s, x] => qap ty σ ats.toList s x
  | .len, [x] => match ats.toList with
   | [t] => match ty t with
    | some i => (lenV σ i.shape x).map fun n => (.t (.int .i64 n), σ)
    | none => none
   | _ => none
  | .cap, [x] => match ats.toList with
   | [t] => match ty t with
    | some i => match i.shape, x with
     | .slice _, .t .nils => some (.t (.int .i64 0), σ)
     | _, _ => none
    | none => none
   | _ => none
  | .clear, [x] => match ats.toList with
   | [t] => match ty t with
    | some i => match i.shape with
     | .slice e => match ty e with
      | some te => (qrr σ te x).map fun σ' => (.t (.tup []), σ')
      | none => none
     | _ => none
    | none => none
   | _ => none
  | .min, xs => (minV xs).map fun v => (.t v, σ)
  | .max, xs => (maxV xs).map fun v => (.t v, σ)
  | _, _ => none
 | _ => none

/-! ### Calls, regions, control -/
abbrev qbo := FuncId → List V → Store → Option (V × Store)

def qcf : Op → Option (Operand × Array Operand)
 | .call { callee := .value f, args := args, .. } => some (f, args)
 | _ => none

/-- 0: it does not look at the store; 1: it reads it; 2: it may turn it. -/
def cls (ty : TypeId → Option TI) (pf : FuncId → Bool) (owned : Bool) : Op → Nat
 | .move _ | .assign _ | .pick .. | .build .. | .nilCheck _ | .binOp .. | .unOp .. | .makeFunc .. | .slice .. | .fieldAddr .. | .field .. | .indexAddr .. | .index .. | .extract .. => 0
 | .buildSlice _ _ _ => if owned then 2 else 0
 | .load .. => 1
 | .convert s d _ => match ty s, ty d with
  | some { shape := .int _, .. }, some { shape := .int _, .. } => 0
  | some { shape := .str, .. }, some { shape := .str, .. } => 0
  | _, _ => 2
 | .call { callee := .builtin .len, argTypes := ats, .. } => match ats.toList with
  | [t] => match ty t with
   | some { shape := .str, .. } => 0
   | some { shape := .slice _, .. } => 0
   | _ => 1
  | _ => 1
 | .call { callee := .builtin .min, .. } => 0
 | .call { callee := .builtin .max, .. } => 0
 | .call { callee := .value (.func f), .. } => if pf f then 0 else 2
 | _ => 2

/-- What an operation gives. 'draw': in a region whose order is open. -/
def opV (call : qbo) (pf : FuncId → Bool) (ty : TypeId → Option TI) (owned draw : Bool) (op : Op) (ρ : Operand → V) (σ : Store) : Option (V × Store) :=
 match qcf op with
 | some (f, args) => match ρ f with
  | .fn g caps =>
   if draw && pf g then (match allT (args.toList.map ρ ++ caps) with
    | some _ => call g (args.toList.map ρ ++ caps) σ
    | none => none)
   else call g (args.toList.map ρ ++ caps) σ
  | .bm g first =>
   if draw && pf g then (match allT (first ++ args.toList.map ρ) with
    | some _ => call g (first ++ args.toList.map ρ) σ
    | none => none)
   else call g (first ++ args.toList.map ρ) σ
  | _ => none
 | none => match qae ty owned ρ σ op with
  | some (v, σ') => if draw && Nat.beq (cls ty pf owned op) 0 && !(Nat.beq σ'.length σ.length) then none else some (v, σ')
  | none => none

/-- Whether the operation is wanted. -/
def qfo (ops : Array Oper) (get : Nat → V) (o : Oper) : Option Bool :=
 match o.guard with
 | none => some true
 | some (j, b) => match (ops[j]?).bind (·.dst) with
  | some d => match get d with
   | .t (.bool b') => some (b' == b)
   | .t (.tup []) => some false
   | _ => none
  | none => none

def qcw (call : qbo) (pf : FuncId → Bool) (ty : TypeId → Option TI) (A : Ann) (id : Nat) (draw : Bool) (ops : Array Oper) (i : Nat) (o : Oper) (st : St) (σ : Store) : Option (St × Store) :=
 match qfo ops st.get o with
 | some true => match opV call pf ty (A.owned.contains (id, i)) draw o.op st.eval σ with
  | some (v, σ') => some (st.putO A o.dst v, σ')
  | none => none
 | some false => some (st.putO A o.dst (.t (.tup [])), σ)
 | none => none

def qby (call : qbo) (pf : FuncId → Bool) (ty : TypeId → Option TI) (A : Ann) (id : Nat) (draw : Bool) (ops : Array Oper) : Nat → List Oper → St → Store → Option (St × Store)
 | _, [], st, σ => some (st, σ)
 | i, o :: r, st, σ => match qcw call pf ty A id draw ops i o st σ with
  | some (st', σ') => qby call pf ty A id draw ops (i + 1) r st' σ'
  | none => none

/-! ### Alike -/
def beqK : IntKind → IntKind → Bool
 | .i8, .i8 => true
 | .i16, .i16 => true
 | .i32, .i32 => true
 | .i64, .i64 => true
 | .u8, .u8 => true
 | .u16, .u16 => true
 | .u32, .u32 => true
 | .u64, .u64 => true
 | _, _ => false
def beqI : Int → Int → Bool
 | .ofNat a, .ofNat b => Nat.beq a b
 | .negSucc a, .negSucc b => Nat.beq a b
 | _, _ => false
def beqB : Bool → Bool → Bool
 | true, true => true
 | false, false => true
 | _, _ => false
mutual
def beqT : T → T → Bool
 | .undef, .undef => true
 | .bool a, .bool b => beqB a b
 | .int j a, .int k b => beqK j k && beqI a b
 | .str a, .str b => eqL a b
 | .nilp, .nilp => true
 | .nils, .nils => true
 | .nilm, .nilm => true
 | .nilf, .nilf => true
 | .agg a, .agg b => qle a b
 | .tup a, .tup b => qle a b
 | .list a, .list b => qle a b
 | .snap a, .snap b => qle a b
 | _, _ => false
def qle : List T → List T → Bool
 | [], [] => true
 | x :: a, y :: b => beqT x y && qle a b
 | _, _ => false
end
mutual
def beqV : V → V → Bool
 | .t a, .t b => beqT a b
 | .sl a b c d e, .sl a' b' c' d' e' => Nat.beq a a' && (Nat.beq b b' && (Nat.beq c c' && (Nat.beq d d' && Nat.beq e e')))
 | .ptr a b c d, .ptr a' b' c' d' => Nat.beq a a' && (Nat.beq b b' && (Nat.beq c c' && Nat.beq d d'))
 | .mp a, .mp b => Nat.beq a b
 | .fn f a, .fn g b => Nat.beq f g && qmy a b
 | .bm f a, .bm g b => Nat.beq f g && qmy a b
 | .agg a, .agg b => qmy a b
 | .tup a, .tup b => qmy a b
 | _, _ => false
def qmy : List V → List V → Bool
 | [], [] => true
 | x :: a, y :: b => beqV x y && qmy a b
 | _, _ => false
end

/-- What a load gave it would give in this store, too (where its place is there). -/
def okAt (σ : Store) (i : TI) (x v : V) : Bool := match x with
 | .ptr loc _ _ _ => match Nat.blt loc σ.length with
  | true => match qbx σ i x with
   | some u => beqV u v
   | none => false
  | false => true
 | _ => true

/-- The load that an operation is, if it is wanted. -/
def qdp (ty : TypeId → Option TI) (ops : Array Oper) (o : Oper) (st : St) : Option (TI × V) := match o.op with
 | .load t a => match qfo ops st.get o with
  | some true => match ty t with
   | some i => some (i, st.eval a)
   | none => none
  | _ => none
 | _ => none

def memN (w : Nat) : List Nat → Bool
 | [] => false
 | x :: r => match Nat.beq x w with
  | true => true
  | false => memN w r
/-- What must stand ahead of an operation. -/
def stops (b : Array Nat) (i : Nat) : List Nat := (List.range i).filter fun w => (b.getD i 0).testBit w

/-- A load is looked at in the stores that it may meet: back to the one behind the last writer that must stand ahead of it. -/
def chkH (stop : List Nat) (f : Store → Bool) : List (Nat × Store) → Bool
 | [] => true
 | (w, τ) :: r => f τ && (memN w stop || chkH stop f r)
abbrev Lds := List (Nat × TI × V × V)
/-- The loads that may come behind a writer. -/
def qhk (stop : List Nat) : Lds → Lds
 | [] => []
 | l :: r => match memN l.1 stop with
  | true => qhk stop r
  | false => l :: qhk stop r

/-- Operations of a region whose order is open: each load is looked at in each store that it may meet. -/
def qbd (call : qbo) (pf : FuncId → Bool) (ty : TypeId → Option TI) (A : Ann) (id : Nat) (ops : Array Oper) (b : Array Nat) : Nat → List Oper → St → Store → List (Nat × Store) → Lds → Option (St × Store)
 | _, [], st, σ, _, _ => some (st, σ)
 | i, o :: r, st, σ, hs, ls => match qcw call pf ty A id true ops i o st σ with
  | some (st', σ') => match qdp ty ops o st with
   | some (ti, x) => match qbx σ ti x with
    | some v => match chkH (stops b i) (fun τ => okAt τ ti x v) hs with
     | true => qbd call pf ty A id ops b (i + 1) r st' σ' hs ((i, ti, x, v) :: ls)
     | false => none
    | none => none
   | none => match Nat.beq (cls ty pf (A.owned.contains (id, i)) o.op) 2 with
    | true => match (qhk (stops b i) ls).all (fun l => okAt σ' l.2.1 l.2.2.1 l.2.2.2) with
     | true => qbd call pf ty A id ops b (i + 1) r st' σ' ((i, σ') :: hs) (qhk (stops b i) ls)
     | false => none
    | false => qbd call pf ty A id ops b (i + 1) r st' σ' hs ls
  | none => none

def qcy (call : qbo) (pf : FuncId → Bool) (ty : TypeId → Option TI) (A : Ann) (id : Nat) (draw : Bool) (ops : Array Oper) (st : St) (σ : Store) : Option (St × Store) :=
 if A.bad.contains id then none
 else if draw && A.dyn.contains id then qbd call pf ty A id ops (Region.before ops) 0 ops.toList st σ [(ops.size, σ)] []
 else qby call pf ty A id draw ops 0 ops.toList st σ

inductive Ex where
 | normal | exit (id : Nat) | ret
 deriving DecidableEq

def Ann.kill (A : Ann) (id : Nat) (st : St) : St := match A.kills.find? (·.1 == id) with
 | some (_, ks) => { st with vars := st.vars.drop ks }
 | none => st

def runC (call : qbo) (pf : FuncId → Bool) (ty : TypeId → Option TI) (A : Ann) : Nat → Code → St → Store → Option (Ex × St × Store)
 | 0, _, _, _ => none
 | n + 1, c, st, σ => match c with
  | .skip => some (.normal, st, σ)
  | .region id ops draw => (qcy call pf ty A id draw ops { st with scr := [] } σ).map fun r => (.normal, r.1, r.2)
  | .seq a b => match runC call pf ty A n a st σ with
   | some (.normal, st', σ') => runC call pf ty A n b st' σ'
   | r => r
  | .cond c a b => match st.eval c with
   | .t (.bool true) => runC call pf ty A n a st σ
   | .t (.bool false) => runC call pf ty A n b st σ
   | _ => none
  | .block id b => match runC call pf ty A n b st σ with
   | some (.normal, st', σ') => some (.normal, A.kill id st', σ')
   | some (.exit id', st', σ') => if id' = id then some (.normal, A.kill id st', σ') else some (.exit id', st', σ')
   | r => r
  | .loop b => match runC call pf ty A n b st σ with
   | some (.normal, st', σ') => runC call pf ty A n (.loop b) st' σ'
   | r => r
  | .exit id => some (.exit id, st, σ)
  | .ret => some (.ret, st, σ)
  | _ => none

/-- Static: every operation writes a temporary that there is. -/
def qxw (n : Nat) (ops : Array Oper) : Bool := ops.toList.all fun o => match o.dst with
 | some t => Nat.blt t n
 | none => true

/-- An operation that lays new memory behind the store and turns nothing else. -/
def qeo : Op → Bool
 | .alloc _ | .box .. | .buildSlice .. | .makeMap .. | .makeSlice .. => true
 | _ => false
def qgz : Op → Bool
 | .load .. => true
 | _ => false

/-- An alloc that may stay pending. -/
def isA (o : Oper) : Bool := (match o.op with | .alloc _ => true | _ => false) && o.guard.isNone && o.dst.isSome
def qew (A : Ann) (id : Nat) (o : Oper) : Bool := A.pend.contains id && isA o

/-- Static, of a region whose order is open: what the order leaves open makes no difference. -/
def qwe (ty : TypeId → Option TI) (pf : FuncId → Bool) (A : Ann) (id : Nat) (ops : Array Oper) : Bool :=
 let b := Region.before ops
 let c := fun (i : Nat) (o : Oper) => cls ty pf (A.owned.contains (id, i)) o.op
 (ops.toList.zipIdx.all fun (o, i) => o.after.toList.all fun e => !(Region.binds .any e) || Nat.blt e.on i) &&
 (ops.toList.zipIdx.all fun (o, i) => match o.guard with
  | none => true
  | some (j, _) => o.after.toList.any fun e => Nat.beq e.on j && Region.binds .any e) &&
 (ops.toList.zipIdx.all fun (o, j) => ops.toList.zipIdx.all fun (p, i) => Nat.beq i j ||
  -- 'p' writes what 'o' names
  ((match p.dst with
   | some d => !((o.dst == some d) || (o.op.operands.toList.any fun x => match x with | .tmp t => Nat.beq t d | _ => false) || (match o.guard with | some (j, _) => ((ops[j]?).bind (·.dst)) == some d | none => false)) || (b.getD (max i j) 0).testBit (min i j)
   | none => true) &&
  -- 'p' turns the store, 'o' looks at it
  (!(Nat.beq (c i p) 2 && !(Nat.beq (c j o) 0)) || ((qeo p.op || A.dyn.contains id) && qgz o.op) || (b.getD (max i j) 0).testBit (min i j) ||
   (Nat.blt i j && qew A id o) || (Nat.blt j i && (qew A id p && Nat.beq (c j o) 2))))) &&
 (ops.toList.zipIdx.all fun (p, i) => !(qew A id p) ||
  ((ops.toList.zipIdx.all fun (q, m) => !(Nat.blt m i) || !(Nat.beq (c m q) 2) || (b.getD i 0).testBit m || (ops.toList.zipIdx.all fun (_, k) => !((b.getD k 0).testBit i) || (b.getD k 0).testBit m)) &&
   (ops.toList.zipIdx.all fun (o, k) => Nat.beq k i || !(o.dst == p.dst))))

def qji (ty : TypeId → Option TI) (st : St) (σ : Store) : ResultVar → Option V
 | .tmp t => some (st.get t)
 | .cell a t => match ty t with
  | some i => qbx σ i (st.get a)
  | none => none

def qbs (ty : TypeId → Option TI) (st : St) (σ : Store) : List ResultVar → Option (List V)
 | [] => some []
 | r :: rs => match qji ty st σ r, qbs ty st σ rs with
  | some v, some vs => some (v :: vs)
  | _, _ => none

def qhq : List V → V
 | [v] => v
 | vs => qjh vs

def qcl (A : Ann) : Nat → List V → Env
 | _, [] => []
 | i, v :: r => if A.vars.contains i then (i, v) :: qcl A (i + 1) r else qcl A (i + 1) r

structure Sy where
 P : Program
 ty : TypeId → Option TI
 ann : FuncId → Option Ann
 ext : qbo
 /-- externs that neither look at the store nor turn it -/
 extPure : FuncId → Bool

def Sy.pf (S : Sy) (f : FuncId) : Bool := match S.ann f with
 | some A => A.isPure
 | none => S.extPure f

mutual
/-- Trees that point to no memory. -/
def qjk : T → Bool
 | .list [] => true
 | .list (_ :: _) => false
 | .snap _ => false
 | .agg cs => qss cs
 | .tup cs => qss cs
 | _ => true
def qss : List T → Bool
 | [] => true
 | x :: r => qjk x && qss r
end

/-- A tree that points to memory is forgotten. -/
def wipe (x : T) : T := match qjk x with
 | true => x
 | false => .undef

mutual
/-- The places of a store that comes to stand behind another one. -/
def shV (n : Nat) : V → V
 | .t x => .t (wipe x)
 | .sl loc g off len k => .sl (n + loc) g off len k
 | .ptr loc g off ext => .ptr (n + loc) g off ext
 | .mp loc => .mp (n + loc)
 | .agg cs => .agg (shVs n cs)
 | .tup cs => .tup (shVs n cs)
 | .fn f cs => .fn f (shVs n cs)
 | .bm f cs => .bm f (shVs n cs)
def shVs (n : Nat) : List V → List V
 | [] => []
 | x :: r => shV n x :: shVs n r
end

def shEs (n : Nat) : List (T × V) → List (T × V)
 | [] => []
 | (k, v) :: r => (wipe k, shV n v) :: shEs n r

def shO (n : Nat) : Obj → Obj
 | .cells cs gen wgen => .cells (shVs n cs) gen wgen
 | .map es => .map (shEs n es)

/-- What a callee made itself, as a tree: nothing of what it was handed may be in it. -/
def frzN : Nat → Store → V → Option T
 | 0, _, _ => none
 | d + 1, σ, v => match v with
  | .t x => if qjk x then some x else none
  | .sl loc g off len k => match σ[loc]? with
   | some (.cells cs gen wgen) =>
    if wgen ≤ g ∧ g ≤ gen ∧ 0 < k ∧ off + len * k ≤ cs.length then
     (frzs (frzN d σ) ((cs.drop off).take (len * k))).map fun ts => .list (chunk k len ts)
    else none
   | _ => none
  | .agg cs => (frzs (frzN d σ) cs).map .agg
  | .tup cs => (frzs (frzN d σ) cs).map .tup
  | _ => none

def qbj (S : Sy) (vc : qbo) : qbo := fun f args σ =>
 match S.ann f with
 | some A => if A.isPure then match allT args with
   | some _ => match vc f args [] with
    | some (v, σ0) => (frz 40 σ0 v).map fun x => (.t x, σ)
    | none => none
   | none => match frzs (frz 40 σ) args with
    | some ts => match vc f (ts.map V.t) [] with
     | some (v, σ0) => (frzN 40 σ0 v).map fun x => (.t x, σ)
     | none => none
    | none => vc f args σ
  else if A.isFresh then match frzs (frz 40 σ) args with
   | some ts => match vc f (ts.map V.t) [] with
    | some (v, σ0) => some (shV σ.length v, σ ++ σ0.map (shO σ.length))
    | none => none
   | none => none
  else vc f args σ
 | none => S.ext f args σ

def qcx (S : Sy) : Nat → qbo
 | 0, _, _, _ => none
 | n + 1, f, args, σ => match S.ann f, S.P.funcs[f]? with
  | some A, some fn => match fn.body with
   | some c => match runC (qbj S (qcx S n)) S.pf S.ty A n c { vars := qcl A 0 args, scr := [] } σ with
    | some (.normal, st, σ') => (qbs S.ty st σ' fn.results.toList).map fun vs => (qhq vs, σ')
    | some (.ret, st, σ') => (qbs S.ty st σ' fn.results.toList).map fun vs => (qhq vs, σ')
    | _ => none
   | none => none
  | _, _ => none

end Go.V

/- The relation between the interpreter's trees and store and the model's values and memory. -/
namespace Go.V

structure G where
 fz : Nat → Nat → Option Value
 n : Nat
 gn : Nat → Nat
 mu : Nat → Nat → Option Nat
 sz : Nat → Nat → Nat
 bs : Nat → Nat → Nat
 mp : Nat → Option Nat

mutual
def TR (fz : Nat → Nat → Option Value) : T → Value → Prop
 | .undef, _ => True
 | .bool b, v => v = .bool b
 | .int k n, v => v = .int k n
 | .str s, v => ∃ b, v = .string b ∧ bytes b = s
 | .nilp, v => v = .pointer none
 | .nils, v => v = .slice none 0 0
 | .nilm, v => v = .map none
 | .nilf, v => v = .nilFunc
 | .agg cs, v => ∃ a, v = .agg a ∧ TRs fz cs a.toList ∧ a.toList.all Value.oneCell' = true
 | .tup cs, v => ∃ a, v = .tuple a ∧ TRs fz cs a.toList
 | .list rows, v => ∃ a c k, v = .slice (some a) rows.length c ∧ rows.length ≤ c ∧ (rows = [] ∨ a.spot = none) ∧ TRrows fz a.block k a.off rows
 | .snap cs, v => ∃ a, v = .pointer (some a) ∧ a.spot = none ∧ TRcells fz a.block a.off cs
def TRs (fz : Nat → Nat → Option Value) : List T → List Value → Prop
 | [], l => l = []
 | x :: xs, l => ∃ v r, l = v :: r ∧ TR fz x v ∧ TRs fz xs r
def TRcells (fz : Nat → Nat → Option Value) (b : Nat) : Nat → List T → Prop
 | _, [] => True
 | off, x :: xs => (∃ v, fz b off = some v ∧ v.oneCell' = true ∧ TR fz x v) ∧ TRcells fz b (off + 1) xs
def TRrows (fz : Nat → Nat → Option Value) (b k : Nat) : Nat → List T → Prop
 | _, [] => True
 | off, .agg cs :: rs => cs.length = k ∧ TRcells fz b off cs ∧ TRrows fz b k (off + k) rs
 | _, _ :: _ => False
end

mutual
def VR (g : G) : V → Value → Prop
 | .t x, v => TR g.fz x v
 | .sl loc gen off len k, v => loc < g.n ∧ gen ≤ g.gn loc ∧ 0 < k ∧ ∃ a c, v = .slice (some a) len c ∧ len ≤ c ∧ a.spot = none ∧
   ∀ B, g.mu loc gen = some B → off + len * k ≤ g.sz loc gen ∧ ((0 < len ∨ off = 0) → a.block = B ∧ a.off = off ∧ off + c * k ≤ g.bs loc gen ∧ c ≤ 9223372036854775807)
 | .ptr loc gen off ext, v => loc < g.n ∧ gen ≤ g.gn loc ∧ ∃ a, v = .pointer (some a) ∧ a.spot = none ∧ ∀ B, g.mu loc gen = some B → off + ext ≤ g.sz loc gen ∧ a = ⟨B, off, none⟩
 | .mp loc, v => loc < g.n ∧ ∃ r, v = .map (some r) ∧ ∀ B, g.mp loc = some B → r = B
 | .fn f caps, v => ∃ a, v = .func (.func f) #[] a ∧ VRs g caps a.toList
 | .bm f first, v => ∃ a, v = .func (.func f) a #[] ∧ VRs g first a.toList
 | .agg cs, v => ∃ a, v = .agg a ∧ VRs g cs a.toList ∧ a.toList.all Value.oneCell' = true
 | .tup cs, v => ∃ a, v = .tuple a ∧ VRs g cs a.toList
def VRs (g : G) : List V → List Value → Prop
 | [], l => l = []
 | x :: xs, l => ∃ v r, l = v :: r ∧ VR g x v ∧ VRs g xs r
end

def fzLe (f f' : Nat → Nat → Option Value) : Prop := ∀ b o v, f b o = some v → f' b o = some v

mutual
theorem TR.mono {f f' : Nat → Nat → Option Value} (h : fzLe f f') : ∀ (x : T) (v : Value), TR f x v → TR f' x v
 | .undef, _, _ => by simp [TR]
 | .bool _, _, hh => by simpa [TR] using hh
 | .int _ _, _, hh => by simpa [TR] using hh
 | .str _, _, hh => by simpa [TR] using hh
 | .nilp, _, hh => by simpa [TR] using hh
 | .nils, _, hh => by simpa [TR] using hh
 | .nilm, _, hh => by simpa [TR] using hh
 | .nilf, _, hh => by simpa [TR] using hh
 | .agg cs, v, hh => by
  simp only [TR] at hh ⊢
  obtain ⟨a, e, h1, h2⟩ := hh
  exact ⟨a, e, TRs.mono h cs _ h1, h2⟩
 | .tup cs, v, hh => by
  simp only [TR] at hh ⊢
  obtain ⟨a, e, h1⟩ := hh
  exact ⟨a, e, TRs.mono h cs _ h1⟩
 | .list rows, v, hh => by
  simp only [TR] at hh ⊢
  obtain ⟨a, c, k, e, h1, h2, h3⟩ := hh
  exact ⟨a, c, k, e, h1, h2, TRrows.mono h rows _ _ _ h3⟩
 | .snap cs, v, hh => by
  simp only [TR] at hh ⊢
  obtain ⟨a, e, h1, h2⟩ := hh
  exact ⟨a, e, h1, TRcells.mono h cs _ _ h2⟩
theorem TRs.mono {f f' : Nat → Nat → Option Value} (h : fzLe f f') : ∀ (xs : List T) (l : List Value), TRs f xs l → TRs f' xs l
 | [], _, hh => by simpa [TRs] using hh
 | x :: xs, l, hh => by
  simp only [TRs] at hh ⊢
  obtain ⟨v, r, e, h1, h2⟩ := hh
  exact ⟨v, r, e, TR.mono h x v h1, TRs.mono h xs r h2⟩
theorem TRcells.mono {f f' : Nat → Nat → Option Value} (h : fzLe f f') : ∀ (xs : List T) (b off : Nat), TRcells f b off xs → TRcells f' b off xs
 | [], _, _, _ => by simp [TRcells]
 | x :: xs, b, off, hh => by
  simp only [TRcells] at hh ⊢
  obtain ⟨⟨v, e, h0, h1⟩, h2⟩ := hh
  exact ⟨⟨v, h _ _ _ e, h0, TR.mono h x v h1⟩, TRcells.mono h xs b (off + 1) h2⟩
theorem TRrows.mono {f f' : Nat → Nat → Option Value} (h : fzLe f f') : ∀ (xs : List T) (b k off : Nat), TRrows f b k off xs → TRrows f' b k off xs
 | [], _, _, _, _ => by simp [TRrows]
 | .agg cs :: xs, b, k, off, hh => by
  simp only [TRrows] at hh ⊢
  exact ⟨hh.1, TRcells.mono h cs b off hh.2.1, TRrows.mono h xs b k (off + k) hh.2.2⟩
 | .undef :: _, _, _, _, hh => by simp [TRrows] at hh
 | .bool _ :: _, _, _, _, hh => by simp [TRrows] at hh
 | .int _ _ :: _, _, _, _, hh => by simp [TRrows] at hh
 | .str _ :: _, _, _, _, hh => by simp [TRrows] at hh
 | .nilp :: _, _, _, _, hh => by simp [TRrows] at hh
 | .nils :: _, _, _, _, hh => by simp [TRrows] at hh
 | .nilm :: _, _, _, _, hh => by simp [TRrows] at hh
 | .nilf :: _, _, _, _, hh => by simp [TRrows] at hh
 | .tup _ :: _, _, _, _, hh => by simp [TRrows] at hh
 | .list _ :: _, _, _, _, hh => by simp [TRrows] at hh
 | .snap _ :: _, _, _, _, hh => by simp [TRrows] at hh
end

structure G.Le (g g' : G) : Prop where
 fz : fzLe g.fz g'.fz
 n : g.n ≤ g'.n
 gn : ∀ loc, loc < g.n → g.gn loc ≤ g'.gn loc
 mu : ∀ loc gen B, loc < g.n → gen ≤ g.gn loc → g'.mu loc gen = some B → g.mu loc gen = some B
 sz : ∀ loc gen, loc < g.n → gen ≤ g.gn loc → g'.sz loc gen = g.sz loc gen
 bs : ∀ loc gen, loc < g.n → gen ≤ g.gn loc → g'.bs loc gen = g.bs loc gen
 mp : ∀ loc B, loc < g.n → g'.mp loc = some B → g.mp loc = some B

theorem G.Le.refl (g : G) : g.Le g := ⟨fun _ _ _ h => h, Nat.le_refl _, fun _ _ => Nat.le_refl _, fun _ _ _ _ _ h => h, fun _ _ _ _ => rfl, fun _ _ _ _ => rfl, fun _ _ _ h => h⟩

theorem G.Le.trans {g1 g2 g3 : G} (a : g1.Le g2) (b : g2.Le g3) : g1.Le g3 where
 fz := fun x y z h => b.fz _ _ _ (a.fz _ _ _ h)
 n := Nat.le_trans a.n b.n
 gn := fun l h => Nat.le_trans (a.gn l h) (b.gn l (Nat.lt_of_lt_of_le h a.n))
 mu := fun l n B h1 h2 h3 => a.mu l n B h1 h2 (b.mu l n B (Nat.lt_of_lt_of_le h1 a.n) (Nat.le_trans h2 (a.gn l h1)) h3)
 sz := fun l n h1 h2 => (b.sz l n (Nat.lt_of_lt_of_le h1 a.n) (Nat.le_trans h2 (a.gn l h1))).trans (a.sz l n h1 h2)
 bs := fun l n h1 h2 => (b.bs l n (Nat.lt_of_lt_of_le h1 a.n) (Nat.le_trans h2 (a.gn l h1))).trans (a.bs l n h1 h2)
 mp := fun l B h1 h3 => a.mp l B h1 (b.mp l B (Nat.lt_of_lt_of_le h1 a.n) h3)

mutual
theorem VR.mono {g g' : G} (h : g.Le g') : ∀ (x : V) (v : Value), VR g x v → VR g' x v
 | .t x, v, hh => by simp only [VR] at hh ⊢; exact TR.mono h.fz x v hh
 | .sl loc gen off len k, v, hh => by
  simp only [VR] at hh ⊢
  obtain ⟨h1, h2, hk, a, c, e, h3, h4, h5⟩ := hh
  refine ⟨Nat.lt_of_lt_of_le h1 h.n, Nat.le_trans h2 (h.gn _ h1), hk, a, c, e, h3, h4, fun B hB => ?_⟩
  rw [h.sz _ _ h1 h2, h.bs _ _ h1 h2]
  exact h5 B (h.mu _ _ _ h1 h2 hB)
 | .ptr loc gen off ext, v, hh => by
  simp only [VR] at hh ⊢
  obtain ⟨h1, h2, a, e, h4, h5⟩ := hh
  refine ⟨Nat.lt_of_lt_of_le h1 h.n, Nat.le_trans h2 (h.gn _ h1), a, e, h4, fun B hB => ?_⟩
  rw [h.sz _ _ h1 h2]
  exact h5 B (h.mu _ _ _ h1 h2 hB)
 | .mp loc, v, hh => by
  simp only [VR] at hh ⊢
  obtain ⟨h1, r, e, h5⟩ := hh
  exact ⟨Nat.lt_of_lt_of_le h1 h.n, r, e, fun B hB => h5 B (h.mp _ _ h1 hB)⟩
 | .fn f caps, v, hh => by
  simp only [VR] at hh ⊢
  obtain ⟨a, e, h1⟩ := hh
  exact ⟨a, e, VRs.mono h caps _ h1⟩
 | .bm f caps, v, hh => by
  simp only [VR] at hh ⊢
  obtain ⟨a, e, h1⟩ := hh
  exact ⟨a, e, VRs.mono h caps _ h1⟩
 | .agg cs, v, hh => by
  simp only [VR] at hh ⊢
  obtain ⟨a, e, h1, h2⟩ := hh
  exact ⟨a, e, VRs.mono h cs _ h1, h2⟩
 | .tup cs, v, hh => by
  simp only [VR] at hh ⊢
  obtain ⟨a, e, h1⟩ := hh
  exact ⟨a, e, VRs.mono h cs _ h1⟩
theorem VRs.mono {g g' : G} (h : g.Le g') : ∀ (xs : List V) (l : List Value), VRs g xs l → VRs g' xs l
 | [], _, hh => by simpa [VRs] using hh
 | x :: xs, l, hh => by
  simp only [VRs] at hh ⊢
  obtain ⟨v, r, e, h1, h2⟩ := hh
  exact ⟨v, r, e, VR.mono h x v h1, VRs.mono h xs r h2⟩
end

/-- Entries of a map. -/
def EntsR (g : G) : List (T × V) → List MapEntry → Prop
 | [], l => l = []
 | (k, v) :: es, l => ∃ e r, l = e :: r ∧ TR g.fz k e.key ∧ VR g v e.val ∧ EntsR g es r

structure Inv (g : G) (σ : Store) (w : World) : Prop where
 len : g.n = σ.length
 fz : ∀ b o v, g.fz b o = some v → w.cell? ⟨b, o, none⟩ = some v
 cur : ∀ loc cs gen wgen, σ[loc]? = some (.cells cs gen wgen) → g.gn loc = gen ∧ wgen ≤ gen ∧ g.sz loc gen = cs.length
 tip : ∀ loc cs gen wgen, σ[loc]? = some (.cells cs gen wgen) → ∃ B arr elem fr, g.mu loc gen = some B ∧ (∀ o, g.fz B o = none) ∧
  w.heap[B]? = some (.cells arr elem fr) ∧ ∀ o, o < arr.size ∨ (gen = 0 ∧ o = arr.size) → ¬ (fr.1 ≤ o ∧ o < fr.2)
 old : ∀ loc cs gen wgen h, σ[loc]? = some (.cells cs gen wgen) → wgen ≤ h → h ≤ gen → ∃ B arr elem fr, g.mu loc h = some B ∧ w.heap[B]? = some (.cells arr elem fr) ∧
  arr.size = g.bs loc h ∧ g.sz loc h ≤ arr.size ∧ g.sz loc h ≤ cs.length ∧ ∀ i c, i < g.sz loc h → cs[i]? = some c → ∃ v, arr[i]? = some v ∧ v.oneCell' = true ∧ VR g c v
 muc : ∀ loc h B, loc < g.n → g.mu loc h = some B → ∃ cs gen wgen, σ[loc]? = some (.cells cs gen wgen) ∧ wgen ≤ h ∧ h ≤ gen
 map : ∀ loc es, σ[loc]? = some (.map es) → ∃ B ents clock, g.mp loc = some B ∧ w.heap[B]? = some (.map ents clock) ∧ EntsR g es ents.toList
 mpc : ∀ loc B, loc < g.n → g.mp loc = some B → ∃ es, σ[loc]? = some (.map es)
 sep : ∀ l1 h1 l2 h2 B, l1 < g.n → l2 < g.n → g.mu l1 h1 = some B → g.mu l2 h2 = some B → l1 = l2
 sepm : ∀ l1 l2 B, l1 < g.n → l2 < g.n → g.mp l1 = some B → g.mp l2 = some B → l1 = l2

/-- What a step may do: old blocks that are no tip and no map of the store stay as they are. -/
structure Ext (g : G) (w w' : World) : Prop where
 size : w.heap.size ≤ w'.heap.size
 keep : ∀ b, b < w.heap.size → (∀ loc, loc < g.n → g.mu loc (g.gn loc) ≠ some b ∧ g.mp loc ≠ some b) → w'.heap[b]? = w.heap[b]?
 tape : w'.tape = w.tape
 os : w'.os = w.os
 output : w'.output = w.output

structure Step (g : G) (w : World) (g' : G) (w' : World) : Prop where
 le : g.Le g'
 ext : Ext g w w'
 tips : ∀ loc b, loc < g'.n → (g'.mu loc (g'.gn loc) = some b ∨ g'.mp loc = some b) → b < w.heap.size → loc < g.n ∧ (g.mu loc (g.gn loc) = some b ∨ g.mp loc = some b)
 own : ∀ loc h b, loc < g'.n → g'.mu loc h = some b → b < w.heap.size → loc < g.n ∧ ∃ h', g.mu loc h' = some b
 cold : ∀ b o v, g'.fz b o = some v → b < w.heap.size → g.fz b o = some v

theorem Step.refl (g : G) (w : World) : Step g w g w where
 le := G.Le.refl g
 ext := ⟨Nat.le_refl _, fun _ _ _ => rfl, rfl, rfl, rfl⟩
 tips := fun loc b h1 h2 _ => ⟨h1, h2⟩
 own := fun _ h _ h1 h2 _ => ⟨h1, h, h2⟩
 cold := fun _ _ _ h _ => h

theorem Step.trans {g1 g2 g3 : G} {w1 w2 w3 : World} (a : Step g1 w1 g2 w2) (b : Step g2 w2 g3 w3) : Step g1 w1 g3 w3 where
 le := a.le.trans b.le
 ext := {
  size := Nat.le_trans a.ext.size b.ext.size
  keep := fun x h hn => by
   rw [b.ext.keep x (Nat.lt_of_lt_of_le h a.ext.size) (fun loc hl => ?_), a.ext.keep x h hn]
   constructor
   ·intro hm
    obtain ⟨h1, h2⟩ := a.tips loc x hl (.inl hm) h
    rcases h2 with h2 | h2
    ·exact (hn loc h1).1 h2
    ·exact (hn loc h1).2 h2
   ·intro hm
    obtain ⟨h1, h2⟩ := a.tips loc x hl (.inr hm) h
    rcases h2 with h2 | h2
    ·exact (hn loc h1).1 h2
    ·exact (hn loc h1).2 h2
  tape := b.ext.tape.trans a.ext.tape
  os := b.ext.os.trans a.ext.os
  output := b.ext.output.trans a.ext.output }
 tips := fun loc x h1 h2 h3 => by
  obtain ⟨h4, h5⟩ := b.tips loc x h1 h2 (Nat.lt_of_lt_of_le h3 a.ext.size)
  exact a.tips loc x h4 h5 h3
 own := fun loc h x h1 h2 h3 => by
  obtain ⟨h4, h', h5⟩ := b.own loc h x h1 h2 (Nat.lt_of_lt_of_le h3 a.ext.size)
  exact a.own loc h' x h4 h5 h3
 cold := fun x o v h1 h2 => a.cold x o v (b.cold x o v h1 (Nat.lt_of_lt_of_le h2 a.ext.size)) h2

end Go.V

/- What becomes of the invariant: memory that only grows, a new object, new memory that no one writes. -/
namespace Go.V

theorem lt_of_some {α : Type} {a : Array α} {i : Nat} {x : α} (h : a[i]? = some x) : i < a.size := by
 rcases Nat.lt_or_ge i a.size with h' | h'
 ·exact h'
 ·rw [Array.getElem?_eq_none h'] at h; cases h

theorem qcu {w : World} {b o : Nat} {v : Value} (h : w.cell? ⟨b, o, none⟩ = some v) : b < w.heap.size := by
 unfold World.cell? at h
 cases hb : w.heap[b]? with
 | none => simp [hb] at h
 | some x => exact lt_of_some hb

theorem qjm {w w' : World} {b o : Nat} (h : w'.heap[b]? = w.heap[b]?) : w'.cell? ⟨b, o, none⟩ = w.cell? ⟨b, o, none⟩ := by
 unfold World.cell?
 simp only [h]

theorem Inv.muLt {g : G} {σ : Store} {w : World} (I : Inv g σ w) {loc h B : Nat} (hl : loc < g.n) (hm : g.mu loc h = some B) : B < w.heap.size := by
 obtain ⟨cs, gen, wgen, e, h1, h2⟩ := I.muc _ _ _ hl hm
 obtain ⟨B', arr, elem, fr, e1, e2, _⟩ := I.old _ _ _ _ _ e h1 h2
 rw [hm] at e1; cases e1
 exact lt_of_some e2

theorem Inv.mpLt {g : G} {σ : Store} {w : World} (I : Inv g σ w) {loc B : Nat} (hl : loc < g.n) (hm : g.mp loc = some B) : B < w.heap.size := by
 obtain ⟨es, e⟩ := I.mpc _ _ hl hm
 obtain ⟨B', ents, clock, e1, e2, _⟩ := I.map _ _ e
 rw [hm] at e1; cases e1
 exact lt_of_some e2

theorem EntsR.mono {g g' : G} (h : g.Le g') : ∀ (es : List (T × V)) (l : List MapEntry), EntsR g es l → EntsR g' es l
 | [], _, hh => by simpa [EntsR] using hh
 | (k, v) :: es, l, hh => by
  simp only [EntsR] at hh ⊢
  obtain ⟨e, r, h1, h2, h3, h4⟩ := hh
  exact ⟨e, r, h1, TR.mono h.fz _ _ h2, VR.mono h _ _ h3, EntsR.mono h es r h4⟩

/-- On the old places nothing of the ghost turns. -/
structure G.Same (g g' : G) : Prop where
 gn : ∀ loc, loc < g.n → g'.gn loc = g.gn loc
 mu : ∀ loc h, loc < g.n → g'.mu loc h = g.mu loc h
 sz : ∀ loc h, loc < g.n → g'.sz loc h = g.sz loc h
 bs : ∀ loc h, loc < g.n → g'.bs loc h = g.bs loc h
 mp : ∀ loc, loc < g.n → g'.mp loc = g.mp loc

theorem G.Same.le {g g' : G} (h : g.Same g') (hf : fzLe g.fz g'.fz) (hn : g.n ≤ g'.n) : g.Le g' where
 fz := hf
 n := hn
 gn := fun l hl => by rw [h.gn l hl]; exact Nat.le_refl _
 mu := fun l x B hl _ hB => by rw [← h.mu l x hl]; exact hB
 sz := fun l x hl _ => h.sz l x hl
 bs := fun l x hl _ => h.bs l x hl
 mp := fun l B hl hB => by rw [← h.mp l hl]; exact hB

/-- Memory that grows: what the old objects owe. 'new': the objects that come behind. -/
theorem Inv.growAny {g g' : G} {σ new : Store} {w w' : World} (I : Inv g σ w) (S : g.Same g') (hf : fzLe g.fz g'.fz) (hn : g'.n = g.n + new.length)
  (hold : ∀ b, b < w.heap.size → w'.heap[b]? = w.heap[b]?)
  (hfz : ∀ b o v, g'.fz b o = some v → g.fz b o = some v ∨ (w.heap.size ≤ b ∧ w'.cell? ⟨b, o, none⟩ = some v))
  (ncur : ∀ i cs gen wgen, new[i]? = some (.cells cs gen wgen) → g'.gn (g.n + i) = gen ∧ wgen ≤ gen ∧ g'.sz (g.n + i) gen = cs.length)
  (ntip : ∀ i cs gen wgen, new[i]? = some (.cells cs gen wgen) → ∃ B arr elem fr, g'.mu (g.n + i) gen = some B ∧ (∀ o, g'.fz B o = none) ∧
   w'.heap[B]? = some (.cells arr elem fr) ∧ ∀ o, o < arr.size ∨ (gen = 0 ∧ o = arr.size) → ¬ (fr.1 ≤ o ∧ o < fr.2))
  (nold : ∀ i cs gen wgen h, new[i]? = some (.cells cs gen wgen) → wgen ≤ h → h ≤ gen → ∃ B arr elem fr, g'.mu (g.n + i) h = some B ∧ w'.heap[B]? = some (.cells arr elem fr) ∧
   arr.size = g'.bs (g.n + i) h ∧ g'.sz (g.n + i) h ≤ arr.size ∧ g'.sz (g.n + i) h ≤ cs.length ∧ ∀ j c, j < g'.sz (g.n + i) h → cs[j]? = some c → ∃ v, arr[j]? = some v ∧ v.oneCell' = true ∧ VR g' c v)
  (nmuc : ∀ i h B, i < new.length → g'.mu (g.n + i) h = some B → (∀ l h, l < g.n → g.mu l h ≠ some B) ∧ ∃ cs gen wgen, new[i]? = some (.cells cs gen wgen) ∧ wgen ≤ h ∧ h ≤ gen)
  (nmap : ∀ i es, new[i]? = some (.map es) → ∃ B ents clock, g'.mp (g.n + i) = some B ∧ w'.heap[B]? = some (.map ents clock) ∧ EntsR g' es ents.toList)
  (nmpc : ∀ i B, i < new.length → g'.mp (g.n + i) = some B → (∀ l, l < g.n → g.mp l ≠ some B) ∧ ∃ es, new[i]? = some (.map es))
  (nsep : ∀ i h1 j h2 B, i < new.length → j < new.length → g'.mu (g.n + i) h1 = some B → g'.mu (g.n + j) h2 = some B → i = j)
  (nsepm : ∀ i j B, i < new.length → j < new.length → g'.mp (g.n + i) = some B → g'.mp (g.n + j) = some B → i = j) :
  Inv g' (σ ++ new) w' := by
 have hle : g.Le g' := S.le hf (by omega)
 have hlen := I.len
 have part : ∀ loc x, (σ ++ new)[loc]? = some x → (loc < g.n ∧ σ[loc]? = some x) ∨ (∃ i, loc = g.n + i ∧ i < new.length ∧ new[i]? = some x) := by
  intro loc x hx
  rcases Nat.lt_or_ge loc σ.length with h | h
  ·rw [List.getElem?_append_left h] at hx; exact .inl ⟨by omega, hx⟩
  ·rw [List.getElem?_append_right h] at hx
   refine .inr ⟨loc - σ.length, by omega, ?_, hx⟩
   rcases Nat.lt_or_ge (loc - σ.length) new.length with h' | h'
   ·exact h'
   ·rw [List.getElem?_eq_none h'] at hx; cases hx
 have partn : ∀ loc, loc < g'.n → loc < g.n ∨ ∃ i, loc = g.n + i ∧ i < new.length := by
  intro loc hl
  rcases Nat.lt_or_ge loc g.n with h | h
  ·exact .inl h
  ·exact .inr ⟨loc - g.n, by omega, by omega⟩
 have inl : ∀ loc x, loc < g.n → σ[loc]? = some x → (σ ++ new)[loc]? = some x := by
  intro loc x hl hx
  rw [List.getElem?_append_left (by omega)]; exact hx
 have inr : ∀ i x, new[i]? = some x → (σ ++ new)[g.n + i]? = some x := by
  intro i x hx
  rw [List.getElem?_append_right (by omega), hlen, Nat.add_sub_cancel_left]; exact hx
 refine ⟨by simp; omega, ?_, ?_, ?_, ?_, ?_, ?_, ?_, ?_, ?_⟩
 ·intro b o v hv
  rcases hfz b o v hv with h | h
  ·have h1 := I.fz b o v h
   rw [qjm (hold b (qcu h1))]; exact h1
  ·exact h.2
 ·intro loc cs gen wgen hx
  rcases part _ _ hx with ⟨hl, hx⟩ | ⟨i, rfl, _, hx⟩
  ·rw [S.gn loc hl, S.sz loc gen hl]; exact I.cur _ _ _ _ hx
  ·exact ncur _ _ _ _ hx
 ·intro loc cs gen wgen hx
  rcases part _ _ hx with ⟨hl, hx⟩ | ⟨i, rfl, _, hx⟩
  ·obtain ⟨B, arr, elem, fr, h1, h2, h3, h4⟩ := I.tip _ _ _ _ hx
   have hB : B < w.heap.size := lt_of_some h3
   refine ⟨B, arr, elem, fr, by rw [S.mu loc gen hl]; exact h1, fun o => ?_, by rw [hold B hB]; exact h3, h4⟩
   cases hz : g'.fz B o with
   | none => rfl
   | some v =>
    rcases hfz B o v hz with h | h
    ·rw [h2 o] at h; cases h
    ·omega
  ·exact ntip _ _ _ _ hx
 ·intro loc cs gen wgen h hx hw hg
  rcases part _ _ hx with ⟨hl, hx⟩ | ⟨i, rfl, _, hx⟩
  ·obtain ⟨B, arr, elem, fr, h1, h2, h3, h4, h5, h6⟩ := I.old _ _ _ _ _ hx hw hg
   refine ⟨B, arr, elem, fr, by rw [S.mu loc h hl]; exact h1, by rw [hold B (lt_of_some h2)]; exact h2, by rw [S.bs loc h hl]; exact h3, by rw [S.sz loc h hl]; exact h4, by rw [S.sz loc h hl]; exact h5, ?_⟩
   intro j c hj hc
   rw [S.sz loc h hl] at hj
   obtain ⟨v, e1, e2, e3⟩ := h6 j c hj hc
   exact ⟨v, e1, e2, VR.mono hle _ _ e3⟩
  ·exact nold _ _ _ _ _ hx hw hg
 ·intro loc h B hl hm
  rcases partn loc hl with hl | ⟨i, rfl, hi⟩
  ·rw [S.mu loc h hl] at hm
   obtain ⟨cs, gen, wgen, e, h1, h2⟩ := I.muc _ _ _ hl hm
   exact ⟨cs, gen, wgen, inl _ _ hl e, h1, h2⟩
  ·obtain ⟨_, cs, gen, wgen, e, h1, h2⟩ := nmuc _ _ _ hi hm
   exact ⟨cs, gen, wgen, inr _ _ e, h1, h2⟩
 ·intro loc es hx
  rcases part _ _ hx with ⟨hl, hx⟩ | ⟨i, rfl, _, hx⟩
  ·obtain ⟨B, ents, clock, h1, h2, h3⟩ := I.map _ _ hx
   exact ⟨B, ents, clock, by rw [S.mp loc hl]; exact h1, by rw [hold B (lt_of_some h2)]; exact h2, EntsR.mono hle _ _ h3⟩
  ·exact nmap _ _ hx
 ·intro loc B hl hm
  rcases partn loc hl with hl | ⟨i, rfl, hi⟩
  ·rw [S.mp loc hl] at hm
   obtain ⟨es, e⟩ := I.mpc _ _ hl hm
   exact ⟨es, inl _ _ hl e⟩
  ·obtain ⟨_, es, e⟩ := nmpc _ _ hi hm
   exact ⟨es, inr _ _ e⟩
 ·intro l1 h1 l2 h2 B hl1 hl2 hm1 hm2
  rcases partn l1 hl1 with a1 | ⟨i, rfl, a1⟩ <;> rcases partn l2 hl2 with a2 | ⟨j, rfl, a2⟩
  ·rw [S.mu _ _ a1] at hm1; rw [S.mu _ _ a2] at hm2
   exact I.sep _ _ _ _ _ a1 a2 hm1 hm2
  ·rw [S.mu _ _ a1] at hm1
   exact absurd hm1 ((nmuc _ _ _ a2 hm2).1 _ _ a1)
  ·rw [S.mu _ _ a2] at hm2
   exact absurd hm2 ((nmuc _ _ _ a1 hm1).1 _ _ a2)
  ·rw [nsep _ _ _ _ _ a1 a2 hm1 hm2]
 ·intro l1 l2 B hl1 hl2 hm1 hm2
  rcases partn l1 hl1 with a1 | ⟨i, rfl, a1⟩ <;> rcases partn l2 hl2 with a2 | ⟨j, rfl, a2⟩
  ·rw [S.mp _ a1] at hm1; rw [S.mp _ a2] at hm2
   exact I.sepm _ _ _ a1 a2 hm1 hm2
  ·rw [S.mp _ a1] at hm1
   exact absurd hm1 ((nmpc _ _ a2 hm2).1 _ a1)
  ·rw [S.mp _ a2] at hm2
   exact absurd hm2 ((nmpc _ _ a1 hm1).1 _ a2)
  ·rw [nsepm _ _ _ a1 a2 hm1 hm2]

theorem Inv.grow {g g' : G} {σ new : Store} {w w' : World} (I : Inv g σ w) (S : g.Same g') (hf : fzLe g.fz g'.fz) (hn : g'.n = g.n + new.length)
  (hold : ∀ b, b < w.heap.size → w'.heap[b]? = w.heap[b]?)
  (hfz : ∀ b o v, g'.fz b o = some v → g.fz b o = some v ∨ (w.heap.size ≤ b ∧ w'.cell? ⟨b, o, none⟩ = some v))
  (ncur : ∀ i cs gen wgen, new[i]? = some (.cells cs gen wgen) → g'.gn (g.n + i) = gen ∧ wgen ≤ gen ∧ g'.sz (g.n + i) gen = cs.length)
  (ntip : ∀ i cs gen wgen, new[i]? = some (.cells cs gen wgen) → ∃ B arr elem fr, g'.mu (g.n + i) gen = some B ∧ (∀ o, g'.fz B o = none) ∧
   w'.heap[B]? = some (.cells arr elem fr) ∧ ∀ o, o < arr.size ∨ (gen = 0 ∧ o = arr.size) → ¬ (fr.1 ≤ o ∧ o < fr.2))
  (nold : ∀ i cs gen wgen h, new[i]? = some (.cells cs gen wgen) → wgen ≤ h → h ≤ gen → ∃ B arr elem fr, g'.mu (g.n + i) h = some B ∧ w'.heap[B]? = some (.cells arr elem fr) ∧
   arr.size = g'.bs (g.n + i) h ∧ g'.sz (g.n + i) h ≤ arr.size ∧ g'.sz (g.n + i) h ≤ cs.length ∧ ∀ j c, j < g'.sz (g.n + i) h → cs[j]? = some c → ∃ v, arr[j]? = some v ∧ v.oneCell' = true ∧ VR g' c v)
  (nmuc : ∀ i h B, i < new.length → g'.mu (g.n + i) h = some B → w.heap.size ≤ B ∧ ∃ cs gen wgen, new[i]? = some (.cells cs gen wgen) ∧ wgen ≤ h ∧ h ≤ gen)
  (nmap : ∀ i es, new[i]? = some (.map es) → ∃ B ents clock, g'.mp (g.n + i) = some B ∧ w'.heap[B]? = some (.map ents clock) ∧ EntsR g' es ents.toList)
  (nmpc : ∀ i B, i < new.length → g'.mp (g.n + i) = some B → w.heap.size ≤ B ∧ ∃ es, new[i]? = some (.map es))
  (nsep : ∀ i h1 j h2 B, i < new.length → j < new.length → g'.mu (g.n + i) h1 = some B → g'.mu (g.n + j) h2 = some B → i = j)
  (nsepm : ∀ i j B, i < new.length → j < new.length → g'.mp (g.n + i) = some B → g'.mp (g.n + j) = some B → i = j) :
  Inv g' (σ ++ new) w' := by
 refine I.growAny S hf hn hold hfz ncur ntip nold (fun i h B hi hm => ⟨fun l h' hl e => ?_, (nmuc i h B hi hm).2⟩) nmap (fun i B hi hm => ⟨fun l hl e => ?_, (nmpc i B hi hm).2⟩) nsep nsepm
 ·have := I.muLt hl e; have := (nmuc i h B hi hm).1; omega
 ·have := I.mpLt hl e; have := (nmpc i B hi hm).1; omega

/-- No new object: memory grows, and some of the new memory may be frozen. -/
theorem Inv.more {g g' : G} {σ : Store} {w w' : World} (I : Inv g σ w) (S : g.Same g') (hf : fzLe g.fz g'.fz) (hn : g'.n = g.n)
  (hold : ∀ b, b < w.heap.size → w'.heap[b]? = w.heap[b]?)
  (hfz : ∀ b o v, g'.fz b o = some v → g.fz b o = some v ∨ (w.heap.size ≤ b ∧ w'.cell? ⟨b, o, none⟩ = some v)) : Inv g' σ w' := by
 have := I.grow (new := []) S hf (by simpa using hn) hold hfz (by simp) (by simp) (by simp) (by simp) (by simp) (by simp) (by simp) (by simp)
 simpa using this

theorem Step.of_grow {g g' : G} {σ : Store} {w w' : World} (_I : Inv g σ w) (S : g.Same g') (hf : fzLe g.fz g'.fz) (hn : g.n ≤ g'.n) (hs : w.heap.size ≤ w'.heap.size)
  (hold : ∀ b, b < w.heap.size → w'.heap[b]? = w.heap[b]?) (ht : w'.tape = w.tape) (ho : w'.os = w.os) (hp : w'.output = w.output)
  (hfz : ∀ b o v, g'.fz b o = some v → g.fz b o = some v ∨ w.heap.size ≤ b)
  (hnew : ∀ loc h b, g.n ≤ loc → loc < g'.n → (g'.mu loc h = some b ∨ g'.mp loc = some b) → w.heap.size ≤ b) : Step g w g' w' where
 le := S.le hf hn
 ext := ⟨hs, fun b hb _ => hold b hb, ht, ho, hp⟩
 tips := fun loc b hl hm hb => by
  rcases Nat.lt_or_ge loc g.n with h | h
  ·rw [S.gn loc h, S.mu loc _ h, S.mp loc h] at hm; exact ⟨h, hm⟩
  ·have := hnew loc _ b h hl hm; omega
 own := fun loc h b hl hm hb => by
  rcases Nat.lt_or_ge loc g.n with h1 | h1
  ·rw [S.mu loc _ h1] at hm; exact ⟨h1, h, hm⟩
  ·have := hnew loc _ b h1 hl (.inl hm); omega
 cold := fun b o v h hb => by
  rcases hfz b o v h with h | h
  ·exact h
  ·omega

/-! ### A new object -/
def G.pushCells (g : G) (B cells size : Nat) : G := { g with
 n := g.n + 1
 gn := fun l => if l = g.n then 0 else g.gn l
 mu := fun l h => if l = g.n then (if h = 0 then some B else none) else g.mu l h
 sz := fun l h => if l = g.n then cells else g.sz l h
 bs := fun l h => if l = g.n then size else g.bs l h
 mp := fun l => if l = g.n then none else g.mp l }

def G.pushMap (g : G) (B : Nat) : G := { g with
 n := g.n + 1
 gn := fun l => if l = g.n then 0 else g.gn l
 mu := fun l h => if l = g.n then none else g.mu l h
 mp := fun l => if l = g.n then some B else g.mp l }

theorem qbk (g : G) (B c s : Nat) : g.Same (g.pushCells B c s) := by
 refine ⟨?_, ?_, ?_, ?_, ?_⟩ <;> (intros; simp only [G.pushCells]; rw [if_neg (by omega)])

theorem qrc (g : G) (B : Nat) : g.Same (g.pushMap B) := by
 refine ⟨?_, ?_, ?_, ?_, ?_⟩ <;> (intros; simp only [G.pushMap]; try rw [if_neg (by omega)])

theorem qav (h : Array Go.Obj) (o : Go.Obj) (b : Nat) (hb : b < h.size) : (h.push o)[b]? = h[b]? := by
 rw [Array.getElem?_push_lt hb, Array.getElem?_eq_getElem hb]

theorem qbe (h : Array Go.Obj) (o : Go.Obj) : (h.push o)[h.size]? = some o := by simp

/-- The world with one object more (and perhaps more draws). -/
theorem Inv.pushCells {g : G} {σ : Store} {w : World} (I : Inv g σ w) (cs : List V) (arr : Array Value) (elem : TypeId) (fr : Nat × Nat) (d : Nat)
  (hs : cs.length ≤ arr.size) (hfr : ∀ o, o ≤ arr.size → ¬ (fr.1 ≤ o ∧ o < fr.2))
  (hc : ∀ (i : Nat) (c : V), cs[i]? = some c → ∃ v, arr[i]? = some v ∧ v.oneCell' = true ∧ VR g c v) :
  Inv (g.pushCells w.heap.size cs.length arr.size) (σ ++ [.cells cs 0 0]) { w with heap := w.heap.push (.cells arr elem fr), drawn := d } ∧
  Step g w (g.pushCells w.heap.size cs.length arr.size) { w with heap := w.heap.push (.cells arr elem fr), drawn := d } := by
 have S := qbk g w.heap.size cs.length arr.size
 have hle : g.Le (g.pushCells w.heap.size cs.length arr.size) := S.le (fun _ _ _ h => h) (by simp [G.pushCells])
 refine ⟨I.grow S (fun _ _ _ h => h) (by simp [G.pushCells]) (fun b hb => qav _ _ _ hb) (fun b o v h => .inl h) ?_ ?_ ?_ ?_ ?_ ?_ ?_ ?_,
  Step.of_grow I S (fun _ _ _ h => h) (by simp [G.pushCells]) (by simp) (fun b hb => qav _ _ _ hb) rfl rfl rfl (fun _ _ _ h => .inl h) ?_⟩
 ·intro i cs' gen wgen h
  cases i with
  | zero => simp only [List.getElem?_cons_zero, Option.some.injEq, Obj.cells.injEq] at h; obtain ⟨rfl, rfl, rfl⟩ := h; simp [G.pushCells]
  | succ i => simp at h
 ·intro i cs' gen wgen h
  cases i with
  | zero =>
   simp only [List.getElem?_cons_zero, Option.some.injEq, Obj.cells.injEq] at h; obtain ⟨rfl, rfl, rfl⟩ := h
   refine ⟨w.heap.size, arr, elem, fr, by simp [G.pushCells], fun o => ?_, qbe _ _, fun o ho => hfr o (by omega)⟩
   show g.fz _ _ = none
   cases hz : g.fz w.heap.size o with
   | none => rfl
   | some v => have := qcu (I.fz _ _ _ hz); omega
  | succ i => simp at h
 ·intro i cs' gen wgen h hx hw hg
  cases i with
  | zero =>
   simp only [List.getElem?_cons_zero, Option.some.injEq, Obj.cells.injEq] at hx; obtain ⟨rfl, rfl, rfl⟩ := hx
   obtain rfl : h = 0 := by omega
   refine ⟨w.heap.size, arr, elem, fr, by simp [G.pushCells], qbe _ _, by simp [G.pushCells], by simp [G.pushCells]; exact hs, by simp [G.pushCells], ?_⟩
   intro j c _ hj
   obtain ⟨v, e1, e2, e3⟩ := hc j c hj
   exact ⟨v, e1, e2, VR.mono hle _ _ e3⟩
  | succ i => simp at hx
 ·intro i h B hi hm
  simp only [List.length_singleton] at hi
  obtain rfl : i = 0 := by omega
  simp only [G.pushCells, Nat.add_zero, if_true] at hm
  split at hm
  ·cases hm; exact ⟨Nat.le_refl _, cs, 0, 0, rfl, by omega, by omega⟩
  ·cases hm
 ·intro i es h
  cases i with
  | zero => simp at h
  | succ i => simp at h
 ·intro i B hi hm
  simp only [List.length_singleton] at hi
  obtain rfl : i = 0 := by omega
  simp [G.pushCells] at hm
 ·intro i h1 j h2 B hi hj _ _
  simp only [List.length_singleton] at hi hj
  omega
 ·intro i j B hi hj _ _
  simp only [List.length_singleton] at hi hj
  omega
 ·intro loc h b h1 h2 h3
  have : loc = g.n := by simp [G.pushCells] at h2; omega
  subst this
  simp [G.pushCells] at h3
  omega

/-- A new object that begins at generation 1. -/
def G.pushCells1 (g : G) (B cells size : Nat) : G := { g with
 n := g.n + 1
 gn := fun l => if l = g.n then 1 else g.gn l
 mu := fun l h => if l = g.n then (if h = 1 then some B else none) else g.mu l h
 sz := fun l h => if l = g.n then cells else g.sz l h
 bs := fun l h => if l = g.n then size else g.bs l h
 mp := fun l => if l = g.n then none else g.mp l }
theorem qne (g : G) (B c s : Nat) : g.Same (g.pushCells1 B c s) := by
 refine ⟨?_, ?_, ?_, ?_, ?_⟩ <;> (intros; simp only [G.pushCells1]; rw [if_neg (by omega)])
/-- .. whose end may be frozen: it begins at generation 1. -/
theorem Inv.pushCells1 {g : G} {σ : Store} {w : World} (I : Inv g σ w) (cs : List V) (arr : Array Value) (elem : TypeId) (fr : Nat × Nat) (d : Nat)
  (hs : cs.length ≤ arr.size) (hfr : ∀ o, o < arr.size → ¬ (fr.1 ≤ o ∧ o < fr.2))
  (hc : ∀ (i : Nat) (c : V), cs[i]? = some c → ∃ v, arr[i]? = some v ∧ v.oneCell' = true ∧ VR g c v) :
  Inv (g.pushCells1 w.heap.size cs.length arr.size) (σ ++ [.cells cs 1 1]) { w with heap := w.heap.push (.cells arr elem fr), drawn := d } ∧
  Step g w (g.pushCells1 w.heap.size cs.length arr.size) { w with heap := w.heap.push (.cells arr elem fr), drawn := d } := by
 have S := qne g w.heap.size cs.length arr.size
 have hle : g.Le (g.pushCells1 w.heap.size cs.length arr.size) := S.le (fun _ _ _ h => h) (by simp [G.pushCells1])
 refine ⟨I.grow S (fun _ _ _ h => h) (by simp [G.pushCells1]) (fun b hb => qav _ _ _ hb) (fun b o v h => .inl h) ?_ ?_ ?_ ?_ ?_ ?_ ?_ ?_,
  Step.of_grow I S (fun _ _ _ h => h) (by simp [G.pushCells1]) (by simp) (fun b hb => qav _ _ _ hb) rfl rfl rfl (fun _ _ _ h => .inl h) ?_⟩
 ·intro i cs' gen wgen h
  cases i with
  | zero => simp only [List.getElem?_cons_zero, Option.some.injEq, Obj.cells.injEq] at h; obtain ⟨rfl, rfl, rfl⟩ := h; simp [G.pushCells1]
  | succ i => simp at h
 ·intro i cs' gen wgen h
  cases i with
  | zero =>
   simp only [List.getElem?_cons_zero, Option.some.injEq, Obj.cells.injEq] at h; obtain ⟨rfl, rfl, rfl⟩ := h
   refine ⟨w.heap.size, arr, elem, fr, by simp [G.pushCells1], fun o => ?_, qbe _ _, fun o ho => hfr o (by omega)⟩
   show g.fz _ _ = none
   cases hz : g.fz w.heap.size o with
   | none => rfl
   | some v => have := qcu (I.fz _ _ _ hz); omega
  | succ i => simp at h
 ·intro i cs' gen wgen h hx hw hg
  cases i with
  | zero =>
   simp only [List.getElem?_cons_zero, Option.some.injEq, Obj.cells.injEq] at hx; obtain ⟨rfl, rfl, rfl⟩ := hx
   obtain rfl : h = 1 := by omega
   refine ⟨w.heap.size, arr, elem, fr, by simp [G.pushCells1], qbe _ _, by simp [G.pushCells1], by simp [G.pushCells1]; exact hs, by simp [G.pushCells1], ?_⟩
   intro j c _ hj
   obtain ⟨v, e1, e2, e3⟩ := hc j c hj
   exact ⟨v, e1, e2, VR.mono hle _ _ e3⟩
  | succ i => simp at hx
 ·intro i h B hi hm
  simp only [List.length_singleton] at hi
  obtain rfl : i = 0 := by omega
  simp only [G.pushCells1, Nat.add_zero, if_true] at hm
  split at hm
  ·cases hm; exact ⟨Nat.le_refl _, cs, 1, 1, rfl, by omega, by omega⟩
  ·cases hm
 ·intro i es h
  cases i with
  | zero => simp at h
  | succ i => simp at h
 ·intro i B hi hm
  simp only [List.length_singleton] at hi
  obtain rfl : i = 0 := by omega
  simp [G.pushCells1] at hm
 ·intro i h1 j h2 B hi hj _ _
  simp only [List.length_singleton] at hi hj
  omega
 ·intro i j B hi hj _ _
  simp only [List.length_singleton] at hi hj
  omega
 ·intro loc h b h1 h2 h3
  have : loc = g.n := by simp [G.pushCells1] at h2; omega
  subst this
  simp [G.pushCells1] at h3
  omega

/-- A block that stands already, and that no one has, becomes an object. -/
theorem Inv.adopt {g : G} {σ : Store} {w : World} (I : Inv g σ w) (cs : List V) (arr : Array Value) (elem : TypeId) (b : Nat) (hb : w.heap[b]? = some (.cells arr elem (0, 0)))
  (hmu : ∀ l h, l < g.n → g.mu l h ≠ some b) (hfz : ∀ o, g.fz b o = none) (hs : cs.length ≤ arr.size)
  (hc : ∀ (i : Nat) (c : V), cs[i]? = some c → ∃ v, arr[i]? = some v ∧ v.oneCell' = true ∧ VR g c v) :
  Inv (g.pushCells b cs.length arr.size) (σ ++ [.cells cs 0 0]) w := by
 have S := qbk g b cs.length arr.size
 have hle : g.Le (g.pushCells b cs.length arr.size) := S.le (fun _ _ _ h => h) (by simp [G.pushCells])
 refine I.growAny S (fun _ _ _ h => h) (by simp [G.pushCells]) (fun _ _ => rfl) (fun b o v h => .inl h) ?_ ?_ ?_ ?_ ?_ ?_ ?_ ?_
 ·intro i cs' gen wgen h
  cases i with
  | zero => simp only [List.getElem?_cons_zero, Option.some.injEq, Obj.cells.injEq] at h; obtain ⟨rfl, rfl, rfl⟩ := h; simp [G.pushCells]
  | succ i => simp at h
 ·intro i cs' gen wgen h
  cases i with
  | zero =>
   simp only [List.getElem?_cons_zero, Option.some.injEq, Obj.cells.injEq] at h; obtain ⟨rfl, rfl, rfl⟩ := h
   exact ⟨b, arr, elem, (0, 0), by simp [G.pushCells], hfz, hb, fun o _ => by simp⟩
  | succ i => simp at h
 ·intro i cs' gen wgen h hx hw hg
  cases i with
  | zero =>
   simp only [List.getElem?_cons_zero, Option.some.injEq, Obj.cells.injEq] at hx; obtain ⟨rfl, rfl, rfl⟩ := hx
   obtain rfl : h = 0 := by omega
   refine ⟨b, arr, elem, (0, 0), by simp [G.pushCells], hb, by simp [G.pushCells], by simp [G.pushCells]; exact hs, by simp [G.pushCells], ?_⟩
   intro j c _ hj
   obtain ⟨v, e1, e2, e3⟩ := hc j c hj
   exact ⟨v, e1, e2, VR.mono hle _ _ e3⟩
  | succ i => simp at hx
 ·intro i h B hi hm
  simp only [List.length_singleton] at hi
  obtain rfl : i = 0 := by omega
  simp only [G.pushCells, Nat.add_zero, if_true] at hm
  split at hm
  ·rename_i h0
   subst h0
   cases hm
   exact ⟨hmu, cs, 0, 0, rfl, Nat.le_refl _, Nat.le_refl _⟩
  ·cases hm
 ·intro i es hx
  cases i with
  | zero => simp at hx
  | succ i => simp at hx
 ·intro i B hi hm
  simp only [List.length_singleton] at hi
  obtain rfl : i = 0 := by omega
  simp [G.pushCells] at hm
 ·intro i h1 j h2 B hi hj _ _
  simp only [List.length_singleton] at hi hj
  omega
 ·intro i j B hi hj _ _
  simp only [List.length_singleton] at hi hj
  omega

theorem Inv.pushMap {g : G} {σ : Store} {w : World} (I : Inv g σ w) :
  Inv (g.pushMap w.heap.size) (σ ++ [.map []]) { w with heap := w.heap.push (.map #[] 0) } ∧
  Step g w (g.pushMap w.heap.size) { w with heap := w.heap.push (.map #[] 0) } := by
 have S := qrc g w.heap.size
 refine ⟨I.grow S (fun _ _ _ h => h) (by simp [G.pushMap]) (fun b hb => qav _ _ _ hb) (fun b o v h => .inl h) ?_ ?_ ?_ ?_ ?_ ?_ ?_ ?_,
  Step.of_grow I S (fun _ _ _ h => h) (by simp [G.pushMap]) (by simp) (fun b hb => qav _ _ _ hb) rfl rfl rfl (fun _ _ _ h => .inl h) ?_⟩
 ·intro i cs' gen wgen h
  cases i <;> simp at h
 ·intro i cs' gen wgen h
  cases i <;> simp at h
 ·intro i cs' gen wgen h hx
  cases i <;> simp at hx
 ·intro i h B hi hm
  simp only [List.length_singleton] at hi
  obtain rfl : i = 0 := by omega
  simp [G.pushMap] at hm
 ·intro i es h
  cases i with
  | zero =>
   simp only [List.getElem?_cons_zero, Option.some.injEq, Obj.map.injEq] at h; subst h
   exact ⟨w.heap.size, #[], 0, by simp [G.pushMap], qbe _ _, by simp [EntsR]⟩
  | succ i => simp at h
 ·intro i B hi hm
  simp only [List.length_singleton] at hi
  obtain rfl : i = 0 := by omega
  simp only [G.pushMap, Nat.add_zero, if_true, Option.some.injEq] at hm
  subst hm
  exact ⟨Nat.le_refl _, [], rfl⟩
 ·intro i h1 j h2 B hi hj _ _
  simp only [List.length_singleton] at hi hj
  omega
 ·intro i j B hi hj _ _
  simp only [List.length_singleton] at hi hj
  omega
 ·intro loc h b h1 h2 h3
  have : loc = g.n := by simp [G.pushMap] at h2; omega
  subst this
  simp [G.pushMap] at h3
  omega

theorem Inv.sameHeap {g : G} {σ : Store} {w w' : World} (I : Inv g σ w) (h : w'.heap = w.heap) : Inv g σ w' := by
 refine I.more ⟨fun _ _ => rfl, fun _ _ _ => rfl, fun _ _ _ => rfl, fun _ _ _ => rfl, fun _ _ => rfl⟩ (fun _ _ _ h => h) rfl (fun b _ => by rw [h]) (fun _ _ _ h => .inl h)

theorem Step.sameHeap {g : G} {σ : Store} {w w' : World} (_I : Inv g σ w) (h : w'.heap = w.heap) (ht : w'.tape = w.tape) (ho : w'.os = w.os) (hp : w'.output = w.output) : Step g w g w' where
 le := G.Le.refl g
 ext := ⟨by rw [h]; exact Nat.le_refl _, fun b _ _ => by rw [h], ht, ho, hp⟩
 tips := fun _ _ h1 h2 _ => ⟨h1, h2⟩
 own := fun _ h _ h1 h2 _ => ⟨h1, h, h2⟩
 cold := fun _ _ _ h _ => h

/-- New memory that no one will write: frozen whole. -/
def G.freezeNew (g : G) (w w' : World) : G := { g with
 fz := fun b o => match g.fz b o with
  | some v => some v
  | none => if w.heap.size ≤ b then w'.cell? ⟨b, o, none⟩ else none }

theorem qhc (g : G) (w w' : World) : g.Same (g.freezeNew w w') := ⟨fun _ _ => rfl, fun _ _ _ => rfl, fun _ _ _ => rfl, fun _ _ _ => rfl, fun _ _ => rfl⟩

theorem qge (g : G) (w w' : World) : fzLe g.fz (g.freezeNew w w').fz := fun b o v h => by simp [G.freezeNew, h]

theorem Inv.freezeNew {g : G} {σ : Store} {w w' : World} (I : Inv g σ w) (hs : w.heap.size ≤ w'.heap.size) (hold : ∀ b, b < w.heap.size → w'.heap[b]? = w.heap[b]?)
  (ht : w'.tape = w.tape) (ho : w'.os = w.os) (hp : w'.output = w.output) : Inv (g.freezeNew w w') σ w' ∧ Step g w (g.freezeNew w w') w' := by
 refine ⟨I.more (qhc g w w') (qge g w w') rfl hold ?_, Step.of_grow I (qhc g w w') (qge g w w') (Nat.le_refl _) hs hold ht ho hp ?_ ?_⟩
 ·intro b o v h
  simp only [G.freezeNew] at h
  split at h
  ·rename_i u hu; cases h; exact .inl hu
  ·split at h
   ·exact .inr ⟨by assumption, h⟩
   ·cases h
 ·intro b o v h
  simp only [G.freezeNew] at h
  split at h
  ·rename_i u hu; cases h; exact .inl hu
  ·split at h
   ·exact .inr (by assumption)
   ·cases h
 ·intro loc h b h1 h2
  simp only [G.freezeNew] at h2
  omega

end Go.V

/- Each operation of the interpreter is the model's: numbers, strings, parts of values. -/
namespace Go.V

def OpOk (P : Program) (g : G) (w : World) (s : Sem Next) (v : V) (σ' : Store) : Prop :=
 ∃ cv w' g', (s.run P w = .ok (.value cv) w' ∨ (s.run P w = .ok .skip w' ∧ cv = undef)) ∧ VR g' v cv ∧ Inv g' σ' w' ∧ Step g w g' w'

theorem OpOk.val {P : Program} {g : G} {σ : Store} {w : World} {s : Sem Next} {v : V} {cv : Value} (I : Inv g σ w) (h : s.run P w = .ok (.value cv) w) (hv : VR g v cv) : OpOk P g w s v σ :=
 ⟨cv, w, g, .inl h, hv, I, Step.refl g w⟩

theorem qah {P : Program} {t : TypeId} {x : TI} (h : tiOf P t = some x) :
  ∃ i d, P.info? t = some i ∧ P.underlying t = some d ∧ x.agg = qsg d ∧ x.size = i.size ∧ x.bytes = i.bytes ∧ x.zero = i.zero.bind quw ∧ x.shape = shapeOf d ∧ x.eqs = eqsOf P t d := by
 unfold tiOf at h
 split at h
 ·rename_i i d h1 h2
  cases h
  exact ⟨i, d, h1, h2, rfl, rfl, rfl, rfl, rfl, rfl⟩
 ·cases h

theorem qan {P : Program} {t : TypeId} {d : TypeDesc} (h : P.underlying t = some d) (w : World) : (underlying t).run P w = .ok d w := by
 simp [underlying, h]
theorem qgl {P : Program} {t : TypeId} {i : TypeInfo} (h : P.info? t = some i) (w : World) : (typeInfo t).run P w = .ok i w := by
 simp [typeInfo, h]
theorem qbn {P : Program} {t : TypeId} {i : TypeInfo} (h : P.info? t = some i) (w : World) : (sizeOf t).run P w = .ok i.size w := by
 simp [sizeOf, qgl h]
theorem qde {P : Program} {t : TypeId} {i : TypeInfo} {z : Value} (h : P.info? t = some i) (hz : i.zero = some z) (w : World) : (zeroValue t).run P w = .ok z w := by
 simp [zeroValue, qgl h, hz]
theorem qep {P : Program} {t : TypeId} {d : TypeDesc} (h : P.underlying t = some d) (w : World) : (isAgg t).run P w = .ok (qsg d) w := by
 simp only [isAgg, Sem.run_bind, qan h, Result.andThen_ok]
 cases d <;> simp [qsg]

theorem VRs.length {g : G} : ∀ {xs : List V} {l : List Value}, VRs g xs l → xs.length = l.length
 | [], l, h => by simp only [VRs] at h; subst h; rfl
 | x :: xs, l, h => by
  simp only [VRs] at h
  obtain ⟨v, r, rfl, _, h2⟩ := h
  simp [VRs.length h2]

theorem VRs.get {g : G} : ∀ {xs : List V} {l : List Value}, VRs g xs l → ∀ (i : Nat) (x : V), xs[i]? = some x → ∃ v, l[i]? = some v ∧ VR g x v
 | [], l, _, i, x, hx => by simp at hx
 | y :: xs, l, h, i, x, hx => by
  simp only [VRs] at h
  obtain ⟨v, r, rfl, h1, h2⟩ := h
  cases i with
  | zero => simp at hx; subst hx; exact ⟨v, rfl, h1⟩
  | succ i => simp at hx; obtain ⟨u, e, hu⟩ := VRs.get h2 i x hx; exact ⟨u, by simpa using e, hu⟩

theorem VRs.of_get {g : G} : ∀ {xs : List V} {l : List Value}, xs.length = l.length → (∀ (i : Nat) (x : V), xs[i]? = some x → ∃ v, l[i]? = some v ∧ VR g x v) → VRs g xs l
 | [], [], _, _ => rfl
 | [], _ :: _, h, _ => by simp at h
 | _ :: _, [], h, _ => by simp at h
 | x :: xs, v :: r, h, hh => by
  simp only [VRs]
  obtain ⟨u, e, hu⟩ := hh 0 x rfl
  simp at e; subst e
  refine ⟨v, r, rfl, hu, VRs.of_get (by simpa using h) fun i y hy => ?_⟩
  obtain ⟨u, e, hu⟩ := hh (i + 1) y (by simpa using hy)
  exact ⟨u, by simpa using e, hu⟩

theorem qno {g : G} : ∀ (xs : List T) (l : List Value), VRs g (xs.map V.t) l ↔ TRs g.fz xs l
 | [], l => by simp [VRs, TRs]
 | x :: xs, l => by
  simp only [List.map_cons, VRs, TRs, VR]
  constructor
  ·rintro ⟨v, r, e, h1, h2⟩; exact ⟨v, r, e, h1, (qno xs r).1 h2⟩
  ·rintro ⟨v, r, e, h1, h2⟩; exact ⟨v, r, e, h1, (qno xs r).2 h2⟩

theorem qcd : ∀ {vs : List V} {ts : List T}, allT vs = some ts → vs = ts.map V.t
 | [], ts, h => by simp [allT] at h; subst h; rfl
 | .t x :: r, ts, h => by
  simp only [allT] at h
  cases hr : allT r with
  | none => simp [hr] at h
  | some xs => simp [hr] at h; subst h; simp [qcd hr]
 | .sl .. :: _, ts, h => by simp [allT] at h
 | .ptr .. :: _, ts, h => by simp [allT] at h
 | .mp .. :: _, ts, h => by simp [allT] at h
 | .fn .. :: _, ts, h => by simp [allT] at h
 | .agg .. :: _, ts, h => by simp [allT] at h
 | .tup .. :: _, ts, h => by simp [allT] at h
 | .bm .. :: _, ts, h => by simp [allT] at h

theorem qpd {g : G} {vs : List V} {a : Array Value} (h : VRs g vs a.toList) (h1 : a.toList.all Value.oneCell' = true) : VR g (qcc vs) (.agg a) := by
 unfold qcc
 split
 ·rename_i ts e
  rw [qcd e] at h
  simp only [VR, TR]
  exact ⟨a, rfl, (qno _ _).1 h, h1⟩
 ·simp only [VR]; exact ⟨a, rfl, h, h1⟩

theorem qvt {g : G} {vs : List V} {a : Array Value} (h : VRs g vs a.toList) : VR g (qjh vs) (.tuple a) := by
 unfold qjh
 split
 ·rename_i ts e
  rw [qcd e] at h
  simp only [VR, TR]
  exact ⟨a, rfl, (qno _ _).1 h⟩
 ·simp only [VR]; exact ⟨a, rfl, h⟩

theorem qcv {g : G} {v : V} {cv : Value} {cs : List V} (h : VR g v cv) (hc : cellsOf v = some cs) : VRs g cs cv.cells.toList ∧ cv.cells.toList.all Value.oneCell' = true := by
 cases v with
 | t x =>
  cases x <;> simp only [cellsOf, Option.some.injEq, reduceCtorEq] at hc <;> subst hc <;> simp only [VR, TR] at h
  case agg => obtain ⟨a, rfl, h1, h2⟩ := h; exact ⟨(qno _ _).2 h1, h2⟩
  case bool => subst h; simp [VRs, Value.cells, VR, TR, Value.oneCell']
  case int => subst h; simp [VRs, Value.cells, VR, TR, Value.oneCell']
  case str => obtain ⟨b, rfl, hb⟩ := h; simp [VRs, Value.cells, VR, TR, Value.oneCell', hb]
  case nilp => subst h; simp [VRs, Value.cells, VR, TR, Value.oneCell']
  case nils => subst h; simp [VRs, Value.cells, VR, TR, Value.oneCell']
  case nilm => subst h; simp [VRs, Value.cells, VR, TR, Value.oneCell']
  case nilf => subst h; simp [VRs, Value.cells, VR, TR, Value.oneCell']
  case list => obtain ⟨a, c, k, rfl, h'⟩ := h; refine ⟨?_, by simp [Value.cells, Value.oneCell']⟩; simp only [Value.cells, VRs]; exact ⟨_, _, rfl, by simp only [VR, TR]; exact ⟨a, c, k, rfl, h'⟩, rfl⟩
  case snap => obtain ⟨a, rfl, h'⟩ := h; refine ⟨?_, by simp [Value.cells, Value.oneCell']⟩; simp only [Value.cells, VRs]; exact ⟨_, _, rfl, by simp only [VR, TR]; exact ⟨a, rfl, h'⟩, rfl⟩
 | agg vs =>
  simp only [cellsOf, Option.some.injEq] at hc; subst hc
  simp only [VR] at h
  obtain ⟨a, rfl, h1, h2⟩ := h
  exact ⟨h1, h2⟩
 | tup => simp [cellsOf] at hc
 | sl => simp only [cellsOf, Option.some.injEq] at hc; subst hc; have h0 := h; simp only [VR] at h; obtain ⟨_, _, _, a, c, rfl, _⟩ := h; exact ⟨⟨_, _, rfl, h0, rfl⟩, by simp [Value.cells, Value.oneCell']⟩
 | ptr => simp only [cellsOf, Option.some.injEq] at hc; subst hc; have h0 := h; simp only [VR] at h; obtain ⟨_, _, a, rfl, _⟩ := h; exact ⟨⟨_, _, rfl, h0, rfl⟩, by simp [Value.cells, Value.oneCell']⟩
 | mp => simp only [cellsOf, Option.some.injEq] at hc; subst hc; have h0 := h; simp only [VR] at h; obtain ⟨_, a, rfl, _⟩ := h; exact ⟨⟨_, _, rfl, h0, rfl⟩, by simp [Value.cells, Value.oneCell']⟩
 | fn => simp only [cellsOf, Option.some.injEq] at hc; subst hc; have h0 := h; simp only [VR] at h; obtain ⟨a, rfl, _⟩ := h; exact ⟨⟨_, _, rfl, h0, rfl⟩, by simp [Value.cells, Value.oneCell']⟩
 | bm => simp only [cellsOf, Option.some.injEq] at hc; subst hc; have h0 := h; simp only [VR] at h; obtain ⟨a, rfl, _⟩ := h; exact ⟨⟨_, _, rfl, h0, rfl⟩, by simp [Value.cells, Value.oneCell']⟩

theorem sc_TR {fz : Nat → Nat → Option Value} {v : Value} {x : T} (h : sc v = some x) : TR fz x v ∧ v.oneCell' = true := by
 unfold sc at h
 split at h <;> simp only [Option.some.injEq, reduceCtorEq] at h <;> subst h <;> simp [TR, Value.oneCell']

theorem q0z {fz : Nat → Nat → Option Value} : ∀ {l : List Value} {xs : List T}, scs l = some xs → TRs fz xs l ∧ l.all Value.oneCell' = true
 | [], xs, h => by simp [scs] at h; subst h; simp [TRs]
 | v :: r, xs, h => by
  simp only [scs] at h
  split at h
  ·rename_i x ys h1 h2
   cases h
   have := q0z (fz := fz) h2
   have h3 := sc_TR (fz := fz) h1
   exact ⟨⟨v, r, rfl, h3.1, this.1⟩, by simp [h3.2]; simpa using this.2⟩
  ·cases h

theorem qkx {fz : Nat → Nat → Option Value} {v : Value} {x : T} (h : quw v = some x) : TR fz x v := by
 unfold quw at h
 split at h
 ·cases hc : scs (Array.toList ‹_›) with
  | none => simp [hc] at h
  | some xs => simp [hc] at h; subst h; simp only [TR]; exact ⟨_, rfl, q0z hc⟩
 ·cases hc : scs (Array.toList ‹_›) with
  | none => simp [hc] at h
  | some xs => simp [hc] at h; subst h; simp only [TR]; exact ⟨_, rfl, (q0z hc).1⟩
 ·exact (sc_TR h).1

/-! ### Bytes of strings -/
theorem bytes_append (a b : ByteArray) : bytes (a ++ b) = bytes a ++ bytes b := by
 simp [bytes]

theorem qbb (a : ByteArray) : (bytes a).length = a.size := by
 simp [bytes]

theorem toList_eq (b : ByteArray) : b.toList = b.data.toList := by
 exact ByteArray.toList_eq b

end Go.V

/- Operations that leave memory alone. -/
namespace Go.V

theorem eqL_eq : ∀ (a b : List Nat), eqL a b = true ↔ a = b
 | [], [] => by simp [eqL]
 | [], _ :: _ => by simp [eqL]
 | _ :: _, [] => by simp [eqL]
 | a :: x, b :: y => by simp [eqL, eqL_eq x y]

theorem qrv (a b : ByteArray) : eqL (bytes a) (bytes b) = (a.toList == b.toList) := by
 rw [Bool.eq_iff_iff, eqL_eq, toList_eq, toList_eq, beq_iff_eq]
 unfold bytes
 constructor
 ·intro h
  exact (List.map_inj_right (fun x y h => UInt8.toNat_inj.1 h)).1 h
 ·intro h; rw [h]

theorem qjb (a b : ByteArray) : eqL (bytes a) (bytes b) = (a == b) := by
 rw [qrv, beq_toListBytes]

theorem qta : ∀ (a b : List UInt8), qdn (a.map UInt8.toNat) (b.map UInt8.toNat) = Op.bytesLess a b
 | _, [] => by simp [qdn, Op.bytesLess]
 | [], b :: y => by simp [qdn, Op.bytesLess]
 | a :: x, b :: y => by
  simp only [List.map_cons, qdn, Op.bytesLess, qta x y]
  congr 1
  ·rw [Bool.eq_iff_iff]; simp [UInt8.lt_iff_toNat_lt, Nat.blt_eq]
  ·congr 1
   rw [Bool.eq_iff_iff]; simp [← UInt8.toNat_inj]

theorem qto (a b : ByteArray) : qdn (bytes a) (bytes b) = Op.bytesLess a.toList b.toList := by
 rw [toList_eq, toList_eq]; exact qta _ _

theorem qqt {P : Program} {w : World} {op : BinOp} {a b : ByteArray} {x : T} (fz : Nat → Nat → Option Value) (h : qfw op (bytes a) (bytes b) = some x) :
  ∃ cv, (Op.stringOp op a b).run P w = .ok cv w ∧ TR fz x cv := by
 unfold qfw at h
 have hm : (IntKind.i64.max : Int) = 9223372036854775807 := by rfl
 cases op <;> simp only [Option.some.injEq, reduceCtorEq] at h
 case add =>
  split at h
  ·rename_i hl
   cases h
   rw [qbb, qbb] at hl
   refine ⟨.string (a ++ b), ?_, by simp only [TR]; exact ⟨_, rfl, bytes_append a b⟩⟩
   simp only [Op.stringOp]
   rw [if_neg (by rw [hm]; omega)]
   rfl
  ·cases h
 all_goals
  subst h
  refine ⟨_, rfl, ?_⟩
  simp only [TR, qrv, qto]

theorem qrf {P : Program} {w : World} {op : BinOp} {k : IntKind} {a b : Int} {x : T} (t : TypeId) (fz : Nat → Nat → Option Value) (hs : op ≠ .shl) (hs' : op ≠ .shr) (h : qfa op k a b = some x) :
  ∃ cv, (binOp op t (.int k a) (.int k b)).run P w = .ok cv w ∧ TR fz x cv := by
 unfold qfa at h
 cases op <;> simp only [Option.some.injEq, reduceCtorEq, ne_eq, not_true_eq_false] at h hs hs'
 case quo =>
  split at h
  ·cases h
  ·rename_i h0; cases h
   refine ⟨_, ?_, by simp only [TR]; rfl⟩
   simp [binOp, Op.intDiv, h0]
 case rem =>
  split at h
  ·cases h
  ·rename_i h0; cases h
   refine ⟨_, ?_, by simp only [TR]; rfl⟩
   simp [binOp, Op.intDiv, h0]
 all_goals
  subst h
  refine ⟨_, ?_, by simp only [TR]; rfl⟩
  simp [binOp, Op.intArith, Op.intBits, Op.intCmp]

theorem qli {P : Program} {w : World} {k k' : IntKind} {a b : Int} (t : TypeId) (hb : ¬ b < 0) :
  (binOp .shl t (.int k a) (.int k' b)).run P w = .ok (.int k (k.wrap (a * 2 ^ (min b.toNat k.bits)))) w ∧
  (binOp .shr t (.int k a) (.int k' b)).run P w = .ok (.int k (a.fdiv (2 ^ (min b.toNat k.bits)))) w := by
 simp [binOp, Op.shift, hb]

theorem qkb {P : Program} {w : World} {a b : T} {x y : Value} {r : Bool} {t : TypeId} {d : Nat} {u : TypeDesc} {fz : Nat → Nat → Option Value} (hu : P.underlying t = some u)
  (h : qex (shapeOf u) a b = some r) (ha : TR fz a x) (hb : TR fz b y) : (Op.equalIn (d + 1) t x y).run P w = .ok r w := by
 cases u <;> simp only [shapeOf] at h <;> cases a <;> cases b <;> simp only [qex, Option.some.injEq, reduceCtorEq] at h <;> simp only [TR] at ha hb
 case int.int.int =>
  split at h
  ·cases h
   rename_i hkk
   subst ha hb hkk
   simp [Op.equalIn, qan hu]
  ·cases h
 case string.str.str =>
  obtain ⟨s1, rfl, rfl⟩ := ha
  obtain ⟨s2, rfl, rfl⟩ := hb
  subst h
  simp [Op.equalIn, qan hu, qjb]
 case bool.bool.bool =>
  subst ha hb h
  simp [Op.equalIn, qan hu]

theorem TRs.get {fz : Nat → Nat → Option Value} {xs : List T} {l : List Value} (h : TRs fz xs l) (i : Nat) (x : T) (hx : xs[i]? = some x) : ∃ v, l[i]? = some v ∧ TR fz x v := by
 let g : G := ⟨fz, 0, fun _ => 0, fun _ _ => none, fun _ _ => 0, fun _ _ => 0, fun _ => none⟩
 have h1 : VRs g (xs.map V.t) l := (qno (g := g) xs l).2 h
 obtain ⟨v, e, hv⟩ := VRs.get h1 i (.t x) (by simp [hx])
 exact ⟨v, e, by simpa only [VR] using hv⟩

theorem qhb {P : Program} {ty : TypeId → Option TI} (hty : ∀ t x, ty t = some x → tiOf P t = some x) {w : World} {xs ys : List T} {a b : Array Value} {fz : Nat → Nat → Option Value} {d : Nat}
  (ha : TRs fz xs a.toList) (hb : TRs fz ys b.toList) :
  ∀ (fs : List Field) (r : Bool), eqFields ty xs ys (fs.map fun f => (f.offset, f.type)) = some r → (fs.all fun f => f.name != "_" && qla P f.type) = true →
    (Op.eqFields (d + 1) a b fs).run P w = .ok r w
 | [], r, h, _ => by simp [eqFields] at h; subst h; simp [Op.eqFields]
 | f :: fs, r, h, hs => by
  simp only [List.map_cons, eqFields] at h
  simp only [List.all_cons, Bool.and_eq_true] at hs
  obtain ⟨⟨hn, hsc⟩, hs'⟩ := hs
  split at h
  ·rename_i i x y h1 h2 h3
   obtain ⟨inf, u, hi, hu, hag, hsz, hby, hze, hsh, heq⟩ := qah (hty _ _ h1)
   obtain ⟨v1, e1, r1⟩ := TRs.get ha _ _ h2
   obtain ⟨v2, e2, r2⟩ := TRs.get hb _ _ h3
   have hagg : qsg u = false := by
    unfold qla at hsc
    rw [hu] at hsc
    cases u <;> simp_all [qsg]
   have p1 : (part f.type a f.offset).run P w = .ok v1 w := by
    simp only [Array.getElem?_toList] at e1
    simp [part, qep hu, hagg, e1]
   have p2 : (part f.type b f.offset).run P w = .ok v2 w := by
    simp only [Array.getElem?_toList] at e2
    simp [part, qep hu, hagg, e2]
   have hname : f.name ≠ "_" := by simpa using hn
   rw [hsh] at h
   split at h
   ·rename_i hq
    have hq' := qkb (w := w) (d := d) hu hq r1 r2
    simp only [Op.eqFields, hname, ne_eq, not_false_eq_true, if_true, Sem.run_bind, p1, p2, hq', Result.andThen_ok, Bool.not_true, Bool.false_eq_true, if_false]
    exact qhb hty ha hb fs r h hs'
   ·rename_i hq
    cases h
    have hq' := qkb (w := w) (d := d) hu hq r1 r2
    simp only [Op.eqFields, hname, ne_eq, not_false_eq_true, if_true, Sem.run_bind, p1, p2, hq', Result.andThen_ok, Bool.not_false, Sem.run_pure]
   ·cases h
  ·cases h

theorem qyn {P : Program} {t : TypeId} {fs : Array Field} (h : eqsOf P t (.struct fs) = true) :
  P.stoodInHeld t = false ∧ P.eqGuardType P.depth t = false ∧ (fs.toList.all fun f => f.name != "_" && qla P f.type) = true := by
 simp only [eqsOf, Bool.and_eq_true, Bool.not_eq_true'] at h
 exact ⟨h.1.1, h.1.2, h.2⟩

theorem qlp {P : Program} {w : World} {g : G} {y : V} {cy : Value} {r : Bool} {t e : TypeId} {d : Nat} (hu : P.underlying t = some (.slice e)) (h : isNil y = some r) (hy : VR g y cy) :
  (∃ b n c, cy = .slice b n c) ∧ (Op.equalIn (d + 1) t (.slice none 0 0) cy).run P w = .ok r w ∧ (Op.equalIn (d + 1) t cy (.slice none 0 0)).run P w = .ok r w := by
 unfold isNil at h
 split at h <;> simp only [Option.some.injEq, reduceCtorEq] at h <;> subst h
 ·simp only [VR, TR] at hy; subst hy
  exact ⟨⟨_, _, _, rfl⟩, by simp [Op.equalIn, qan hu], by simp [Op.equalIn, qan hu]⟩
 ·simp only [VR, TR] at hy; obtain ⟨a, c, k, rfl, _⟩ := hy
  exact ⟨⟨_, _, _, rfl⟩, by simp [Op.equalIn, qan hu], by simp [Op.equalIn, qan hu]⟩
 ·simp only [VR] at hy; obtain ⟨_, _, _, a, c, rfl, _⟩ := hy
  exact ⟨⟨_, _, _, rfl⟩, by simp [Op.equalIn, qan hu], by simp [Op.equalIn, qan hu]⟩

end Go.V

/- Operations on memory: loads, stores, growth. -/
namespace Go.V

theorem TRcells.get {fz : Nat → Nat → Option Value} {b : Nat} : ∀ {cs : List T} {off : Nat}, TRcells fz b off cs → ∀ (i : Nat) (x : T), cs[i]? = some x → ∃ v, fz b (off + i) = some v ∧ v.oneCell' = true ∧ TR fz x v
 | [], _, _, i, x, hx => by simp at hx
 | y :: cs, off, h, i, x, hx => by
  simp only [TRcells] at h
  cases i with
  | zero => simp at hx; subst hx; exact h.1
  | succ i =>
   simp at hx
   have := TRcells.get h.2 i x hx
   rwa [show off + 1 + i = off + (i + 1) by omega] at this

theorem TRcells.of_get {fz : Nat → Nat → Option Value} {b : Nat} : ∀ {cs : List T} {off : Nat}, (∀ (i : Nat) (x : T), cs[i]? = some x → ∃ v, fz b (off + i) = some v ∧ v.oneCell' = true ∧ TR fz x v) → TRcells fz b off cs
 | [], _, _ => by simp [TRcells]
 | y :: cs, off, h => by
  simp only [TRcells]
  refine ⟨by simpa using h 0 y rfl, TRcells.of_get fun i x hx => ?_⟩
  have := h (i + 1) x (by simpa using hx)
  rwa [show off + (i + 1) = off + 1 + i by omega] at this

/-- Cells vs lie at ⟨B, off⟩. -/
def Lies (g : G) (w : World) (B off : Nat) (vs : List V) : Prop :=
 ∀ (i : Nat) (c : V), vs[i]? = some c → ∃ v, w.cell? ⟨B, off + i, none⟩ = some v ∧ v.oneCell' = true ∧ VR g c v

theorem add_plain (B off j : Nat) : (⟨B, off, none⟩ : Addr).add j = ⟨B, off + j, none⟩ := by
 unfold Addr.add
 split
 ·rename_i h; simp [h]
 ·rfl

theorem qeb {P : Program} {g : G} {w : World} {B off : Nat} {vs : List V} (h : Lies g w B off vs) :
  ∃ a : Array Value, (loadCells ⟨B, off, none⟩ vs.length).run P w = .ok a w ∧ VRs g vs a.toList ∧ a.toList.all Value.oneCell' = true := by
 let f : Nat → Value := fun j => (w.cell? ⟨B, off + j, none⟩).getD undef
 have hf : ∀ j (hj : j < vs.length), w.cell? ((⟨B, off, none⟩ : Addr).add j) = some (f j) ∧ (f j).oneCell' = true ∧ VR g vs[j] (f j) := by
  intro j hj
  obtain ⟨v, h1, h2, h3⟩ := h j vs[j] (by simp)
  rw [add_plain]
  have e : f j = v := by simp [f, h1]
  rw [e]
  exact ⟨h1, h2, h3⟩
 refine ⟨_, run_loadCells (P := P) w ⟨B, off, none⟩ vs.length f (fun j hj => (hf j hj).1), ?_, ?_⟩
 ·refine VRs.of_get (by simp) fun i x hx => ?_
  have hi : i < vs.length := by
   rcases Nat.lt_or_ge i vs.length with h' | h'
   ·exact h'
   ·rw [List.getElem?_eq_none h'] at hx; cases hx
  refine ⟨f i, by simp [hi], ?_⟩
  have := (hf i hi).2.2
  rw [List.getElem?_eq_getElem hi] at hx; cases hx
  exact this
 ·simp only [List.all_eq_true, List.mem_map, List.mem_range, forall_exists_index, and_imp]
  rintro x j hj rfl
  exact (hf j hj).2.1

theorem qir {P : Program} {t : TypeId} {i : TI} (ht : tiOf P t = some i) {g : G} {w : World} {B off : Nat} {vs : List V} (h : Lies g w B off vs) (hl : vs.length = i.size) {v : V}
  (hv : (if i.agg then some (qcc vs) else if i.size = 1 then vs[0]? else none) = some v) : ∃ cv, (loadVar t ⟨B, off, none⟩).run P w = .ok cv w ∧ VR g v cv := by
 obtain ⟨inf, u, hi, hu, hag, hsz, _⟩ := qah ht
 by_cases ha : i.agg = true
 ·rw [if_pos ha] at hv; cases hv
  obtain ⟨a, h1, h2, h3⟩ := qeb (P := P) h
  rw [hl, hsz] at h1
  refine ⟨.agg a, ?_, qpd h2 h3⟩
  simp [loadVar, qep hu, ← hag, ha, qbn hi, h1]
 ·rw [if_neg ha] at hv
  split at hv
  ·obtain ⟨cv, h1, _, h3⟩ := h 0 v hv
   refine ⟨cv, ?_, h3⟩
   simp only [Nat.add_zero] at h1
   have : qsg u = false := by rw [← hag]; simpa using ha
   simp [loadVar, qep hu, this, h1]
  ·cases hv

theorem qff {α : Type} (l : List α) (off n i : Nat) : ((l.drop off).take n)[i]? = if i < n then l[off + i]? else none := by
 rw [List.getElem?_take]
 split <;> simp

theorem cell_of_heap {w : World} {B o : Nat} {arr : Array Value} {elem : TypeId} {fr : Nat × Nat} (h : w.heap[B]? = some (.cells arr elem fr)) : w.cell? ⟨B, o, none⟩ = arr[o]? := by
 simp [World.cell?, h]

theorem Inv.lies {g : G} {σ : Store} {w : World} (I : Inv g σ w) {loc h : Nat} {cs : List V} {gen wgen : Nat} (hx : σ[loc]? = some (.cells cs gen wgen)) (hw : wgen ≤ h) (hg : h ≤ gen) :
  ∃ B, g.mu loc h = some B ∧ g.sz loc h ≤ cs.length ∧ ∀ off n, off + n ≤ g.sz loc h → Lies g w B off ((cs.drop off).take n) := by
 obtain ⟨B, arr, elem, fr, e1, e2, e3, e4, e5, e6⟩ := I.old _ _ _ _ _ hx hw hg
 refine ⟨B, e1, e5, fun off n hn i c hc => ?_⟩
 rw [qff] at hc
 split at hc
 ·obtain ⟨v, h1, h2, h3⟩ := e6 (off + i) c (by omega) hc
  exact ⟨v, by rw [cell_of_heap e2]; exact h1, h2, h3⟩
 ·cases hc

theorem qtd {g : G} {σ : Store} {w : World} (I : Inv g σ w) {b off : Nat} {cs : List T} (h : TRcells g.fz b off cs) : Lies g w b off (cs.map V.t) := by
 intro i c hc
 rw [List.getElem?_map] at hc
 cases hx : cs[i]? with
 | none => simp [hx] at hc
 | some x =>
  simp [hx] at hc; subst hc
  obtain ⟨v, h1, h2, h3⟩ := TRcells.get h i x hx
  exact ⟨v, I.fz _ _ _ h1, h2, by simpa only [VR] using h3⟩

theorem qbq (a : Addr) (h : a.spot = none) : a = ⟨a.block, a.off, none⟩ := by cases a; simp at h; simp [h]

theorem qns {P : Program} {t : TypeId} {i : TI} (ht : tiOf P t = some i) {g : G} {σ : Store} {w : World} (I : Inv g σ w) {x v : V} {cx : Value} (hx : VR g x cx) (h : qbx σ i x = some v) :
  ∃ cv, (Instr.loadAt t cx).run P w = .ok cv w ∧ VR g v cv := by
 unfold qbx at h
 split at h
 ·rename_i loc gn off ext
  split at h
  ·rename_i cs gen wgen hs
   split at h
   ·rename_i hc
    obtain ⟨h1, h2, h3, h4⟩ := hc
    simp only [VR] at hx
    obtain ⟨_, _, a, rfl, _, ha⟩ := hx
    obtain ⟨B, e1, e2, e3⟩ := I.lies hs h1 h2
    obtain ⟨h5, rfl⟩ := ha B e1
    have hl := e3 off i.size (by omega)
    obtain ⟨cv, r1, r2⟩ := qir ht (v := v) hl (by simp; omega) (by
     rw [← h]
     split
     ·rfl
     ·split
      ·rename_i hs1
       rw [qff, hs1]; simp
      ·rfl)
    exact ⟨cv, by simp [Instr.loadAt, Instr.sureAddr, r1], r2⟩
   ·cases h
  ·cases h
 ·rename_i cells
  simp only [VR, TR] at hx
  obtain ⟨a, rfl, hsp, hcs⟩ := hx
  split at h
  ·rename_i hle
   have hl := qtd I hcs
   have hl' : Lies g w a.block a.off ((cells.take i.size).map V.t) := by
    intro j c hc
    refine hl j c ?_
    rw [List.getElem?_map] at hc ⊢
    rw [List.getElem?_take] at hc
    split at hc
    ·exact hc
    ·simp at hc
   obtain ⟨cv, r1, r2⟩ := qir ht (v := v) hl' (by simp; omega) (by
    rw [← h]
    have hall : ∀ ts : List T, allT (ts.map V.t) = some ts := by
     intro ts; induction ts with
     | nil => rfl
     | cons x r ih => simp [allT, ih]
    split
    ·rw [qcc, hall]
    ·split
     ·rename_i h1
      rw [h1]
      cases cells <;> simp
     ·rfl)
   rw [← qbq a hsp] at r1
   exact ⟨cv, by simp [Instr.loadAt, Instr.sureAddr, r1], r2⟩
  ·cases h
 ·cases h

/-! ### Writing -/
theorem qbi (B : Nat) : ∀ (vs : List Value) (o : Nat) (w : World) (arr : Array Value) (elem : TypeId) (fr : Nat × Nat), w.heap[B]? = some (.cells arr elem fr) → o + vs.length ≤ arr.size →
  ∃ arr', (w.setCells B o vs).heap[B]? = some (.cells arr' elem fr) ∧ arr'.size = arr.size ∧ (∀ j, arr'[j]? = if o ≤ j ∧ j < o + vs.length then vs[j - o]? else arr[j]?) ∧
    (w.setCells B o vs).heap.size = w.heap.size ∧ (∀ b, b ≠ B → (w.setCells B o vs).heap[b]? = w.heap[b]?) ∧ (w.setCells B o vs).tape = w.tape ∧ (w.setCells B o vs).os = w.os ∧ (w.setCells B o vs).output = w.output
 | [], o, w, arr, elem, fr, h, _ => ⟨arr, h, rfl, fun j => by rw [if_neg (by simp only [List.length_nil]; omega)], rfl, fun _ _ => rfl, rfl, rfl, rfl⟩
 | v :: r, o, w, arr, elem, fr, h, hl => by
  simp only [List.length_cons] at hl
  have hB := lt_of_some h
  have h1 : (w.setCell ⟨B, o, none⟩ v).heap[B]? = some (.cells (arr.setIfInBounds o v) elem fr) := by
   simp [World.setCell, Array.getElem?_modify, h]
  obtain ⟨arr', e1, e2, e3, e4, e5, e6, e7, e8⟩ := qbi B r (o + 1) (w.setCell ⟨B, o, none⟩ v) _ elem fr h1 (by simp; omega)
  refine ⟨arr', e1, by simpa using e2, fun j => ?_, by rw [World.setCells, e4]; simp [World.setCell], fun b hb => ?_, by rw [World.setCells, e6]; rfl, by rw [World.setCells, e7]; rfl, by rw [World.setCells, e8]; rfl⟩
  ·rw [e3 j]
   simp only [List.length_cons, Array.getElem?_setIfInBounds]
   by_cases hj : o ≤ j ∧ j < o + (r.length + 1)
   ·rw [if_pos hj]
    by_cases h0 : o = j
    ·subst h0
     rw [if_neg (by omega), if_pos rfl, if_pos (by omega)]; simp
    ·rw [if_pos (by omega)]
     rw [show j - o = (j - (o + 1)) + 1 by omega]; simp
   ·rw [if_neg hj, if_neg (by omega), if_neg (by omega)]
  ·rw [World.setCells, e5 b hb]
   simp [World.setCell, Array.getElem?_modify, Ne.symm hb]

theorem qbw : ∀ (vs cs : List V) (o : Nat), (qac cs o vs).length = cs.length
 | [], cs, o => rfl
 | v :: r, cs, o => by rw [qac, qbw r]; simp

theorem qga : ∀ (vs cs : List V) (o j : Nat), o + vs.length ≤ cs.length → (qac cs o vs)[j]? = if o ≤ j ∧ j < o + vs.length then vs[j - o]? else cs[j]?
 | [], cs, o, j, _ => by rw [if_neg (by simp only [List.length_nil]; omega)]; rfl
 | v :: r, cs, o, j, h => by
  simp only [List.length_cons] at h
  rw [qac, qga r _ _ _ (by simp; omega)]
  simp only [List.length_cons, List.getElem?_set]
  by_cases hj : o ≤ j ∧ j < o + (r.length + 1)
  ·rw [if_pos hj]
   by_cases h0 : o = j
   ·subst h0
    rw [if_neg (by omega), if_pos rfl, if_pos (by omega)]; simp
   ·rw [if_pos (by omega)]
    rw [show j - o = (j - (o + 1)) + 1 by omega]; simp
  ·rw [if_neg hj, if_neg (by omega), if_neg (by omega)]

/-- One object of cells turns: what the invariant owes. -/
theorem Inv.update {g g' : G} {σ : Store} {w w' : World} (I : Inv g σ w) {loc B : Nat} {cs cs' : List V} {gen wgen gen' wgen' : Nat} (hx : σ[loc]? = some (.cells cs gen wgen)) (hB : g.mu loc gen = some B)
  (hle : g.Le g') (hn : g'.n = g.n) (hfz : g'.fz = g.fz)
  (same : ∀ l, l < g.n → l ≠ loc → g'.gn l = g.gn l ∧ (∀ h, g'.mu l h = g.mu l h) ∧ (∀ h, g'.sz l h = g.sz l h) ∧ (∀ h, g'.bs l h = g.bs l h))
  (hmp : ∀ l, g'.mp l = g.mp l)
  (hold : ∀ b, b < w.heap.size → b ≠ B → w'.heap[b]? = w.heap[b]?)
  (hcur : g'.gn loc = gen' ∧ wgen' ≤ gen' ∧ g'.sz loc gen' = cs'.length)
  (htip : ∃ B' arr elem fr, g'.mu loc gen' = some B' ∧ (∀ o, g.fz B' o = none) ∧ w'.heap[B']? = some (.cells arr elem fr) ∧ ∀ o, o < arr.size ∨ (gen' = 0 ∧ o = arr.size) → ¬ (fr.1 ≤ o ∧ o < fr.2))
  (hgens : ∀ h, wgen' ≤ h → h ≤ gen' → ∃ B' arr elem fr, g'.mu loc h = some B' ∧ w'.heap[B']? = some (.cells arr elem fr) ∧
   arr.size = g'.bs loc h ∧ g'.sz loc h ≤ arr.size ∧ g'.sz loc h ≤ cs'.length ∧ ∀ (i : Nat) (c : V), i < g'.sz loc h → cs'[i]? = some c → ∃ v, arr[i]? = some v ∧ v.oneCell' = true ∧ VR g' c v)
  (hmuc : ∀ h B', g'.mu loc h = some B' → wgen' ≤ h ∧ h ≤ gen' ∧ ((∃ h', g.mu loc h' = some B') ∨ w.heap.size ≤ B')) :
  Inv g' (σ.set loc (.cells cs' gen' wgen')) w' := by
 have hloc : loc < σ.length := by
  rcases Nat.lt_or_ge loc σ.length with h | h
  ·exact h
  ·rw [List.getElem?_eq_none h] at hx; cases hx
 have hln : loc < g.n := by rw [I.len]; exact hloc
 obtain ⟨B0, arr0, elem0, fr0, t1, t2, t3, t4⟩ := I.tip _ _ _ _ hx
 rw [hB] at t1; cases t1
 have other : ∀ l, l ≠ loc → (σ.set loc (.cells cs' gen' wgen'))[l]? = σ[l]? := fun l h => by
  rw [List.getElem?_set]; rw [if_neg (Ne.symm h)]
 have here : (σ.set loc (.cells cs' gen' wgen'))[loc]? = some (.cells cs' gen' wgen') := by
  simp [hloc]
 have ln : ∀ (l : Nat) (x : Obj), σ[l]? = some x → l < g.n := fun l x h => by
  rw [I.len]
  rcases Nat.lt_or_ge l σ.length with h' | h'
  ·exact h'
  ·rw [List.getElem?_eq_none h'] at h; cases h
 have hne : ∀ l h B', l < g.n → l ≠ loc → g.mu l h = some B' → B' ≠ B := fun l h B' h1 h2 h3 e => by
  subst e; exact h2 (I.sep _ _ _ _ _ h1 hln h3 hB)
 refine ⟨by rw [hn, I.len]; simp, ?_, ?_, ?_, ?_, ?_, ?_, ?_, ?_, ?_⟩
 ·intro b o v hv
  rw [hfz] at hv
  have h1 := I.fz _ _ _ hv
  have : b ≠ B := fun e => by rw [e, t2] at hv; cases hv
  rw [qjm (hold b (qcu h1) this)]; exact h1
 ·intro l c1 g1 w1 hl
  by_cases h : l = loc
  ·subst h; rw [here] at hl; cases hl; exact hcur
  ·rw [other l h] at hl
   obtain ⟨s1, s2, s3, _⟩ := same l (ln _ _ hl) h
   rw [s1, s3]; exact I.cur _ _ _ _ hl
 ·intro l c1 g1 w1 hl
  by_cases h : l = loc
  ·subst h; rw [here] at hl; cases hl; rw [hfz]; exact htip
  ·rw [other l h] at hl
   obtain ⟨s1, s2, s3, _⟩ := same l (ln _ _ hl) h
   obtain ⟨B', arr, elem, fr, h1, h2, h3, h4⟩ := I.tip _ _ _ _ hl
   exact ⟨B', arr, elem, fr, by rw [s2]; exact h1, by rw [hfz]; exact h2, by rw [hold B' (lt_of_some h3) (hne _ _ _ (ln _ _ hl) h h1)]; exact h3, h4⟩
 ·intro l c1 g1 w1 h' hl hw hg
  by_cases h : l = loc
  ·subst h; rw [here] at hl; cases hl; exact hgens h' hw hg
  ·rw [other l h] at hl
   obtain ⟨s1, s2, s3, s4⟩ := same l (ln _ _ hl) h
   obtain ⟨B', arr, elem, fr, e1, e2, e3, e4, e5, e6⟩ := I.old _ _ _ _ _ hl hw hg
   refine ⟨B', arr, elem, fr, by rw [s2]; exact e1, by rw [hold B' (lt_of_some e2) (hne _ _ _ (ln _ _ hl) h e1)]; exact e2, by rw [s4]; exact e3, by rw [s3]; exact e4, by rw [s3]; exact e5, ?_⟩
   intro i c hi hc
   rw [s3] at hi
   obtain ⟨v, r1, r2, r3⟩ := e6 i c hi hc
   exact ⟨v, r1, r2, VR.mono hle _ _ r3⟩
 ·intro l h' B' hl hm
  by_cases h : l = loc
  ·subst h
   obtain ⟨h1, h2, _⟩ := hmuc _ _ hm
   exact ⟨_, _, _, here, h1, h2⟩
  ·rw [hn] at hl
   obtain ⟨s1, s2, s3, s4⟩ := same l hl h
   rw [s2] at hm
   obtain ⟨c1, g1, w1, e, h1, h2⟩ := I.muc _ _ _ hl hm
   exact ⟨c1, g1, w1, by rw [other l h]; exact e, h1, h2⟩
 ·intro l es hl
  by_cases h : l = loc
  ·subst h; rw [here] at hl; cases hl
  ·rw [other l h] at hl
   obtain ⟨B', ents, clock, h1, h2, h3⟩ := I.map _ _ hl
   refine ⟨B', ents, clock, by rw [hmp]; exact h1, ?_, EntsR.mono hle _ _ h3⟩
   rw [hold B' (lt_of_some h2) (fun e => by subst e; rw [t3] at h2; cases h2)]; exact h2
 ·intro l B' hl hm
  rw [hn] at hl; rw [hmp] at hm
  obtain ⟨es, e⟩ := I.mpc _ _ hl hm
  refine ⟨es, ?_⟩
  rw [other l (fun h => by subst h; rw [hx] at e; cases e)]; exact e
 ·intro l1 h1 l2 h2 B' hl1 hl2 hm1 hm2
  rw [hn] at hl1 hl2
  by_cases a1 : l1 = loc <;> by_cases a2 : l2 = loc
  ·rw [a1, a2]
  ·subst a1
   obtain ⟨_, s2, _⟩ := same l2 hl2 a2
   rw [s2] at hm2
   obtain ⟨_, _, hor⟩ := hmuc _ _ hm1
   rcases hor with ⟨h', hh⟩ | hge
   ·exact I.sep _ _ _ _ _ hl1 hl2 hh hm2
   ·have := I.muLt hl2 hm2; omega
  ·subst a2
   obtain ⟨_, s2, _⟩ := same l1 hl1 a1
   rw [s2] at hm1
   obtain ⟨_, _, hor⟩ := hmuc _ _ hm2
   rcases hor with ⟨h', hh⟩ | hge
   ·exact I.sep _ _ _ _ _ hl1 hl2 hm1 hh
   ·have := I.muLt hl1 hm1; omega
  ·obtain ⟨_, s2, _⟩ := same l1 hl1 a1
   obtain ⟨_, s2', _⟩ := same l2 hl2 a2
   rw [s2] at hm1; rw [s2'] at hm2
   exact I.sep _ _ _ _ _ hl1 hl2 hm1 hm2
 ·intro l1 l2 B' hl1 hl2 hm1 hm2
  rw [hn] at hl1 hl2; rw [hmp] at hm1 hm2
  exact I.sepm _ _ _ hl1 hl2 hm1 hm2

end Go.V

/- Stores; append; new objects. -/
namespace Go.V

def G.wrote (g : G) (loc gen : Nat) : G := { g with mu := fun l h => if l = loc then (if h = gen then g.mu l h else none) else g.mu l h }

theorem quq {P : Program} {t : TypeId} {i : TI} (ht : tiOf P t = some i) {g : G} {σ σ' : Store} {w : World} (I : Inv g σ w) {x v : V} {cx cv : Value} (hx : VR g x cx) (hv : VR g v cv) (h : qoa σ i x v = some σ') :
  ∃ w' g', (Instr.storeAt t cx cv).run P w = .ok () w' ∧ Inv g' σ' w' ∧ Step g w g' w' := by
 obtain ⟨inf, u, hi, hu, hag, hsz, _⟩ := qah ht
 unfold qoa at h
 split at h
 rotate_left
 ·cases h
 rename_i loc gn off ext
 split at h
 rotate_left
 ·cases h
 rename_i cs gen wgen vs hs hvs
 split at h
 rotate_left
 ·cases h
 rename_i hc
 obtain ⟨rfl, h2, h3, h4, h5⟩ := hc
 cases h
 simp only [VR] at hx
 obtain ⟨hln, _, a, rfl, _, ha⟩ := hx
 obtain ⟨c1, c2, c3⟩ := I.cur _ _ _ _ hs
 obtain ⟨B, arr, elem, fr, t1, t2, t3, t4⟩ := I.tip _ _ _ _ hs
 obtain ⟨B', arr', elem', fr', o1, o2, o3, o4, o5, o6⟩ := I.old _ _ _ _ _ hs c2 (Nat.le_refl _)
 rw [t1] at o1; cases o1
 rw [t3] at o2; cases o2
 obtain ⟨h6, rfl⟩ := ha B t1
 obtain ⟨k1, k2⟩ := qcv hv hvs
 have kl := VRs.length k1
 have hfit : off + cv.cells.toList.length ≤ arr.size := by omega
 have hrun : (storeCells ⟨B, off, none⟩ cv.cells.toList 0).run P w = .ok () (w.setCells B (off + 0) cv.cells.toList) := by
  refine run_storeCells_cells B off cv.cells.toList 0 w (fun j hj => ?_) (fun j hj => ?_) (fun v hv => by simpa using (List.all_eq_true.1 k2) v hv)
  ·rw [cell_of_heap t3]
   have : off + 0 + j < arr.size := by omega
   rw [Array.getElem?_eq_getElem this]; rfl
  ·have := t4 (off + 0 + j) (by omega)
   simp only [World.frozen?, t3]
   simpa using this
 simp only [Nat.add_zero] at hrun
 obtain ⟨arr', e1, e2, e3, e4, e5, e6, e7, e8⟩ := qbi B cv.cells.toList off w arr elem fr t3 hfit
 let g' := g.wrote loc gn
 have hle : g.Le g' := {
  fz := fun _ _ _ h => h
  n := Nat.le_refl _
  gn := fun _ _ => Nat.le_refl _
  mu := fun l h B' _ _ hB => by
   simp only [g', G.wrote] at hB
   split at hB
   ·split at hB
    ·exact hB
    ·cases hB
   ·exact hB
  sz := fun _ _ _ _ => rfl
  bs := fun _ _ _ _ => rfl
  mp := fun _ _ _ h => h }
 refine ⟨w.setCells B off cv.cells.toList, g', ?_, ?_, ?_⟩
 ·have hsize : cv.cells.size = inf.size := by rw [← hsz]; simp at kl; omega
  simp [Instr.storeAt, Instr.sureAddr, storeVar, qbn hi, hsize, hrun]
 ·refine I.update hs t1 hle rfl rfl (fun l _ hne => ⟨rfl, fun h => ?_, fun _ => rfl, fun _ => rfl⟩) (fun _ => rfl) (fun b hb hne => e5 b hne) ?_ ?_ ?_ ?_
  ·simp only [g', G.wrote]; rw [if_neg hne]
  ·exact ⟨c1, Nat.le_refl _, by rw [qbw]; exact c3⟩
  ·exact ⟨B, arr', elem, fr, by simp [g', G.wrote, t1], t2, e1, by rw [e2]; exact t4⟩
  ·intro h hh1 hh2
   obtain rfl : h = gn := by omega
   refine ⟨B, arr', elem, fr, by simp [g', G.wrote, t1], e1, by rw [e2]; exact o3, by rw [e2]; exact o4, by rw [qbw]; exact o5, ?_⟩
   intro j c hj hc
   rw [qga _ _ _ _ (by omega)] at hc
   rw [e3 j]
   by_cases hin : off ≤ j ∧ j < off + vs.length
   ·rw [if_pos hin] at hc
    obtain ⟨v', r1, r2⟩ := VRs.get k1 _ _ hc
    refine ⟨v', by rw [if_pos (by omega)]; exact r1, ?_, VR.mono hle _ _ r2⟩
    exact List.all_eq_true.1 k2 v' (List.mem_of_getElem? r1)
   ·rw [if_neg hin] at hc
    obtain ⟨v', r1, r2, r3⟩ := o6 j c hj hc
    exact ⟨v', by rw [if_neg (by omega)]; exact r1, r2, VR.mono hle _ _ r3⟩
  ·intro h B' hm
   simp only [g', G.wrote, if_true] at hm
   split at hm
   ·rename_i e; subst e; exact ⟨Nat.le_refl _, Nat.le_refl _, .inl ⟨h, hm⟩⟩
   ·cases hm
 ·refine ⟨hle, ⟨by rw [e4]; exact Nat.le_refl _, fun b hb hn => e5 b (fun e => ?_), e6, e7, e8⟩, ?_, ?_, fun _ _ _ h _ => h⟩
  ·have := (hn loc hln).1
   rw [c1, t1] at this
   exact this (by rw [e])
  ·intro l b hl hm _
   refine ⟨hl, ?_⟩
   rcases hm with hm | hm
   ·left
    simp only [g', G.wrote] at hm
    split at hm
    ·split at hm
     ·exact hm
     ·cases hm
    ·exact hm
   ·exact .inr hm
  ·intro l h b hl hm _
   refine ⟨hl, h, ?_⟩
   simp only [g', G.wrote] at hm
   split at hm
   ·split at hm
    ·exact hm
    ·cases hm
   ·exact hm

theorem que {P : Program} {g : G} {σ : Store} {w : World} (I : Inv g σ w) {loc gn wgen off : Nat} {cs vs : List V} (hs : σ[loc]? = some (.cells cs gn wgen)) (h3 : off + vs.length ≤ cs.length) {vl : List Value} (k1 : VRs g vs vl) (k2 : vl.all Value.oneCell' = true) :
  ∃ B, g.mu loc gn = some B ∧ (storeCells ⟨B, off, none⟩ vl 0).run P w = .ok () (w.setCells B off vl) ∧
    Inv (g.wrote loc gn) (σ.set loc (.cells (qac cs off vs) gn gn)) (w.setCells B off vl) ∧ Step g w (g.wrote loc gn) (w.setCells B off vl) := by
 have hln : loc < g.n := by
  rw [I.len]
  rcases Nat.lt_or_ge loc σ.length with h | h
  ·exact h
  ·rw [List.getElem?_eq_none h] at hs; cases hs
 obtain ⟨c1, c2, c3⟩ := I.cur _ _ _ _ hs
 obtain ⟨B, arr, elem, fr, t1, t2, t3, t4⟩ := I.tip _ _ _ _ hs
 obtain ⟨B', arr', elem', fr', o1, o2, o3, o4, o5, o6⟩ := I.old _ _ _ _ _ hs c2 (Nat.le_refl _)
 rw [t1] at o1; cases o1
 rw [t3] at o2; cases o2
 have kl := VRs.length k1
 have hfit : off + vl.length ≤ arr.size := by omega
 have hrun : (storeCells ⟨B, off, none⟩ vl 0).run P w = .ok () (w.setCells B (off + 0) vl) := by
  refine run_storeCells_cells B off vl 0 w (fun j hj => ?_) (fun j hj => ?_) (fun v hv => by simpa using (List.all_eq_true.1 k2) v hv)
  ·rw [cell_of_heap t3]
   have : off + 0 + j < arr.size := by omega
   rw [Array.getElem?_eq_getElem this]; rfl
  ·have := t4 (off + 0 + j) (by omega)
   simp only [World.frozen?, t3]
   simpa using this
 simp only [Nat.add_zero] at hrun
 obtain ⟨arr', e1, e2, e3, e4, e5, e6, e7, e8⟩ := qbi B vl off w arr elem fr t3 hfit
 let g' := g.wrote loc gn
 have hle : g.Le g' := {
  fz := fun _ _ _ h => h
  n := Nat.le_refl _
  gn := fun _ _ => Nat.le_refl _
  mu := fun l h B' _ _ hB => by
   simp only [g', G.wrote] at hB
   split at hB
   ·split at hB
    ·exact hB
    ·cases hB
   ·exact hB
  sz := fun _ _ _ _ => rfl
  bs := fun _ _ _ _ => rfl
  mp := fun _ _ _ h => h }
 refine ⟨B, t1, hrun, ?_, ?_⟩
 ·refine I.update hs t1 hle rfl rfl (fun l _ hne => ⟨rfl, fun h => ?_, fun _ => rfl, fun _ => rfl⟩) (fun _ => rfl) (fun b hb hne => e5 b hne) ?_ ?_ ?_ ?_
  ·simp only [g', G.wrote]; rw [if_neg hne]
  ·exact ⟨c1, Nat.le_refl _, by rw [qbw]; exact c3⟩
  ·exact ⟨B, arr', elem, fr, by simp [g', G.wrote, t1], t2, e1, by rw [e2]; exact t4⟩
  ·intro h hh1 hh2
   obtain rfl : h = gn := by omega
   refine ⟨B, arr', elem, fr, by simp [g', G.wrote, t1], e1, by rw [e2]; exact o3, by rw [e2]; exact o4, by rw [qbw]; exact o5, ?_⟩
   intro j c hj hc
   rw [qga _ _ _ _ (by omega)] at hc
   rw [e3 j]
   by_cases hin : off ≤ j ∧ j < off + vs.length
   ·rw [if_pos hin] at hc
    obtain ⟨v', r1, r2⟩ := VRs.get k1 _ _ hc
    refine ⟨v', by rw [if_pos (by omega)]; exact r1, ?_, VR.mono hle _ _ r2⟩
    exact List.all_eq_true.1 k2 v' (List.mem_of_getElem? r1)
   ·rw [if_neg hin] at hc
    obtain ⟨v', r1, r2, r3⟩ := o6 j c hj hc
    exact ⟨v', by rw [if_neg (by omega)]; exact r1, r2, VR.mono hle _ _ r3⟩
  ·intro h B' hm
   simp only [g', G.wrote, if_true] at hm
   split at hm
   ·rename_i e; subst e; exact ⟨Nat.le_refl _, Nat.le_refl _, .inl ⟨h, hm⟩⟩
   ·cases hm
 ·refine ⟨hle, ⟨by rw [e4]; exact Nat.le_refl _, fun b hb hn => e5 b (fun e => ?_), e6, e7, e8⟩, ?_, ?_, fun _ _ _ h _ => h⟩
  ·have := (hn loc hln).1
   rw [c1, t1] at this
   exact this (by rw [e])
  ·intro l b hl hm _
   refine ⟨hl, ?_⟩
   rcases hm with hm | hm
   ·left
    simp only [g', G.wrote] at hm
    split at hm
    ·split at hm
     ·exact hm
     ·cases hm
    ·exact hm
   ·exact .inr hm
  ·intro l h b hl hm _
   refine ⟨hl, h, ?_⟩
   simp only [g', G.wrote] at hm
   split at hm
   ·split at hm
    ·exact hm
    ·cases hm
   ·exact hm

/-- The cells that a source of copying holds. -/
theorem qiw {g : G} {σ : Store} {w : World} (I : Inv g σ w) {b k0 k : Nat} : ∀ {rows : List T} {off : Nat} {cs : List V}, TRrows g.fz b k0 off rows → qag k rows = some cs →
  cs.length = rows.length * k ∧ Lies g w b off cs
 | [], off, cs, _, h => by
  simp [qag] at h; subst h
  exact ⟨by simp, fun i c hc => by simp at hc⟩
 | .agg rs :: rows, off, cs, hr, h => by
  simp only [qag] at h
  simp only [TRrows] at hr
  obtain ⟨h1, h2, h3⟩ := hr
  split at h
  ·rename_i hk
   cases hq : qag k rows with
   | none => simp [hq] at h
   | some cs' =>
    simp [hq] at h; subst h
    obtain ⟨l1, l2⟩ := qiw I h3 hq
    refine ⟨by simp [l1, hk, Nat.succ_mul]; omega, fun i c hc => ?_⟩
    rw [List.getElem?_append] at hc
    split at hc
    ·exact qtd I h2 i c hc
    ·rename_i hi
     simp only [List.length_map] at hi hc
     have := l2 _ _ hc
     rwa [show off + k0 + (i - rs.length) = off + i by omega] at this
  ·cases h
 | .undef :: _, _, _, _, h => by simp [qag] at h
 | .bool _ :: _, _, _, _, h => by simp [qag] at h
 | .int _ _ :: _, _, _, _, h => by simp [qag] at h
 | .str _ :: _, _, _, _, h => by simp [qag] at h
 | .nilp :: _, _, _, _, h => by simp [qag] at h
 | .nils :: _, _, _, _, h => by simp [qag] at h
 | .nilm :: _, _, _, _, h => by simp [qag] at h
 | .nilf :: _, _, _, _, h => by simp [qag] at h
 | .tup _ :: _, _, _, _, h => by simp [qag] at h
 | .list _ :: _, _, _, _, h => by simp [qag] at h
 | .snap _ :: _, _, _, _, h => by simp [qag] at h

theorem qed {P : Program} {g : G} {σ : Store} {w : World} (I : Inv g σ w) {x : V} {cx : Value} {k n : Nat} {cs : List V} (hx : VR g x cx) (h : qaf σ k x = some (n, cs)) :
  (Builtin.lenOf cx).run P w = .ok n w ∧ cs.length = n * k ∧ ∃ a : Array Value, (Builtin.firstCells k n cx).run P w = .ok a w ∧ VRs g cs a.toList ∧ a.toList.all Value.oneCell' = true := by
 unfold qaf at h
 split at h
 ·rename_i rows
  simp only [VR, TR] at hx
  obtain ⟨a, c, k0, rfl, hle, hsp, hr⟩ := hx
  cases hq : qag k rows with
  | none => simp [hq] at h
  | some cs' =>
   simp [hq] at h
   obtain ⟨rfl, rfl⟩ := h
   rcases hsp with rfl | hsp
   ·simp only [qag, Option.some.injEq] at hq
    subst hq
    exact ⟨rfl, by simp, #[], by simp [Builtin.firstCells, loadCells, loadCellsFrom], by simp [VRs], by simp⟩
   obtain ⟨l1, l2⟩ := qiw I hr hq
   obtain ⟨arr, r1, r2, r3⟩ := qeb (P := P) l2
   rw [← qbq a hsp, l1] at r1
   exact ⟨rfl, l1, arr, by simpa [Builtin.firstCells] using r1, r2, r3⟩
 ·simp only [Option.some.injEq, Prod.mk.injEq] at h
  obtain ⟨rfl, rfl⟩ := h
  simp only [VR, TR] at hx
  subst hx
  exact ⟨rfl, by simp, #[], rfl, by simp [VRs], by simp⟩
 ·rename_i s
  simp only [VR, TR] at hx
  obtain ⟨b, rfl, rfl⟩ := hx
  split at h
  ·rename_i hk
   simp only [Option.some.injEq, Prod.mk.injEq] at h
   obtain ⟨rfl, rfl⟩ := h
   refine ⟨by simp [Builtin.lenOf, qbb], by simp [hk], _, rfl, ?_, ?_⟩
   ·refine VRs.of_get ?_ fun i x hx => ?_
    ·simp only [List.length_map, qbb]
     have := qbb (b.extract 0 b.size)
     simp [bytes] at this
     simp [qbb]
    ·rw [qbb]
     have he : (b.extract 0 b.size).data.toList = b.data.toList := by
      have : b.extract 0 b.size = b := by simp
      rw [this]
     simp only [List.getElem?_map, bytes] at hx
     simp only [Array.toList_map, he, List.getElem?_map]
     cases hz : b.data.toList[i]? with
     | none => simp [hz] at hx
     | some u =>
      simp [hz] at hx; subst hx
      exact ⟨_, rfl, by simp [VR, TR]⟩
   ·simp only [Array.toList_map, List.all_map, List.all_eq_true]
    intro u _
    rfl
  ·cases h
 ·rename_i loc gn off len k'
  split at h
  ·rename_i cs0 gen wgen hs
   split at h
   ·rename_i hc
    obtain ⟨h1, h2, rfl, h4⟩ := hc
    simp only [Option.some.injEq, Prod.mk.injEq] at h
    obtain ⟨rfl, rfl⟩ := h
    simp only [VR] at hx
    obtain ⟨hln, _, hk, a, c, rfl, hlc, hsp, ha⟩ := hx
    obtain ⟨B, e1, e2, e3⟩ := I.lies hs h1 h2
    obtain ⟨hb1, hb2⟩ := ha B e1
    have hlen : ((cs0.drop off).take (len * k')).length = len * k' := by simp; omega
    have hl := e3 off (len * k') hb1
    obtain ⟨arr, r1, r2, r3⟩ := qeb (P := P) hl
    refine ⟨rfl, hlen, ?_⟩
    rw [hlen] at r1
    by_cases h0 : 0 < len
    ·obtain ⟨b1, b2, b3⟩ := hb2 (.inl h0)
     refine ⟨arr, ?_, r2, r3⟩
     rw [qbq a hsp, b1, b2]
     simpa [Builtin.firstCells] using r1
    ·obtain rfl : len = 0 := by omega
     refine ⟨#[], ?_, by simp [VRs], by simp⟩
     simp [Builtin.firstCells, loadCells, loadCellsFrom]
   ·cases h
  ·cases h
 ·cases h

end Go.V

/- append. -/
namespace Go.V

theorem qaz {P : Program} {t : TypeId} {i : TI} (ht : tiOf P t = some i) (g : G) {z : List V} (h : zeroCells i = some z) :
  ∃ inf zv, P.info? t = some inf ∧ inf.zero = some zv ∧ VRs g z zv.cells.toList ∧ zv.cells.toList.all Value.oneCell' = true := by
 obtain ⟨inf, u, hi, hu, hag, hsz, hby, hze, _⟩ := qah ht
 unfold zeroCells at h
 split at h
 ·rename_i x hx
  rw [hze] at hx
  cases hz : inf.zero with
  | none => simp [hz] at hx
  | some zv =>
   simp [hz] at hx
   obtain ⟨h1, h2⟩ := qcv (g := g) (v := .t x) (cv := zv) (by simpa only [VR] using qkx hx) h
   exact ⟨inf, zv, hi, hz, h1, h2⟩
 ·cases h

theorem qsn (need : Nat) : ∀ (r c : Nat), 256 ≤ c → c < need → Builtin.growBy need r c ≤ 2 * need
 | 0, c, _, h => by simp [Builtin.growBy]; omega
 | r + 1, c, h0, h => by
  rw [Builtin.growBy, if_neg (by omega)]
  by_cases h1 : c + (c + 768) / 4 < need
  ·exact qsn need r _ (by omega) h1
  ·cases r with
   | zero => simp [Builtin.growBy]; omega
   | succ r => rw [Builtin.growBy, if_pos (by omega)]; omega

theorem qoc (need cap : Nat) (h : cap < need) : Builtin.nextslicecap need cap ≤ 2 * need := by
 unfold Builtin.nextslicecap
 split
 ·omega
 ·split
  ·omega
  ·exact qsn need 4 cap (by omega) h

theorem qba {u : TypeDesc} {e : TypeId} (h : shapeOf u = .slice e) : u = .slice e := by
 cases u <;> simp [shapeOf] at h; subst h; rfl

/-- What 'append' does where it must make new memory. -/
theorem qsu (need old : Nat) (e : TypeId) (t : Nat) (h : need ≤ 9223372036854775807) : need ≤ (Question.appendCap need old e).cut t ∧ (Question.appendCap need old e).cut t ≤ 9223372036854775807 := by
 simp only [Question.cut]
 have : t % (2 ^ 63 - need) < 2 ^ 63 - need := Nat.mod_lt _ (by omega)
 omega
theorem run_append_grow {P : Program} {w : World} {st xt e ty : TypeId} {inf : TypeInfo} {u : TypeDesc} {zv : Value} {base : Option Addr} {sLen sCap n : Nat} {cx : Value} {old new : Array Value}
  (hst : P.underlying st = some (.slice e)) (hxt : P.underlying xt = some u) (hu : (∃ e', u = .slice e') ∨ u = .string) (hi : P.info? e = some inf) (hz : inf.zero = some zv) (hb : inf.bytes ≠ 0)
  (hn : (Builtin.lenOf cx).run P w = .ok n w) (hcap : sCap < sLen + n) (hfit : (sLen + n) * inf.bytes ≤ 140737488355328)
  (hold : (Builtin.firstCells inf.size sLen (.slice base sLen sCap)).run P w.drew = .ok old w.drew)
  (hnew : (Builtin.firstCells inf.size n cx).run P w.drew = .ok new w.drew) :
  ∃ newCap, (sLen + n ≤ newCap ∧ newCap ≤ 9223372036854775807) ∧
  (Builtin.append_ #[st, xt] ty #[.slice base sLen sCap, cx]).run P w =
   .ok (.slice (some ⟨w.heap.size, 0, none⟩) (sLen + n) newCap) { w with heap := w.heap.push (.cells (old ++ new ++ Builtin.zeroCells zv.cells (newCap - (sLen + n))) e), drawn := w.drawn + 1 } := by
 refine ⟨(Question.appendCap (sLen + n) sCap e).cut (w.tape w.drawn (.appendCap (sLen + n) sCap e)), ?_, ?_⟩
 ·have hle : sLen + n ≤ (sLen + n) * inf.bytes := Nat.le_mul_of_pos_right _ (by omega)
  exact qsu _ _ _ _ (by omega)
 have hle : sLen + n ≤ (sLen + n) * inf.bytes := Nat.le_mul_of_pos_right _ (by omega)
 have hnx := qoc (sLen + n) sCap hcap
 have hnx2 : ¬ Builtin.nextslicecap (sLen + n) sCap * inf.bytes > 2 ^ 48 := by
  have := Nat.mul_le_mul_right inf.bytes hnx
  rw [Nat.mul_assoc] at this
  omega
 have hf : (Question.appendCap (sLen + n) sCap e).forced = false := rfl
 have hc : ¬ sLen + n ≤ sCap := by omega
 rcases hu with ⟨e', rfl⟩ | rfl
 all_goals
  simp [Builtin.append_, qan hst, qan hxt, qbn hi, hn, hc, qgl hi, hb, hnx2, hf, hold, hnew, qde hi hz, newRow]
  rfl

theorem qea {P : Program} {w w' : World} {st xt e ty : TypeId} {inf : TypeInfo} {u : TypeDesc} {base : Option Addr} {sLen sCap n : Nat} {cx : Value} {new : Array Value}
  (hst : P.underlying st = some (.slice e)) (hxt : P.underlying xt = some u) (hu : (∃ e', u = .slice e') ∨ u = .string) (hi : P.info? e = some inf)
  (hn : (Builtin.lenOf cx).run P w = .ok n w) (hcap : sLen + n ≤ sCap)
  (hnew : (Builtin.firstCells inf.size n cx).run P w = .ok new w)
  (hst' : ∀ a, base = some a → (storeCells (a.add (sLen * inf.size)) new.toList).run P w = .ok () w') (hnone : base = none → w' = w) :
  (Builtin.append_ #[st, xt] ty #[.slice base sLen sCap, cx]).run P w = .ok (.slice base (sLen + n) sCap) w' := by
 rcases hu with ⟨e', rfl⟩ | rfl
 all_goals
  cases base with
  | none =>
   simp [Builtin.append_, qan hst, qan hxt, qbn hi, hn, hcap, hnew, hnone rfl]
  | some a =>
   simp [Builtin.append_, qan hst, qan hxt, qbn hi, hn, hcap, hnew, hst' a rfl]

theorem qkk {P : Program} {w : World} {st xt e ty : TypeId} {inf : TypeInfo} {zv : Value} {ik : IntKind} {m : Int}
  (hst : P.underlying st = some (.slice e)) (hxt : P.underlying xt = some (.int ik)) (hi : P.info? e = some inf) (hz : inf.zero = some zv) (hb : inf.bytes ≠ 0) (hsz : inf.size ≠ 0)
  (hm : 0 < m) (hfit : m.toNat * inf.bytes ≤ 140737488355328) :
  ∃ newCap, (m.toNat ≤ newCap ∧ newCap ≤ 9223372036854775807) ∧
  (Builtin.append_ #[st, xt] ty #[.slice none 0 0, .int .i64 m]).run P w =
   .ok (.slice (some ⟨w.heap.size, 0, none⟩) m.toNat newCap) { w with heap := w.heap.push (.cells (#[] ++ Builtin.zeroCells zv.cells m.toNat ++ Builtin.zeroCells zv.cells (newCap - m.toNat)) e), drawn := w.drawn + 1 } := by
 obtain ⟨n, rfl⟩ : ∃ n : Nat, m = n := ⟨m.toNat, by omega⟩
 simp only [Int.toNat_natCast] at hfit ⊢
 have hn : 0 < n := by omega
 refine ⟨(Question.appendCap n 0 e).cut (w.tape w.drawn (.appendCap n 0 e)), ?_, ?_⟩
 ·have hle : n ≤ n * inf.bytes := Nat.le_mul_of_pos_right _ (by omega)
  exact qsu _ _ _ _ (by omega)
 have hle : n ≤ n * inf.bytes := Nat.le_mul_of_pos_right _ (by omega)
 have hnx := qoc n 0 hn
 have hnx2 : ¬ Builtin.nextslicecap n 0 * inf.bytes > 2 ^ 48 := by
  have := Nat.mul_le_mul_right inf.bytes hnx
  rw [Nat.mul_assoc] at this
  omega
 have hf : (Question.appendCap n 0 e).forced = false := rfl
 have hc : ¬ n = 0 := by omega
 have hw : IntKind.i64.wrap (n : Int) = n := IntWalk.i64_in _ (by omega)
 have h1 : ¬ (n : Int) < 0 := by omega
 have hb0 : (n : Int) * inf.bytes ≤ 140737488355328 := by rw [← Int.natCast_mul]; exact Int.ofNat_le.2 hfit
 have h2 : ¬ (n : Int) * inf.bytes > 2 ^ 48 := by
  show ¬ (n : Int) * inf.bytes > 281474976710656
  omega
 have h2' : ¬ (281474976710656 : Int) < (n : Int) * inf.bytes := by omega
 have h3 : ¬ (9223372036854775807 : Int) < n := by omega
 have hns : ¬ n * inf.size = 0 := by
  rw [Nat.mul_eq_zero]
  omega
 simp [Builtin.append_, qan hst, qan hxt, qbn hi, asInt, asIntOf, hw, h1, h2, h2', hc, qgl hi, hb, hsz, hns, hnx2, hf, h3, qde hi hz, newRow, Builtin.firstCells]
 rfl

def G.grew (g : G) (loc gen B cells size : Nat) : G := { g with
 gn := fun l => if l = loc then gen + 1 else g.gn l
 mu := fun l h => if l = loc ∧ h = gen + 1 then some B else g.mu l h
 sz := fun l h => if l = loc ∧ h = gen + 1 then cells else g.sz l h
 bs := fun l h => if l = loc ∧ h = gen + 1 then size else g.bs l h }

theorem le_grew {g : G} {loc gen B cells size : Nat} (hg : g.gn loc = gen) : g.Le (g.grew loc gen B cells size) where
 fz := fun _ _ _ h => h
 n := Nat.le_refl _
 gn := fun l _ => by
  simp only [G.grew]
  split
  ·rename_i e; subst e; omega
  ·exact Nat.le_refl _
 mu := fun l h B' _ hh hm => by
  simp only [G.grew] at hm
  rw [if_neg (by rintro ⟨rfl, rfl⟩; omega)] at hm
  exact hm
 sz := fun l h _ hh => by simp only [G.grew]; rw [if_neg (by rintro ⟨rfl, rfl⟩; omega)]
 bs := fun l h _ hh => by simp only [G.grew]; rw [if_neg (by rintro ⟨rfl, rfl⟩; omega)]
 mp := fun _ _ _ h => h

theorem Inv.grewAt {g : G} {σ : Store} {w w' : World} (I : Inv g σ w) {loc B B' : Nat} {old cs : List V} {gen wgen : Nat} (hx : σ[loc]? = some (.cells old gen wgen)) (hB : g.mu loc gen = some B)
  {arr : Array Value} {elem : TypeId} {fr : Nat × Nat} (hnew : w'.heap[B']? = some (.cells arr elem fr)) (hor : B' = B ∨ w.heap.size ≤ B') (hfz : ∀ o, g.fz B' o = none)
  (hfr : ∀ o, o < arr.size → ¬ (fr.1 ≤ o ∧ o < fr.2)) (hfit : old.length + cs.length ≤ arr.size)
  (hc : ∀ (i : Nat) (c : V), (old ++ cs)[i]? = some c → ∃ v, arr[i]? = some v ∧ v.oneCell' = true ∧ VR g c v)
  (hsize : w.heap.size ≤ w'.heap.size) (hold : ∀ b, b < w.heap.size → b ≠ B → w'.heap[b]? = w.heap[b]?)
  (hBsame : ∃ arr0 elem0 fr0 arr1, w.heap[B]? = some (.cells arr0 elem0 fr0) ∧ w'.heap[B]? = some (.cells arr1 elem0 fr0) ∧ arr1.size = arr0.size ∧ ∀ i, i < old.length → arr1[i]? = arr0[i]?)
  (ht : w'.tape = w.tape) (ho : w'.os = w.os) (hp : w'.output = w.output) :
  Inv (g.grew loc gen B' (old.length + cs.length) arr.size) (σ.set loc (.cells (old ++ cs) (gen + 1) wgen)) w' ∧ Step g w (g.grew loc gen B' (old.length + cs.length) arr.size) w' := by
 obtain ⟨c1, c2, c3⟩ := I.cur _ _ _ _ hx
 have hle := le_grew (B := B') (cells := old.length + cs.length) (size := arr.size) c1
 have hln : loc < g.n := by
  rw [I.len]
  rcases Nat.lt_or_ge loc σ.length with h | h
  ·exact h
  ·rw [List.getElem?_eq_none h] at hx; cases hx
 obtain ⟨arr0, elem0, fr0, arr1, s1, s2, s3, s4⟩ := hBsame
 refine ⟨I.update hx hB hle rfl rfl (fun l _ hne => ⟨by simp [G.grew, hne], fun h => by simp [G.grew, hne], fun h => by simp [G.grew, hne], fun h => by simp [G.grew, hne]⟩) (fun _ => rfl) hold ?_ ?_ ?_ ?_, ?_⟩
 ·exact ⟨by simp [G.grew], by omega, by simp [G.grew]⟩
 ·exact ⟨B', arr, elem, fr, by simp [G.grew], hfz, hnew, fun o ho => hfr o (by omega)⟩
 ·intro h h1 h2
  by_cases hh : h = gen + 1
  ·subst hh
   refine ⟨B', arr, elem, fr, by simp [G.grew], hnew, by simp [G.grew], by simp [G.grew]; exact hfit, by simp [G.grew], ?_⟩
   intro i c _ hi
   obtain ⟨v, r1, r2, r3⟩ := hc i c hi
   exact ⟨v, r1, r2, VR.mono hle _ _ r3⟩
  ·obtain ⟨B2, arr2, elem2, fr2, e1, e2, e3, e4, e5, e6⟩ := I.old _ _ _ _ _ hx h1 (by omega)
   have key : ∃ arr3, w'.heap[B2]? = some (.cells arr3 elem2 fr2) ∧ arr3.size = arr2.size ∧ ∀ i, i < g.sz loc h → arr3[i]? = arr2[i]? := by
    by_cases hb : B2 = B
    ·subst hb
     rw [s1] at e2; cases e2
     exact ⟨arr1, s2, s3, fun i hi => s4 i (by omega)⟩
    ·exact ⟨arr2, by rw [hold B2 (lt_of_some e2) hb]; exact e2, rfl, fun _ _ => rfl⟩
   obtain ⟨arr3, k1, k2, k3⟩ := key
   refine ⟨B2, arr3, elem2, fr2, by simp [G.grew, hh, e1], k1, by simp [G.grew, hh, k2, e3], by simp [G.grew, hh, k2, e4], by simp [G.grew, hh]; omega, ?_⟩
   intro i c hi hci
   simp only [G.grew, hh, and_false, if_false] at hi
   rw [List.getElem?_append_left (by omega)] at hci
   obtain ⟨v, r1, r2, r3⟩ := e6 i c hi hci
   exact ⟨v, by rw [k3 i hi]; exact r1, r2, VR.mono hle _ _ r3⟩
 ·intro h B2 hm
  simp only [G.grew] at hm
  by_cases hh : h = gen + 1
  ·subst hh
   simp at hm; subst hm
   refine ⟨by omega, by omega, ?_⟩
   rcases hor with rfl | hor
   ·exact .inl ⟨gen, hB⟩
   ·exact .inr hor
  ·rw [if_neg (by rintro ⟨_, h⟩; exact hh h)] at hm
   obtain ⟨c', g', w', e1, e2, e3⟩ := I.muc _ _ _ hln hm
   rw [hx] at e1; cases e1
   exact ⟨e2, by omega, .inl ⟨h, hm⟩⟩
 ·refine ⟨hle, ⟨hsize, fun b hb hn => hold b hb (fun e => ?_), ht, ho, hp⟩, ?_, ?_, fun _ _ _ h _ => h⟩
  ·have := (hn loc hln).1
   rw [c1, hB] at this
   exact this (by rw [e])
  ·intro l b hl hm hb
   refine ⟨hl, ?_⟩
   simp only [G.grew] at hm
   by_cases e : l = loc
   ·subst e
    simp only [if_true, true_and] at hm
    rcases hm with hm | hm
    ·cases hm
     rcases hor with rfl | hor
     ·left; rw [c1]; exact hB
     ·omega
    ·exact .inr hm
   ·simpa [e] using hm
  ·intro l h b hl hm hb
   refine ⟨hl, ?_⟩
   simp only [G.grew] at hm
   split at hm
   ·rename_i e
    obtain ⟨rfl, rfl⟩ := e
    cases hm
    rcases hor with rfl | hor
    ·exact ⟨_, hB⟩
    ·omega
   ·exact ⟨h, hm⟩

def G.cut (g : G) (loc gen B cells size : Nat) : G := { g with
 gn := fun l => if l = loc then gen + 1 else g.gn l
 mu := fun l h => if l = loc then (if h = gen + 1 then some B else none) else g.mu l h
 sz := fun l h => if l = loc ∧ h = gen + 1 then cells else g.sz l h
 bs := fun l h => if l = loc ∧ h = gen + 1 then size else g.bs l h }

theorem le_cut {g : G} {loc gen B cells size : Nat} (hg : g.gn loc = gen) : g.Le (g.cut loc gen B cells size) where
 fz := fun _ _ _ h => h
 n := Nat.le_refl _
 gn := fun l _ => by
  simp only [G.cut]
  split
  ·rename_i e; subst e; omega
  ·exact Nat.le_refl _
 mu := fun l h B' _ hh hm => by
  simp only [G.cut] at hm
  split at hm
  ·rename_i e
   subst e
   rw [if_neg (by omega)] at hm
   cases hm
  ·exact hm
 sz := fun l h _ hh => by simp only [G.cut]; rw [if_neg (by rintro ⟨rfl, rfl⟩; omega)]
 bs := fun l h _ hh => by simp only [G.cut]; rw [if_neg (by rintro ⟨rfl, rfl⟩; omega)]
 mp := fun _ _ _ h => h

/-- An object whose cells are laid anew: what was read of it before is gone. -/
theorem Inv.cutAt {g : G} {σ : Store} {w w' : World} (I : Inv g σ w) {loc B B' : Nat} {old cs : List V} {gen wgen : Nat} (hx : σ[loc]? = some (.cells old gen wgen)) (hB : g.mu loc gen = some B)
  {arr : Array Value} {elem : TypeId} {fr : Nat × Nat} (hnew : w'.heap[B']? = some (.cells arr elem fr)) (hor : B' = B ∨ w.heap.size ≤ B') (hfz : ∀ o, g.fz B' o = none)
  (hfr : ∀ o, o < arr.size → ¬ (fr.1 ≤ o ∧ o < fr.2)) (hfit : cs.length ≤ arr.size)
  (hc : ∀ (i : Nat) (c : V), cs[i]? = some c → ∃ v, arr[i]? = some v ∧ v.oneCell' = true ∧ VR g c v)
  (hsize : w.heap.size ≤ w'.heap.size) (hold : ∀ b, b < w.heap.size → b ≠ B → w'.heap[b]? = w.heap[b]?)
  (ht : w'.tape = w.tape) (ho : w'.os = w.os) (hp : w'.output = w.output) :
  Inv (g.cut loc gen B' cs.length arr.size) (σ.set loc (.cells cs (gen + 1) (gen + 1))) w' ∧ Step g w (g.cut loc gen B' cs.length arr.size) w' := by
 obtain ⟨c1, c2, c3⟩ := I.cur _ _ _ _ hx
 have hle := le_cut (B := B') (cells := cs.length) (size := arr.size) c1
 have hln : loc < g.n := by
  rw [I.len]
  rcases Nat.lt_or_ge loc σ.length with h | h
  ·exact h
  ·rw [List.getElem?_eq_none h] at hx; cases hx
 refine ⟨I.update hx hB hle rfl rfl (fun l _ hne => ⟨by simp [G.cut, hne], fun h => by simp [G.cut, hne], fun h => by simp [G.cut, hne], fun h => by simp [G.cut, hne]⟩) (fun _ => rfl) hold ?_ ?_ ?_ ?_, ?_⟩
 ·exact ⟨by simp [G.cut], by omega, by simp [G.cut]⟩
 ·exact ⟨B', arr, elem, fr, by simp [G.cut], hfz, hnew, fun o ho => hfr o (by omega)⟩
 ·intro h h1 h2
  obtain rfl : h = gen + 1 := by omega
  refine ⟨B', arr, elem, fr, by simp [G.cut], hnew, by simp [G.cut], by simp [G.cut]; exact hfit, by simp [G.cut], ?_⟩
  intro i c _ hi
  obtain ⟨v, r1, r2, r3⟩ := hc i c hi
  exact ⟨v, r1, r2, VR.mono hle _ _ r3⟩
 ·intro h B2 hm
  simp only [G.cut, if_true] at hm
  split at hm
  ·rename_i e
   cases hm
   refine ⟨by omega, by omega, ?_⟩
   rcases hor with rfl | hor
   ·exact .inl ⟨gen, hB⟩
   ·exact .inr hor
  ·cases hm
 ·refine ⟨hle, ⟨hsize, fun b hb hn => hold b hb (fun e => ?_), ht, ho, hp⟩, ?_, ?_, fun _ _ _ h _ => h⟩
  ·have := (hn loc hln).1
   rw [c1, hB] at this
   exact this (by rw [e])
  ·intro l b hl hm hb
   refine ⟨hl, ?_⟩
   simp only [G.cut] at hm
   by_cases e : l = loc
   ·subst e
    simp only [if_true] at hm
    rcases hm with hm | hm
    ·cases hm
     rcases hor with rfl | hor
     ·left; rw [c1]; exact hB
     ·omega
    ·exact .inr hm
   ·simpa [e] using hm
  ·intro l h b hl hm hb
   refine ⟨hl, ?_⟩
   simp only [G.cut] at hm
   split at hm
   ·rename_i e
    subst e
    split at hm
    ·cases hm
     rcases hor with rfl | hor
     ·exact ⟨_, hB⟩
     ·omega
    ·cases hm
   ·exact ⟨h, hm⟩

theorem qdb {g : G} {z : List V} {l : List Value} (h : VRs g z l) (h1 : l.all Value.oneCell' = true) : ∀ n, VRs g (qab z n) ((List.range (n * l.length)).map fun i => l[i % l.length]!) ∧
  (((List.range (n * l.length)).map fun i => l[i % l.length]!).all Value.oneCell' = true)
 | 0 => by simp [qab, VRs]
 | n + 1 => by
  obtain ⟨ih1, ih2⟩ := qdb h h1 n
  have hl := VRs.length h
  have e : (List.range ((n + 1) * l.length)).map (fun i => l[i % l.length]!) = l ++ (List.range (n * l.length)).map (fun i => l[i % l.length]!) := by
   rw [show (n + 1) * l.length = l.length + n * l.length by rw [Nat.succ_mul]; omega, List.range_add, List.map_append, List.map_map]
   congr 1
   ·apply List.ext_getElem (by simp)
    intro i a1 a2
    simp only [List.length_map, List.length_range] at a1
    simp [Nat.mod_eq_of_lt a1, a1]
   ·apply List.map_congr_left
    intro i _
    simp
  rw [e]
  refine ⟨?_, by rw [List.all_append, h1, ih2]; rfl⟩
  rw [qab]
  refine VRs.of_get (by simp [hl, VRs.length ih1]) fun i x hx => ?_
  rw [List.getElem?_append] at hx ⊢
  split at hx
  ·rename_i hi; rw [if_pos (by omega)]; exact VRs.get h _ _ hx
  ·rename_i hi; rw [if_neg (by omega), ← hl]; rw [hl]; rw [hl] at hx; exact VRs.get ih1 _ _ hx

theorem qgg {g : G} {B n c size cells k : Nat} (hk : 0 < k) (hn : n * k = cells) (hnc : n ≤ c) (hc : c * k ≤ size) (h63 : c ≤ 9223372036854775807) :
  VR (g.pushCells B cells size) (.sl g.n 0 0 n k) (.slice (some ⟨B, 0, none⟩) n c) := by
 simp only [VR]
 refine ⟨by simp [G.pushCells], by simp [G.pushCells], hk, _, c, rfl, hnc, rfl, fun B' hB' => ?_⟩
 simp [G.pushCells] at hB'
 subst hB'
 simp [G.pushCells, hn, hc, h63]

theorem qyy {g : G} {B n c size cells k : Nat} (hk : 0 < k) (hn : n * k = cells) (hnc : n ≤ c) (hc : c * k ≤ size) (h63 : c ≤ 9223372036854775807) :
  VR (g.pushCells1 B cells size) (.sl g.n 1 0 n k) (.slice (some ⟨B, 0, none⟩) n c) := by
 simp only [VR]
 refine ⟨by simp [G.pushCells1], by simp [G.pushCells1], hk, _, c, rfl, hnc, rfl, fun B' hB' => ?_⟩
 simp [G.pushCells1] at hB'
 subst hB'
 simp [G.pushCells1, hn, hc, h63]

theorem qqu {P : Program} {ty : TypeId → Option TI} (hty : ∀ t x, ty t = some x → tiOf P t = some x) {g : G} {σ σ' : Store} {w : World} (I : Inv g σ w) {ats : List TypeId} {s x v : V} {cs cx : Value} (rty : TypeId)
  (hs : VR g s cs) (hx : VR g x cx) (h : qap ty σ ats s x = some (v, σ')) :
  ∃ cv w' g', (Builtin.append_ ats.toArray rty #[cs, cx]).run P w = .ok cv w' ∧ VR g' v cv ∧ Inv g' σ' w' ∧ Step g w g' w' := by
 unfold qap at h
 split at h
 rotate_left
 ·cases h
 rename_i st xt
 split at h
 rotate_left
 ·cases h
 rename_i sti xti h1 h2
 split at h
 rotate_left
 ·-- so many zero rows
  rename_i e hse hxe
  split at h
  rotate_left
  ·cases h
  rename_i m
  split at h
  rotate_left
  ·cases h
  rename_i te ik h3 hxi
  split at h
  rotate_left
  ·cases h
  rename_i z hz
  split at h
  ·cases h
  rename_i hzz
  split at h
  rotate_left
  ·cases h
  rename_i hfit
  cases h
  obtain ⟨_, us, _, hus, _, _, _, _, hss, _⟩ := qah (hty _ _ h1)
  obtain ⟨_, ux, _, hux, _, _, _, _, hsx, _⟩ := qah (hty _ _ h2)
  obtain ⟨inf, ue, hie, hue, _, hsz, hby, _⟩ := qah (hty _ _ h3)
  obtain ⟨inf', zv, hi', hzv, z1, z2⟩ := qaz (hty _ _ h3) g hz
  rw [hie] at hi'; cases hi'
  have zl := VRs.length z1
  rw [hss] at hse
  have hus' : us = .slice e := qba hse
  subst hus'
  rw [hsx] at hxi
  have hux' : ux = .int ik := by cases ux <;> simp [shapeOf] at hxi ⊢; exact hxi
  subst hux'
  simp only [VR, TR] at hs hx
  subst hs; subst hx
  have hz2 : zv.cells.size = te.size := by simp only [Array.length_toList] at zl; omega
  have hk : 0 < te.size := by omega
  obtain ⟨newCap, ⟨hge, h63⟩, hrun⟩ := qkk (ty := rty) (w := w) hus hux hie hzv (by omega) (by omega) hfit.1 (by rw [← hby]; exact hfit.2)
  obtain ⟨y1, y2⟩ := qdb z1 z2 m.toNat
  have hzc : ∀ n, (Builtin.zeroCells zv.cells n).size = n * te.size := fun n => by simp [Builtin.zeroCells, hz2]
  have hzl : (Builtin.zeroCells zv.cells m.toNat).toList = (List.range (m.toNat * zv.cells.toList.length)).map fun i => zv.cells.toList[i % zv.cells.toList.length]! := by
   simp only [Builtin.zeroCells, Array.toList_map, Array.toList_range, Array.length_toList]
   refine List.map_congr_left fun a _ => ?_
   simp [Array.getElem!_eq_getD, Array.getD_eq_getD_getElem?]
  have hrl : (qab z m.toNat).length = m.toNat * te.size := by
   have := VRs.length y1
   simp only [List.length_map, List.length_range, Array.length_toList, hz2] at this
   exact this
  obtain ⟨I', S'⟩ := I.pushCells (qab z m.toNat) (#[] ++ Builtin.zeroCells zv.cells m.toNat ++ Builtin.zeroCells zv.cells (newCap - m.toNat)) e (0, 0) (w.drawn + 1) (by simp [hzc, hrl]) (fun o _ => by simp) (fun i c hc => by
   rw [← hzl] at y1 y2
   obtain ⟨v, r1, r2⟩ := VRs.get y1 i c hc
   refine ⟨v, ?_, List.all_eq_true.1 y2 v (List.mem_of_getElem? r1), r2⟩
   have : i < (Builtin.zeroCells zv.cells m.toNat).size := by
    rcases Nat.lt_or_ge i (Builtin.zeroCells zv.cells m.toNat).size with h | h
    ·exact h
    ·rw [List.getElem?_eq_none (by simpa using h)] at r1; cases r1
   simp only [Array.empty_append]
   rw [Array.getElem?_append_left this]
   simpa using r1)
  refine ⟨_, _, _, hrun, ?_, I', S'⟩
  rw [← I.len]
  refine qgg hk (by rw [hrl]) hge ?_ h63
  simp only [Array.size_append, hzc, Array.size_empty, Nat.zero_add]
  rw [← Nat.add_mul]
  exact Nat.mul_le_mul_right _ (by omega)
 ·cases h
 rename_i e hse hxe
 split at h
 rotate_left
 ·cases h
 rename_i te h3
 split at h
 rotate_left
 ·cases h
 rename_i n ccs z hsrc hz
 split at h
 ·cases h
 rename_i hzz
 obtain ⟨_, us, _, hus, _, _, _, _, hss, _⟩ := qah (hty _ _ h1)
 obtain ⟨_, ux, _, hux, _, _, _, _, hsx, _⟩ := qah (hty _ _ h2)
 obtain ⟨inf, ue, hie, hue, _, hsz, hby, _⟩ := qah (hty _ _ h3)
 obtain ⟨inf', zv, hi', hzv, z1, z2⟩ := qaz (hty _ _ h3) g hz
 rw [hie] at hi'; cases hi'
 have zl := VRs.length z1
 rw [hss] at hse
 have hus' : us = .slice e := qba hse
 subst hus'
 have hux' : (∃ e', ux = .slice e') ∨ ux = .string := by
  rw [hsx] at hxe
  cases ux <;> simp [shapeOf] at hxe ⊢
 obtain ⟨k1, k2, new, k3, k4, k5⟩ := qed (P := P) I hx hsrc
 have hbytes : inf.bytes ≠ 0 := by omega
 have hz2 : zv.cells.size = te.size := by simp only [Array.length_toList] at zl; omega
 have hk : 0 < te.size := by omega
 rw [hsz] at k3
 split at h
 ·-- nothing is appended
  rename_i hn0
  subst hn0
  have hempty : new = #[] := by
   have := VRs.length k4
   simp [k2] at this
   exact Array.eq_empty_of_size_eq_zero this.symm
  subst hempty
  have done : v = s ∧ σ' = σ := by
   split at h <;> first | (cases h; exact ⟨rfl, rfl⟩) | cases h
  obtain ⟨rfl, rfl⟩ := done
  have shp : ∃ base n c, cs = .slice base n c ∧ n ≤ c := by
   split at h
   ·simp only [VR, TR] at hs; obtain ⟨a, c, _, rfl, hle, _⟩ := hs; exact ⟨_, _, _, rfl, hle⟩
   ·simp only [VR, TR] at hs; exact ⟨_, _, _, hs, Nat.le_refl _⟩
   ·simp only [VR] at hs; obtain ⟨_, _, _, a, c, rfl, hle, _⟩ := hs; exact ⟨_, _, _, rfl, hle⟩
   ·cases h
  obtain ⟨base, m, c, rfl, hle⟩ := shp
  exact ⟨_, w, g, qea (w' := w) hus hux hux' hie k1 (by omega) k3 (fun a _ => rfl) (fun _ => rfl), hs, I, Step.refl g w⟩
 rename_i hn0
 split at h
 ·-- nil
  split at h
  rotate_left
  ·cases h
  rename_i hfit
  cases h
  simp only [VR, TR] at hs
  subst hs
  have Id := I.sameHeap (w' := w.drew) rfl
  obtain ⟨k1', _, new', k3', k4', k5'⟩ := qed (P := P) Id hx hsrc
  rw [hsz] at k3'
  obtain ⟨newCap, ⟨hge, h63⟩, hrun⟩ := run_append_grow (ty := rty) (old := #[]) (new := new') (base := none) (sLen := 0) (sCap := 0) hus hux hux' hie hzv hbytes k1 (by omega) (by rw [Nat.zero_add, ← hby]; exact hfit) rfl k3'
  have hl := VRs.length k4'
  simp only [Array.length_toList] at hl
  have hzc : (Builtin.zeroCells zv.cells (newCap - (0 + n))).size = (newCap - n) * te.size := by
   simp [Builtin.zeroCells, hz2]
  obtain ⟨I', S'⟩ := I.pushCells ccs (#[] ++ new' ++ Builtin.zeroCells zv.cells (newCap - (0 + n))) e (0, 0) (w.drawn + 1) (by simp [hl]) (fun o _ => by simp) (fun i c hc => by
   obtain ⟨v, r1, r2⟩ := VRs.get k4' i c hc
   refine ⟨v, ?_, List.all_eq_true.1 k5' v (List.mem_of_getElem? r1), r2⟩
   have : i < new'.size := by
    rcases Nat.lt_or_ge i new'.size with h | h
    ·exact h
    ·rw [List.getElem?_eq_none (by simpa using h)] at r1; cases r1
   simp only [Array.empty_append]
   rw [Array.getElem?_append_left this]
   simpa using r1)
  refine ⟨_, _, _, hrun, ?_, I', S'⟩
  rw [← I.len]
  simp only [Nat.zero_add]
  simp only [Nat.zero_add] at hzc hge
  refine qgg hk k2.symm (by omega) ?_ h63
  simp only [Array.size_append, hzc, Array.size_empty, Nat.zero_add]
  have : newCap * te.size = n * te.size + (newCap - n) * te.size := by rw [← Nat.add_mul]; congr 1; omega
  rw [this, ← k2, hl]
  exact Nat.le_refl _
 ·-- a slice of the store
  rename_i loc gn off len k
  split at h
  rotate_left
  ·cases h
  rename_i old gen wgen hst
  split at h
  ·rename_i hcond
   obtain ⟨rfl, rfl, rfl, hlk, hfit⟩ := hcond
   cases h
   simp only [VR] at hs
   obtain ⟨hln, _, _, a, c, rfl, hlc, hsp, ha⟩ := hs
   obtain ⟨q1, q2, q3⟩ := I.cur _ _ _ _ hst
   obtain ⟨B, arr, elem, fr, t1, t2, t3, t4⟩ := I.tip _ _ _ _ hst
   obtain ⟨B', arr', elem', fr', o1, o2, o3, o4, o5, o6⟩ := I.old _ _ _ _ _ hst q2 (Nat.le_refl _)
   rw [t1] at o1; cases o1
   rw [t3] at o2; cases o2
   obtain ⟨hb1, hb2⟩ := ha B t1
   obtain ⟨b1, b2, b3⟩ := hb2 (by simp)
   have haddr : a = ⟨B, 0, none⟩ := by rw [qbq a hsp, b1, b2]
   subst haddr
   by_cases hroom : len + n ≤ c
   ·-- there is room
    have hnl := VRs.length k4
    simp only [Array.length_toList] at hnl
    have hfit2 : len * te.size + n * te.size ≤ arr.size := by
     have : (len + n) * te.size ≤ c * te.size := Nat.mul_le_mul_right _ hroom
     rw [Nat.add_mul] at this
     omega
    have hrunst : (storeCells ⟨B, 0, none⟩ new.toList (len * te.size)).run P w = .ok () (w.setCells B (0 + len * te.size) new.toList) := by
     refine run_storeCells_cells B 0 new.toList (len * te.size) w (fun j hj => ?_) (fun j hj => ?_) (fun v hv => by simpa using (List.all_eq_true.1 k5) v hv)
     ·rw [cell_of_heap t3]
      simp only [Array.length_toList] at hj
      have : 0 + len * te.size + j < arr.size := by omega
      rw [Array.getElem?_eq_getElem this]; rfl
     ·simp only [Array.length_toList] at hj
      have := t4 (0 + len * te.size + j) (by omega)
      simp only [World.frozen?, t3]
      simpa using this
    have hrunst' : (storeCells ((⟨B, 0, none⟩ : Addr).add (len * inf.size)) new.toList).run P w = .ok () (w.setCells B (len * te.size) new.toList) := by
     rw [add_plain, ← hsz, Nat.zero_add]
     have := run_storeCells_cells (P := P) B (len * te.size) new.toList 0 w (fun j hj => ?_) (fun j hj => ?_) (fun v hv => by simpa using (List.all_eq_true.1 k5) v hv)
     ·simpa using this
     ·rw [cell_of_heap t3]
      simp only [Array.length_toList] at hj
      have : len * te.size + 0 + j < arr.size := by omega
      rw [Array.getElem?_eq_getElem this]; rfl
     ·simp only [Array.length_toList] at hj
      have := t4 (len * te.size + 0 + j) (by omega)
      simp only [World.frozen?, t3]
      simpa using this
    clear hrunst
    obtain ⟨arr', e1, e2, e3, e4, e5, e6, e7, e8⟩ := qbi B new.toList (len * te.size) w arr elem fr t3 (by simp only [Array.length_toList]; omega)
    obtain ⟨I', S'⟩ := I.grewAt (cs := ccs) (w' := w.setCells B (len * te.size) new.toList) hst t1 e1 (.inl rfl) t2 (by rw [e2]; exact fun o ho => t4 o (.inl ho)) (by rw [e2]; omega) (fun i c' hc => by
      rw [List.getElem?_append] at hc
      rw [e3 i]
      split at hc
      ·rename_i hi
       obtain ⟨v, r1, r2, r3⟩ := o6 i c' (by omega) hc
       exact ⟨v, by rw [if_neg (by omega)]; exact r1, r2, r3⟩
      ·rename_i hi
       obtain ⟨v, r1, r2⟩ := VRs.get k4 _ _ hc
       have : i - old.length < new.toList.length := by
        rcases Nat.lt_or_ge (i - old.length) new.toList.length with h | h
        ·exact h
        ·rw [List.getElem?_eq_none h] at r1; cases r1
       refine ⟨v, ?_, List.all_eq_true.1 k5 v (List.mem_of_getElem? r1), r2⟩
       rw [if_pos (by omega), hlk]; exact r1)
     (by rw [e4]; exact Nat.le_refl _) (fun b _ hne => e5 b hne) ⟨arr, elem, fr, arr', t3, e1, e2, fun i hi => by rw [e3 i, if_neg (by omega)]⟩ e6 e7 e8
    refine ⟨_, _, _, qea hus hux hux' hie k1 hroom k3 (fun a' ha' => by cases ha'; exact hrunst') (fun h => by cases h), ?_, I', S'⟩
    simp only [VR]
    refine ⟨hln, by simp [G.grew], hk, _, c, rfl, hroom, rfl, fun B' hB' => ?_⟩
    simp [G.grew] at hB'
    subst hB'
    simp only [G.grew, and_self, if_true, Nat.zero_add]
    refine ⟨by rw [Nat.add_mul]; omega, fun _ => ⟨by simp, by simp, by rw [e2]; omega⟩⟩
   ·-- new memory
    have Id := I.sameHeap (w' := w.drew) rfl
    obtain ⟨_, _, new', k3', k4', k5'⟩ := qed (P := P) Id hx hsrc
    rw [hsz] at k3'
    have hs2 : VR g (.sl loc gn 0 len te.size) (.slice (some ⟨B, 0, none⟩) len c) := by
     simp only [VR]
     exact ⟨hln, by omega, hk, _, c, rfl, hlc, by simp, by simpa using ha⟩
    obtain ⟨_, m2, oldc, m3, m4, m5⟩ := qed (P := P) (k := te.size) (n := len) (cs := old) Id hs2 (by
     simp only [qaf, hst]
     rw [if_pos (by refine ⟨q2, Nat.le_refl _, ?_, ?_⟩ <;> first | trivial | omega)]
     simp [hlk])
    rw [hsz] at m3
    obtain ⟨newCap, ⟨hge, h63⟩, hrun⟩ := run_append_grow (ty := rty) (old := oldc) (new := new') (base := some ⟨B, 0, none⟩) (sLen := len) (sCap := c) hus hux hux' hie hzv hbytes k1 (by omega) (by rw [← hby]; exact hfit) m3 k3'
    have hl := VRs.length k4'
    have hl2 := VRs.length m4
    simp only [Array.length_toList] at hl hl2
    have hzc : (Builtin.zeroCells zv.cells (newCap - (len + n))).size = (newCap - (len + n)) * te.size := by
     simp [Builtin.zeroCells, hz2]
    have hBlt := lt_of_some t3
    obtain ⟨I', S'⟩ := I.grewAt (cs := ccs) (w' := { w with heap := w.heap.push (.cells (oldc ++ new' ++ Builtin.zeroCells zv.cells (newCap - (len + n))) e), drawn := w.drawn + 1 }) (fr := (0, 0)) hst t1 (qbe _ _) (.inr (Nat.le_refl _))
     (fun o => by
      cases hz : g.fz w.heap.size o with
      | none => rfl
      | some v => have := qcu (I.fz _ _ _ hz); omega)
     (fun o _ => by simp) (by simp [hl, hl2]) (fun i c' hc => by
      rw [List.getElem?_append] at hc
      split at hc
      ·rename_i hi
       obtain ⟨v, r1, r2⟩ := VRs.get m4 _ _ hc
       refine ⟨v, ?_, List.all_eq_true.1 m5 v (List.mem_of_getElem? r1), r2⟩
       rw [Array.append_assoc, Array.getElem?_append_left (by omega)]
       simpa using r1
      ·rename_i hi
       obtain ⟨v, r1, r2⟩ := VRs.get k4' _ _ hc
       have : i - old.length < new'.toList.length := by
        rcases Nat.lt_or_ge (i - old.length) new'.toList.length with h | h
        ·exact h
        ·rw [List.getElem?_eq_none h] at r1; cases r1
       simp only [Array.length_toList] at this
       refine ⟨v, ?_, List.all_eq_true.1 k5' v (List.mem_of_getElem? r1), r2⟩
       rw [Array.getElem?_append_left (by simp; omega), Array.getElem?_append_right (by omega), ← hl2]
       simpa using r1)
     (by simp) (fun b hb _ => qav _ _ _ hb) ⟨arr, elem, fr, arr, t3, by rw [qav _ _ _ hBlt]; exact t3, rfl, fun _ _ => rfl⟩ rfl rfl rfl
    refine ⟨_, _, _, hrun, ?_, I', S'⟩
    simp only [VR]
    refine ⟨hln, by simp [G.grew], hk, _, newCap, rfl, hge, rfl, fun B' hB' => ?_⟩
    simp [G.grew] at hB'
    subst hB'
    simp only [G.grew, and_self, if_true, Nat.zero_add]
    refine ⟨by rw [Nat.add_mul]; omega, fun _ => ⟨by simp, by simp, ?_⟩⟩
    simp only [Array.size_append, hzc]
    have : newCap * te.size = len * te.size + n * te.size + (newCap - (len + n)) * te.size := by rw [← Nat.add_mul, ← Nat.add_mul]; congr 1; omega
    rw [this]
    omega
  ·split at h
   rotate_left
   ·cases h
   rename_i hcond
   obtain ⟨rfl, rfl, rfl, hlt, hfit⟩ := hcond
   cases h
   have hlk : len * te.size = (old.take (len * te.size)).length := by rw [List.length_take]; omega
   have hgl : ∀ i, i < len * te.size → (old.take (len * te.size))[i]? = old[i]? := fun i hi => by rw [List.getElem?_take, if_pos hi]
   simp only [VR] at hs
   obtain ⟨hln, _, _, a, c, rfl, hlc, hsp, ha⟩ := hs
   obtain ⟨q1, q2, q3⟩ := I.cur _ _ _ _ hst
   obtain ⟨B, arr, elem, fr, t1, t2, t3, t4⟩ := I.tip _ _ _ _ hst
   obtain ⟨B', arr', elem', fr', o1, o2, o3, o4, o5, o6⟩ := I.old _ _ _ _ _ hst q2 (Nat.le_refl _)
   rw [t1] at o1; cases o1
   rw [t3] at o2; cases o2
   obtain ⟨hb1, hb2⟩ := ha B t1
   obtain ⟨b1, b2, b3⟩ := hb2 (by simp)
   have haddr : a = ⟨B, 0, none⟩ := by rw [qbq a hsp, b1, b2]
   subst haddr
   by_cases hroom : len + n ≤ c
   ·-- there is room
    have hnl := VRs.length k4
    simp only [Array.length_toList] at hnl
    have hfit2 : len * te.size + n * te.size ≤ arr.size := by
     have : (len + n) * te.size ≤ c * te.size := Nat.mul_le_mul_right _ hroom
     rw [Nat.add_mul] at this
     omega
    have hrunst : (storeCells ⟨B, 0, none⟩ new.toList (len * te.size)).run P w = .ok () (w.setCells B (0 + len * te.size) new.toList) := by
     refine run_storeCells_cells B 0 new.toList (len * te.size) w (fun j hj => ?_) (fun j hj => ?_) (fun v hv => by simpa using (List.all_eq_true.1 k5) v hv)
     ·rw [cell_of_heap t3]
      simp only [Array.length_toList] at hj
      have : 0 + len * te.size + j < arr.size := by omega
      rw [Array.getElem?_eq_getElem this]; rfl
     ·simp only [Array.length_toList] at hj
      have := t4 (0 + len * te.size + j) (by omega)
      simp only [World.frozen?, t3]
      simpa using this
    have hrunst' : (storeCells ((⟨B, 0, none⟩ : Addr).add (len * inf.size)) new.toList).run P w = .ok () (w.setCells B (len * te.size) new.toList) := by
     rw [add_plain, ← hsz, Nat.zero_add]
     have := run_storeCells_cells (P := P) B (len * te.size) new.toList 0 w (fun j hj => ?_) (fun j hj => ?_) (fun v hv => by simpa using (List.all_eq_true.1 k5) v hv)
     ·simpa using this
     ·rw [cell_of_heap t3]
      simp only [Array.length_toList] at hj
      have : len * te.size + 0 + j < arr.size := by omega
      rw [Array.getElem?_eq_getElem this]; rfl
     ·simp only [Array.length_toList] at hj
      have := t4 (len * te.size + 0 + j) (by omega)
      simp only [World.frozen?, t3]
      simpa using this
    clear hrunst
    obtain ⟨arr', e1, e2, e3, e4, e5, e6, e7, e8⟩ := qbi B new.toList (len * te.size) w arr elem fr t3 (by simp only [Array.length_toList]; omega)
    obtain ⟨I', S'⟩ := I.cutAt (cs := old.take (len * te.size) ++ ccs) (w' := w.setCells B (len * te.size) new.toList) hst t1 e1 (.inl rfl) t2 (by rw [e2]; exact fun o ho => t4 o (.inl ho)) (by rw [e2, List.length_append]; omega) (fun i c' hc => by
      rw [List.getElem?_append] at hc
      rw [e3 i]
      split at hc
      ·rename_i hi
       rw [hgl i (by omega)] at hc
       obtain ⟨v, r1, r2, r3⟩ := o6 i c' (by omega) hc
       exact ⟨v, by rw [if_neg (by omega)]; exact r1, r2, r3⟩
      ·rename_i hi
       obtain ⟨v, r1, r2⟩ := VRs.get k4 _ _ hc
       have : i - (old.take (len * te.size)).length < new.toList.length := by
        rcases Nat.lt_or_ge (i - (old.take (len * te.size)).length) new.toList.length with h | h
        ·exact h
        ·rw [List.getElem?_eq_none h] at r1; cases r1
       refine ⟨v, ?_, List.all_eq_true.1 k5 v (List.mem_of_getElem? r1), r2⟩
       rw [if_pos (by omega), hlk]; exact r1)
     (by rw [e4]; exact Nat.le_refl _) (fun b _ hne => e5 b hne) e6 e7 e8
    refine ⟨_, _, _, qea hus hux hux' hie k1 hroom k3 (fun a' ha' => by cases ha'; exact hrunst') (fun h => by cases h), ?_, I', S'⟩
    simp only [VR]
    refine ⟨hln, by simp [G.cut], hk, _, c, rfl, hroom, rfl, fun B' hB' => ?_⟩
    simp [G.cut] at hB'
    subst hB'
    simp only [G.cut, and_self, if_true, Nat.zero_add]
    refine ⟨by rw [Nat.add_mul, List.length_append]; omega, fun _ => ⟨by simp, by simp, by rw [e2]; omega⟩⟩
   ·-- new memory
    have Id := I.sameHeap (w' := w.drew) rfl
    obtain ⟨_, _, new', k3', k4', k5'⟩ := qed (P := P) Id hx hsrc
    rw [hsz] at k3'
    have hs2 : VR g (.sl loc gn 0 len te.size) (.slice (some ⟨B, 0, none⟩) len c) := by
     simp only [VR]
     exact ⟨hln, by omega, hk, _, c, rfl, hlc, by simp, by simpa using ha⟩
    obtain ⟨_, m2, oldc, m3, m4, m5⟩ := qed (P := P) (k := te.size) (n := len) (cs := old.take (len * te.size)) Id hs2 (by
     simp only [qaf, hst]
     rw [if_pos (by refine ⟨q2, Nat.le_refl _, ?_, ?_⟩ <;> first | trivial | omega)]
     simp)
    rw [hsz] at m3
    obtain ⟨newCap, ⟨hge, h63⟩, hrun⟩ := run_append_grow (ty := rty) (old := oldc) (new := new') (base := some ⟨B, 0, none⟩) (sLen := len) (sCap := c) hus hux hux' hie hzv hbytes k1 (by omega) (by rw [← hby]; exact hfit) m3 k3'
    have hl := VRs.length k4'
    have hl2 := VRs.length m4
    simp only [Array.length_toList] at hl hl2
    have hzc : (Builtin.zeroCells zv.cells (newCap - (len + n))).size = (newCap - (len + n)) * te.size := by
     simp [Builtin.zeroCells, hz2]
    have hBlt := lt_of_some t3
    obtain ⟨I', S'⟩ := I.cutAt (cs := old.take (len * te.size) ++ ccs) (w' := { w with heap := w.heap.push (.cells (oldc ++ new' ++ Builtin.zeroCells zv.cells (newCap - (len + n))) e), drawn := w.drawn + 1 }) (fr := (0, 0)) hst t1 (qbe _ _) (.inr (Nat.le_refl _))
     (fun o => by
      cases hz : g.fz w.heap.size o with
      | none => rfl
      | some v => have := qcu (I.fz _ _ _ hz); omega)
     (fun o _ => by simp) (by simp [hl, hl2]) (fun i c' hc => by
      rw [List.getElem?_append] at hc
      split at hc
      ·rename_i hi
       obtain ⟨v, r1, r2⟩ := VRs.get m4 _ _ hc
       refine ⟨v, ?_, List.all_eq_true.1 m5 v (List.mem_of_getElem? r1), r2⟩
       rw [Array.append_assoc, Array.getElem?_append_left (by omega)]
       simpa using r1
      ·rename_i hi
       obtain ⟨v, r1, r2⟩ := VRs.get k4' _ _ hc
       have : i - (old.take (len * te.size)).length < new'.toList.length := by
        rcases Nat.lt_or_ge (i - (old.take (len * te.size)).length) new'.toList.length with h | h
        ·exact h
        ·rw [List.getElem?_eq_none h] at r1; cases r1
       simp only [Array.length_toList] at this
       refine ⟨v, ?_, List.all_eq_true.1 k5' v (List.mem_of_getElem? r1), r2⟩
       rw [Array.getElem?_append_left (by simp; omega), Array.getElem?_append_right (by omega), ← hl2]
       simpa using r1)
     (by simp) (fun b hb _ => qav _ _ _ hb) rfl rfl rfl
    refine ⟨_, _, _, hrun, ?_, I', S'⟩
    simp only [VR]
    refine ⟨hln, by simp [G.cut], hk, _, newCap, rfl, hge, rfl, fun B' hB' => ?_⟩
    simp [G.cut] at hB'
    subst hB'
    simp only [G.cut, and_self, if_true, Nat.zero_add]
    refine ⟨by rw [Nat.add_mul, List.length_append]; omega, fun _ => ⟨by simp, by simp, ?_⟩⟩
    simp only [Array.size_append, hzc]
    have : newCap * te.size = len * te.size + n * te.size + (newCap - (len + n)) * te.size := by rw [← Nat.add_mul, ← Nat.add_mul]; congr 1; omega
    rw [this]
    omega
 ·cases h

end Go.V

/- Parts of values, places, slices, fields. -/
namespace Go.V

theorem qyk {P : Program} {t : TypeId} {i : TI} (ht : tiOf P t = some i) {g : G} {w : World} {cs : List V} {a : Array Value} (h : VRs g cs a.toList) (h1 : a.toList.all Value.oneCell' = true) {off : Nat} {v : V}
  (hv : qnq cs off i = some v) : ∃ cv, (part t a off).run P w = .ok cv w ∧ VR g v cv := by
 obtain ⟨inf, u, hi, hu, hag, hsz, _⟩ := qah ht
 unfold qnq at hv
 split at hv
 rotate_left
 ·cases hv
 rename_i hl
 have hlen := VRs.length h
 split at hv
 ·rename_i ha
  cases hv
  refine ⟨.agg (a.extract off (off + inf.size)), ?_, ?_⟩
  ·simp [part, qep hu, ← hag, ha, qbn hi]
  ·have e : (a.extract off (off + inf.size)).toList = (a.toList.drop off).take i.size := by
    rw [hsz]; simp [Array.toList_extract, List.extract_eq_drop_take]
   refine qpd ?_ ?_
   ·rw [e]
    refine VRs.of_get (by simp [hlen]) fun j x hx => ?_
    rw [qff] at hx ⊢
    split at hx
    ·rename_i hj
     rw [if_pos hj]
     exact VRs.get h _ _ hx
    ·cases hx
   ·rw [e]
    rw [List.all_eq_true] at h1 ⊢
    intro x hx
    exact h1 x (List.mem_of_mem_drop (List.mem_of_mem_take hx))
 ·rename_i ha
  obtain ⟨cv, e, hr⟩ := VRs.get h _ _ hv
  refine ⟨cv, ?_, hr⟩
  have : qsg u = false := by rw [← hag]; simpa using ha
  simp only [Array.getElem?_toList] at e
  simp [part, qep hu, this, e]

theorem qfx {u : TypeDesc} {fs : List (Nat × TypeId)} (h : shapeOf u = .struct fs) : ∃ fa, u = .struct fa ∧ fs = fa.toList.map fun f => (f.offset, f.type) := by
 cases u <;> simp [shapeOf] at h; exact ⟨_, rfl, h.symm⟩

theorem qog {P : Program} {ty : TypeId → Option TI} (hty : ∀ t x, ty t = some x → tiOf P t = some x) {t : TypeId} {i off : Nat} {ft : TI} (h : qfr ty t i = some (off, ft)) :
  ∃ fa f, P.underlying t = some (.struct fa) ∧ fa[i]? = some f ∧ f.offset = off ∧ tiOf P f.type = some ft := by
 unfold qfr at h
 split at h
 ·rename_i ag sz by_ ze fs eq h1
  obtain ⟨_, u, _, hu, _, _, _, _, hsh, _⟩ := qah (hty _ _ h1)
  obtain ⟨fa, rfl, rfl⟩ := qfx hsh.symm
  split at h
  ·rename_i o f h2
   cases h3 : ty f with
   | none => simp [h3] at h
   | some x =>
    simp [h3] at h
    obtain ⟨rfl, rfl⟩ := h
    simp only [List.getElem?_map, Array.getElem?_toList] at h2
    cases hf : fa[i]? with
    | none => simp [hf] at h2
    | some fd =>
     simp [hf] at h2
     obtain ⟨rfl, rfl⟩ := h2
     exact ⟨fa, fd, hu, hf, rfl, hty _ _ h3⟩
  ·cases h
 ·cases h

theorem qtj {P : Program} {ty : TypeId → Option TI} (hty : ∀ t x, ty t = some x → tiOf P t = some x) {t : TypeId} {i off : Nat} {ft : TI} (h : qfr ty t i = some (off, ft)) {g : G} {w : World} {x v : V} {cx : Value} {cs : List V}
  (hx : VR g x cx) (hc : cellsOf x = some cs) (hagg : ∃ a, cx = .agg a) (hv : qnq cs off ft = some v) : ∃ cv, (Instr.field t cx i).run P w = .ok cv w ∧ VR g v cv := by
 obtain ⟨fa, f, hu, hf, rfl, hft⟩ := qog hty h
 obtain ⟨a, rfl⟩ := hagg
 obtain ⟨h1, h2⟩ := qcv hx hc
 obtain ⟨cv, r1, r2⟩ := qyk (P := P) (w := w) hft h1 h2 hv
 refine ⟨cv, ?_, r2⟩
 simp only [Value.cells] at r1
 simp [Instr.field, qan hu, hf, asAgg, r1]

theorem qfy {P : Program} {ty : TypeId → Option TI} (hty : ∀ t x, ty t = some x → tiOf P t = some x) {t : TypeId} {i off : Nat} {ft : TI} (h : qfr ty t i = some (off, ft)) (h0 : ft.size ≠ 0) {w : World} (a : Addr) (hs : a.spot = none) :
  (Instr.fieldAt t (.pointer (some a)) i).run P w = .ok (.pointer (some ⟨a.block, a.off + off, none⟩)) w := by
 obtain ⟨fa, f, hu, hf, rfl, hft⟩ := qog hty h
 obtain ⟨inf, u, hi, hu', hag, hsz, _⟩ := qah hft
 have : inf.size ≠ 0 := by omega
 rw [qbq a hs]
 simp [Instr.fieldAt, qan hu, hf, Instr.sureAddr, fieldPlace, qbn hi, this, add_plain]

theorem TRcells.drop {fz : Nat → Nat → Option Value} {b : Nat} {cs : List T} {off n : Nat} (h : TRcells fz b off cs) : TRcells fz b (off + n) (cs.drop n) := by
 refine TRcells.of_get fun i x hx => ?_
 rw [List.getElem?_drop] at hx
 have := TRcells.get h _ _ hx
 rwa [show off + (n + i) = off + n + i by omega] at this

theorem TRrows.get {fz : Nat → Nat → Option Value} {b k : Nat} : ∀ {rows : List T} {off : Nat}, TRrows fz b k off rows → ∀ (i : Nat) (x : T), rows[i]? = some x → ∃ cs, x = .agg cs ∧ cs.length = k ∧ TRcells fz b (off + i * k) cs
 | [], _, _, i, x, hx => by simp at hx
 | .agg cs :: rows, off, h, i, x, hx => by
  simp only [TRrows] at h
  cases i with
  | zero => simp at hx; subst hx; exact ⟨cs, rfl, h.1, by simpa using h.2.1⟩
  | succ i =>
   simp at hx
   obtain ⟨cs', e, h1, h2⟩ := TRrows.get h.2.2 i x hx
   exact ⟨cs', e, h1, by rwa [show off + k + i * k = off + (i + 1) * k by rw [Nat.succ_mul]; omega] at h2⟩
 | .undef :: _, _, h, _, _, _ => by simp [TRrows] at h
 | .bool _ :: _, _, h, _, _, _ => by simp [TRrows] at h
 | .int _ _ :: _, _, h, _, _, _ => by simp [TRrows] at h
 | .str _ :: _, _, h, _, _, _ => by simp [TRrows] at h
 | .nilp :: _, _, h, _, _, _ => by simp [TRrows] at h
 | .nils :: _, _, h, _, _, _ => by simp [TRrows] at h
 | .nilm :: _, _, h, _, _, _ => by simp [TRrows] at h
 | .nilf :: _, _, h, _, _, _ => by simp [TRrows] at h
 | .tup _ :: _, _, h, _, _, _ => by simp [TRrows] at h
 | .list _ :: _, _, h, _, _, _ => by simp [TRrows] at h
 | .snap _ :: _, _, h, _, _, _ => by simp [TRrows] at h

theorem TRrows.of_get {fz : Nat → Nat → Option Value} {b k : Nat} : ∀ {rows : List T} {off : Nat}, (∀ (i : Nat) (x : T), rows[i]? = some x → ∃ cs, x = .agg cs ∧ cs.length = k ∧ TRcells fz b (off + i * k) cs) → TRrows fz b k off rows
 | [], _, _ => by simp [TRrows]
 | x :: rows, off, h => by
  obtain ⟨cs, rfl, h1, h2⟩ := h 0 x rfl
  simp only [TRrows]
  refine ⟨h1, by simpa using h2, TRrows.of_get fun i y hy => ?_⟩
  obtain ⟨cs', e, h1, h2⟩ := h (i + 1) y (by simpa using hy)
  exact ⟨cs', e, h1, by rwa [show off + (i + 1) * k = off + k + i * k by rw [Nat.succ_mul]; omega] at h2⟩

theorem qmo {P : Program} {t e : TypeId} {te : TI} (hu : P.underlying t = some (.slice e)) (hte : tiOf P e = some te) {g : G} {w : World} {x v : V} {cx : Value} {i : Int} (k : IntKind) (hx : VR g x cx) (h : idxV te.size x i = some v) :
  ∃ cv, (Instr.indexAt t cx (.int k i)).run P w = .ok cv w ∧ VR g v cv := by
 obtain ⟨inf, u, hi, hu', hag, hsz, _⟩ := qah hte
 unfold idxV at h
 split at h
 ·rename_i rows
  simp only [VR, TR] at hx
  obtain ⟨a, c, k0, rfl, hle, hsp, hr⟩ := hx
  split at h
  rotate_left
  ·cases h
  rename_i h0
  split at h
  rotate_left
  ·cases h
  rename_i cs hrow
  split at h
  rotate_left
  ·cases h
  rename_i hk
  cases h
  obtain ⟨cs', e1, e2, e3⟩ := TRrows.get hr _ _ hrow
  cases e1
  have hlt : i.toNat < rows.length := by
   rcases Nat.lt_or_ge i.toNat rows.length with h' | h'
   ·exact h'
   ·rw [List.getElem?_eq_none h'] at hrow; cases hrow
  have hsp := hsp.resolve_left (by rintro rfl; simp at hlt)
  refine ⟨.pointer (some ⟨a.block, a.off + i.toNat * te.size, none⟩), ?_, ?_⟩
  ·have hc : 0 ≤ i ∧ i < (rows.length : Int) := by omega
   rw [qbq a hsp]
   simp only [Instr.indexAt, asIntOf, Sem.run_bind, Sem.run_pure, Result.andThen_ok, qan hu]
   simp [hc, qbn hi, add_plain, hsz]
  ·simp only [VR, TR]
   exact ⟨_, rfl, rfl, by rw [← hk, e2]; exact e3⟩
 ·rename_i loc gn off len k'
  split at h
  rotate_left
  ·cases h
  rename_i hc
  obtain ⟨h0, h1, rfl⟩ := hc
  cases h
  simp only [VR] at hx
  obtain ⟨hln, hgn, hk, a, c, rfl, hlc, hsp, ha⟩ := hx
  refine ⟨.pointer (some ⟨a.block, a.off + i.toNat * te.size, none⟩), ?_, ?_⟩
  ·have hc : 0 ≤ i ∧ i < (len : Int) := by omega
   rw [qbq a hsp]
   simp only [Instr.indexAt, asIntOf, Sem.run_bind, Sem.run_pure, Result.andThen_ok, qan hu]
   simp [hc, qbn hi, add_plain, hsz]
  ·simp only [VR]
   refine ⟨hln, hgn, _, rfl, rfl, fun B hB => ?_⟩
   obtain ⟨q1, q2⟩ := ha B hB
   obtain ⟨b1, b2, b3⟩ := q2 (.inl (by omega))
   have : i.toNat * te.size + te.size ≤ len * te.size := by rw [← Nat.succ_mul]; exact Nat.mul_le_mul_right _ (by omega)
   exact ⟨by omega, by rw [b1, b2]⟩
 ·cases h

theorem qma (s : ByteArray) (l h : Nat) : bytes (s.extract l h) = ((bytes s).take h).drop l := by
 simp [bytes, ByteArray.data_extract, List.extract_eq_drop_take, List.drop_take]

theorem qgj {P : Program} {w : World} (isSlice : Bool) (len cap : Nat) {lo hi : Option V} {clo chi : Option Value} {l h : Int} {g : G} (hlo : bound 0 lo = some l) (hhi : bound len hi = some h)
  (rlo : ∀ v, lo = some v → ∃ c, clo = some c ∧ VR g v c) (rlo' : lo = none → clo = none) (rhi : ∀ v, hi = some v → ∃ c, chi = some c ∧ VR g v c) (rhi' : hi = none → chi = none)
  (h1 : 0 ≤ l) (h2 : l ≤ h) (h3 : h ≤ len) (h4 : len ≤ cap) : (Instr.sliceBounds isSlice len cap clo chi none).run P w = .ok (l.toNat, h.toNat, cap) w := by
 have hh : ∃ m : Nat, h = (m : Int) ∧ (match chi with | some v => Instr.sliceBound v cap (if isSlice then .sliceAcap else .sliceAlen) | none => pure len : Sem Nat).run P w = .ok m w := by
  cases hi with
  | none =>
   obtain rfl := rhi' rfl
   simp [bound] at hhi
   exact ⟨len, hhi.symm, rfl⟩
  | some v =>
   obtain ⟨c, rfl, hc⟩ := rhi v rfl
   unfold bound at hhi
   split at hhi
   ·rename_i e; cases e
   ·rename_i k i e
    cases e; cases hhi
    simp only [VR, TR] at hc; subst hc
    refine ⟨h.toNat, by omega, ?_⟩
    have : 0 ≤ h ∧ h ≤ (cap : Int) := by omega
    simp [Instr.sliceBound, asIntOf, this]
   ·cases hhi
 obtain ⟨m, rfl, hm⟩ := hh
 have hl : (match clo with | some v => Instr.sliceBound v m .sliceB | none => pure 0 : Sem Nat).run P w = .ok l.toNat w := by
  cases lo with
  | none =>
   obtain rfl := rlo' rfl
   simp [bound] at hlo
   subst hlo
   rfl
  | some v =>
   obtain ⟨c, rfl, hc⟩ := rlo v rfl
   unfold bound at hlo
   split at hlo
   ·rename_i e; cases e
   ·rename_i k i e
    cases e; cases hlo
    simp only [VR, TR] at hc; subst hc
    have : 0 ≤ l ∧ l ≤ (m : Int) := by omega
    simp [Instr.sliceBound, asIntOf, this]
   ·cases hlo
 simp only [Instr.sliceBounds, Sem.run_bind, Sem.run_pure, Result.andThen_ok]
 cases chi <;> cases clo <;> simp_all

end Go.V
