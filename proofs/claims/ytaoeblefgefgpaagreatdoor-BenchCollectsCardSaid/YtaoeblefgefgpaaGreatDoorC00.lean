/- A part of the proof of a statement of this seat: the machine on which the program is read, and what it computes; for every input. -/
import GoSem.Dispatch
import Derived.RowKit3
import Derived.Laws.OwnMore
import Derived.Laws.Sem
import Derived.Laws.Strings
import Derived.Laws.StructEq
import Derived.Laws.Slices
import Derived.Laws.Cells
import Derived.Laws.BytesString
import Derived.Laws.Entries
import Derived.Laws.Bits
import Derived.Maps.RangeRun
set_option linter.all false
set_option linter.unusedSectionVars false
set_option linter.unusedVariables false
namespace Go.Am
open Go
/-- Abstract values. -/
inductive AV where
  | bool (b : Bool) | int (k : IntKind) (n : Int) | flt (k : FloatKind) (bits : Nat) | str (s : List UInt8)
  | nilp | ptr (b o : Nat)
  | nils | sl (b o len : Nat) (cap : Option Nat) (esz : Nat)
  | nilm | map (r : Nat) | nilfn | fn (f : Fn) (first cap : List AV)
  | nili | iface (t : TypeId) (v : AV) | agg (cs : List AV) | tup (vs : List AV)
  | nilch | chan (r : Nat)
  /- what nobody writes any more: a slice by its elements, a pointer by the cells of what it points into, a map by keys and values -/
  | fz (es : List AV) | fp (cs : List AV) (o : Nat) | fm (ks vs : List AV)
  deriving Inhabited

inductive Tr (α : Type) where
  | nil
  | n (v : Option α) (l r : Tr α)

def Tr.get {α : Type} : Tr α → Nat → Option α
  | .nil, _ => none
  | .n v l r, k => match k with
    | 0 => v
    | k' + 1 => cond (Nat.beq (k' % 2) 0) (l.get (k' / 2)) (r.get (k' / 2))

def Tr.setF {α : Type} : Nat → Tr α → Nat → α → Tr α
  | 0, t, _, _ => t
  | f + 1, .nil, k, x => match k with
    | 0 => .n (some x) .nil .nil
    | k' + 1 => cond (Nat.beq (k' % 2) 0) (.n none (Tr.setF f .nil (k' / 2) x) .nil) (.n none .nil (Tr.setF f .nil (k' / 2) x))
  | f + 1, .n v l r, k, x => match k with
    | 0 => .n (some x) l r
    | k' + 1 => cond (Nat.beq (k' % 2) 0) (.n v (Tr.setF f l (k' / 2) x) r) (.n v l (Tr.setF f r (k' / 2) x))

def Tr.set {α : Type} (t : Tr α) (k : Nat) (x : α) : Tr α := Tr.setF (k + 1) t k x

abbrev Env := Tr AV

/-- a map that nobody writes; what its entries are stamped with; the next stamp -/
structure MI where
  ro : Bool
  bs : List Nat
  ck : Nat
def MI.new : MI := ⟨false, [], 0⟩
/-- from a entries on to b -/
def MI.grow (m : MI) (a b : Nat) : MI := if a < b then { m with bs := m.bs ++ [m.ck], ck := m.ck + 1 } else m

inductive Blk where
  | cells (c : List AV) (elem : TypeId) (ro : Bool) (flo fhi : Nat)
  | gone
  | map (es : List (AV × AV)) (mi : MI)
  | iter (s : List UInt8) (pos : Nat)
  | chan (cap : Nat) (buf : List AV)
  | miter (m : Option Nat) (since : Nat) (seen : List Nat) (stepped : Nat)
  | loop (state : Nat) (pending : Option Code) (env : Env) (params : List Tmp) (assign body : Code)

structure St where
  t : Tr Blk
  base : Nat → Option Blk
  next : Nat

def St.get (s : St) (b : Nat) : Option Blk := match s.t.get b with
  | some x => some x
  | none => s.base b
def St.put (s : St) (b : Nat) (x : Blk) : St := { s with t := s.t.set b x }
def St.new (s : St) (x : Blk) : St := { s with t := s.t.set s.next x, next := s.next + 1 }

structure Cx where
  und : TypeId → Option TypeDesc
  inf : TypeId → Option TypeInfo
  fn : FuncId → Option Func
  glob : Nat
  eqOk : TypeId → Bool
  ext : FuncId → Option (List AV → St → Option (AV × St))
  /- the package's variables as they are once for all; the functions that are run in a state of their own -/
  gbase : Nat → Option Blk
  pure : FuncId → Bool
  /- types of which no row is ever appended to -/
  spec : TypeId → Bool

def undef : AV := .tup []

def Env.get (e : Env) (t : Tmp) : AV := match Tr.get e t with
  | some v => v
  | none => undef

/-- A constant of the code. -/
def ofV : Nat → Value → Option AV
  | 0, _ => none
  | n + 1, v => match v with
    | .bool b => some (.bool b)
    | .int k i => some (.int k i)
    | .float k b => some (.flt k b)
    | .string s => some (.str s.data.toList)
    | .pointer none => some .nilp
    | .slice none 0 0 => some .nils
    | .map none => some .nilm
    | .nilFunc => some .nilfn
    | .nilIface => some .nili
    | .chan none => some .nilch
    | .agg cs => (cs.toList.mapM (ofV n)).map .agg
    | .tuple cs => (cs.toList.mapM (ofV n)).map .tup
    | _ => none

def AV.cells : AV → List AV
  | .agg cs => cs
  | v => [v]

mutual
/-- the same value, to the sign -/
def same : AV → AV → Bool
  | .bool a, .bool b => a == b
  | .int k a, .int j b => decide (k = j) && a == b
  | .flt k a, .flt j b => decide (k = j) && a == b
  | .str a, .str b => a == b
  | .nilp, .nilp => true
  | .ptr a b, .ptr c d => a == c && b == d
  | .nils, .nils => true
  | .sl a b c d e, .sl a' b' c' d' e' => a == a' && b == b' && c == c' && d == d' && e == e'
  | .nilm, .nilm => true
  | .map a, .map b => a == b
  | .nilch, .nilch => true
  | .chan a, .chan b => a == b
  | .nilfn, .nilfn => true
  | .fn f x y, .fn g x' y' => decide (f = g) && sames x x' && sames y y'
  | .nili, .nili => true
  | .iface t x, .iface u y => t == u && same x y
  | .agg a, .agg b => sames a b
  | .tup a, .tup b => sames a b
  | .fz a, .fz b => sames a b
  | .fp a o, .fp b o' => o == o' && sames a b
  | .fm a b, .fm a' b' => sames a a' && sames b b'
  | _, _ => false
def sames : List AV → List AV → Bool
  | [], [] => true
  | a :: x, b :: y => same a b && sames x y
  | _, _ => false
end

section
variable (X : Cx)

def eval (e : Env) : Operand → Option AV
  | .tmp t => some (Env.get e t)
  | .const v => ofV 3 v
  | .global g => if g < X.glob then some (.ptr g 0) else none
  | .func f => some (.fn (.func f) [] [])

def size (t : TypeId) : Option Nat := match X.inf t with
  | some i => some i.size
  | none => none

def isAggT (t : TypeId) : Option Bool := match X.und t with
  | some (.struct _) => some true
  | some (.array _ _) => some true
  | some _ => some false
  | none => none

def zero (t : TypeId) : Option AV := match X.inf t with
  | some i => match i.zero with
    | some z => ofV 3 z
    | none => none
  | none => none

def St.cells (s : St) (b : Nat) : Option (List AV) := match s.get b with
  | some (.cells c _ _ _ _) => some c
  | _ => none

/-- n values from place o on, all of them there -/
def grab : Nat → Nat → List AV → Option (List AV)
  | 0, _, _ => some []
  | _ + 1, _, [] => none
  | n + 1, 0, x :: l => match grab n 0 l with
    | some r => some (x :: r)
    | none => none
  | n + 1, o + 1, _ :: l => grab (n + 1) o l

/-- the values vs laid over l from place o on -/
def lay : Nat → List AV → List AV → Option (List AV)
  | _, [], l => some l
  | _, _ :: _, [] => none
  | 0, v :: vs, _ :: l => match lay 0 vs l with
    | some r => some (v :: r)
    | none => none
  | o + 1, v :: vs, x :: l => match lay o (v :: vs) l with
    | some r => some (x :: r)
    | none => none

def cell (s : St) (b o : Nat) : Option AV := match s.cells b with
  | some c => c[o]?
  | none => none

def loadA (t : TypeId) (a : AV) (s : St) : Option AV := match a with
  | .ptr b o => match isAggT X t with
    | some true => match size X t, s.cells b with
      | some n, some c => match grab n o c with
        | some r => some (.agg r)
        | none => none
      | _, _ => none
    | some false => cell s b o
    | none => none
  | .fp c o => match isAggT X t with
    | some true => match size X t with
      | some n => match grab n o c with
        | some r => some (.agg r)
        | none => none
      | none => none
    | some false => c[o]?
    | none => none
  | _ => none

def noAgg : AV → Bool
  | .agg _ => false
  | .tup _ => false
  | _ => true

/-- Write cells into a block of our own. -/
def writeCells (s : St) (b o : Nat) (vs : List AV) : Option St := match s.get b with
  | some (.cells c e false flo fhi) =>
    -- nothing that a string shares
    if (o + vs.length ≤ flo || fhi ≤ o) && vs.all noAgg then
      match lay o vs c with
      | some c' => some (s.put b (.cells c' e false flo fhi))
      | none => none
    else none
  | _ => none

def storeA (t : TypeId) (a v : AV) (s : St) : Option St := match a with
  | .ptr b o => match size X t with
    | some n => if v.cells.length = n then writeCells s b o v.cells else none
    | none => none
  | _ => none

def partA (t : TypeId) (cs : List AV) (off : Nat) : Option AV := match isAggT X t with
  | some true => match size X t with
    | some n => match grab n off cs with
      | some r => some (.agg r)
      | none => none
    | none => none
  | some false => cs[off]?
  | none => none

def fillA (place : Nat → Option (Nat × Nat)) (cells : List AV) : List (Nat × AV) → Option (List AV)
  | [] => some cells
  | (i, v) :: rest => match place i with
    | none => none
    | some (off, n) => if v.cells.length = n ∧ off + n ≤ cells.length then
        match lay off v.cells cells with
        | some c => fillA place c rest
        | none => none
      else none

def evalParts (e : Env) : List (Nat × Operand) → Option (List (Nat × AV))
  | [] => some []
  | (i, x) :: l => match eval X e x, evalParts e l with
    | some v, some r => some ((i, v) :: r)
    | _, _ => none

def evals (e : Env) : List Operand → Option (List AV)
  | [] => some []
  | x :: l => match eval X e x, evals e l with
    | some v, some r => some (v :: r)
    | _, _ => none

def repeatL : Nat → List AV → List AV
  | 0, _ => []
  | n + 1, l => l ++ repeatL n l

/-- where the fields lie -/
def placesA : List Field → Option (List (Nat × Nat))
  | [] => some []
  | f :: l => match size X f.type, placesA l with
    | some n, some r => some ((f.offset, n) :: r)
    | _, _ => none

def buildA (t : TypeId) (parts : List (Nat × AV)) : Option AV := match zero X t with
  | some (.agg z) => match X.und t with
    | some (.struct fs) => match placesA X fs.toList with
      | some pl => match fillA (fun i => pl[i]?) z parts with
        | some c => some (.agg c)
        | none => none
      | none => none
    | some (.array _ elem) => match size X elem with
      | some n => match fillA (fun i => some (i * n, n)) z parts with
        | some c => some (.agg c)
        | none => none
      | none => none
    | _ => none
  | _ => none

def newCells (s : St) (c : List AV) (e : TypeId) : AV × St := (.ptr s.next 0, s.new (.cells c e false 0 0))

def buildSliceA (t : TypeId) (len : Nat) (parts : List (Nat × AV)) (s : St) : Option (AV × St) := match X.und t with
  | some (.slice elem) => match size X elem, zero X elem with
    | some n, some z =>
      if z.cells.length = n ∧ n ≠ 0 ∧ len * n ≤ 2 ^ 24 then match fillA (fun i => some (i * n, n)) (repeatL len z.cells) parts with
      | some c => some (.sl s.next 0 len (some len) n, s.new (.cells c elem false 0 0))
      | none => none
      else none
    | _, _ => none
  | _ => none

def bytesLt : List UInt8 → List UInt8 → Bool
  | _, [] => false
  | [], _ :: _ => true
  | a :: x, b :: y => a < b || (a == b && bytesLt x y)

/-- equality of two arrays' cells -/
def eqElems (f : AV → AV → Option Bool) (cut : Nat → List AV → Option AV) (n : Nat) : Nat → Nat → List AV → List AV → Option Bool
  | 0, _, _, _ => some true
  | k + 1, i, a, b => match cut (i * n) a, cut (i * n) b with
    | some x, some y => match f x y with
      | some true => eqElems f cut n k (i + 1) a b
      | some false => some false
      | none => none
    | _, _ => none

/-- equality of two structs' fields -/
def eqFieldsA (f : TypeId → AV → AV → Option Bool) (cut : TypeId → Nat → List AV → Option AV) : List Field → List AV → List AV → Option Bool
  | [], _, _ => some true
  | fd :: fs, a, b => if fd.name = "_" then none else match cut fd.type fd.offset a, cut fd.type fd.offset b with
    | some x, some y => match f fd.type x y with
      | some true => eqFieldsA f cut fs a b
      | some false => some false
      | none => none
    | _, _ => none

/-- equality by the type; none: not decided here -/
def eqT : Nat → TypeId → AV → AV → Option Bool
  | 0, _, _, _ => none
  | d + 1, t, x, y => match X.und t, x, y with
    | some .bool, .bool a, .bool b => some (a == b)
    | some (.int _), .int k a, .int k' b => if k = k' then some (a == b) else none
    | some .string, .str a, .str b => some (a == b)
    | some (.pointer _), .nilp, .nilp => some true
    | some (.pointer _), .nilp, .ptr _ _ => some false
    | some (.pointer _), .ptr _ _, .nilp => some false
    | some (.pointer e), .ptr b o, .ptr b' o' => match size X e with
      | some (_ + 1) => if b = b' then some (o == o') else none
      | _ => none
    | some (.slice _), .nils, .nils => some true
    | some (.slice _), .nils, .sl .. => some false
    | some (.slice _), .sl .., .nils => some false
    | some (.slice _), .nils, .fz _ => some false
    | some (.slice _), .fz _, .nils => some false
    | some (.map _ _), .nilm, .nilm => some true
    | some (.map _ _), .nilm, .map _ => some false
    | some (.map _ _), .map _, .nilm => some false
    | some (.func _ _ _), .nilfn, .nilfn => some true
    | some (.func _ _ _), .nilfn, .fn .. => some false
    | some (.func _ _ _), .fn .., .nilfn => some false
    | some (.chan _ _), .nilch, .nilch => some true
    | some (.chan _ _), .nilch, .chan _ => some false
    | some (.chan _ _), .chan _, .nilch => some false
    | some (.chan _ _), .chan a, .chan b => if a = b then some true else none
    | some (.interface _), .nili, .nili => some true
    | some (.interface _), .nili, .iface .. => some false
    | some (.interface _), .iface .., .nili => some false
    | some (.struct fs), .agg a, .agg b => if X.eqOk t then eqFieldsA (eqT d) (fun t o l => partA X t l o) fs.toList a b else none
    | some (.array len e), .agg a, .agg b => match size X e with
      | some n => eqElems (eqT d e) (fun o l => partA X e l o) n len 0 a b
      | none => none
    | _, _, _ => none

def eqTop (cst : Bool) (t : TypeId) (x y : AV) : Option Bool := match x, y with
  | .nili, .nili => if cst then eqT X 20 t .nili .nili else none
  | .agg a, .agg b => if X.eqOk t then eqT X 20 t (.agg a) (.agg b) else none
  | x, y => eqT X 20 t x y

def isConstO : Operand → Bool
  | .const _ => true
  | _ => false

def shiftA (op : BinOp) (k : IntKind) (x y : Int) : Option AV :=
  if y < 0 then none else
  let n := min y.toNat k.bits
  match op with
  | .shl => some (.int k (k.wrap (x * 2 ^ n)))
  | .shr => some (.int k (x.fdiv (2 ^ n)))
  | _ => none

def intA (op : BinOp) (k : IntKind) (x y : Int) : Option AV := match op with
  | .add => some (.int k (k.wrap (x + y)))
  | .sub => some (.int k (k.wrap (x - y)))
  | .mul => some (.int k (k.wrap (x * y)))
  | .quo => if y = 0 then none else some (.int k (k.wrap (x.tdiv y)))
  | .rem => if y = 0 then none else some (.int k (x.tmod y))
  | .and => some (.int k (k.wrap ((BitVec.ofInt k.bits x &&& BitVec.ofInt k.bits y).toNat)))
  | .or => some (.int k (k.wrap ((BitVec.ofInt k.bits x ||| BitVec.ofInt k.bits y).toNat)))
  | .xor => some (.int k (k.wrap ((BitVec.ofInt k.bits x ^^^ BitVec.ofInt k.bits y).toNat)))
  | .andNot => some (.int k (k.wrap ((BitVec.ofInt k.bits x &&& ~~~ BitVec.ofInt k.bits y).toNat)))
  | .eql => some (.bool (x == y))
  | .neq => some (.bool (x != y))
  | .lss => some (.bool (x < y))
  | .leq => some (.bool (x ≤ y))
  | .gtr => some (.bool (x > y))
  | .geq => some (.bool (x ≥ y))
  | _ => none

def strA (op : BinOp) (x y : List UInt8) : Option AV := match op with
  | .add => if x.length + y.length < 2 ^ 62 then some (.str (x ++ y)) else none
  | .eql => some (.bool (x == y))
  | .neq => some (.bool !(x == y))
  | .lss => some (.bool (bytesLt x y))
  | .leq => some (.bool (bytesLt x y || x == y))
  | .gtr => some (.bool !(bytesLt x y || x == y))
  | .geq => some (.bool !(bytesLt x y))
  | _ => none

/-- floats: compared, and counted where no NaN comes out -/
def fltA (op : BinOp) (k : FloatKind) (a b : Nat) : Option AV := match op with
  | .eql => some (.bool (k.format.order a b == some .eq))
  | .neq => some (.bool (k.format.order a b != some .eq))
  | .lss => some (.bool (k.format.order a b == some .lt))
  | .leq => some (.bool (k.format.order a b == some .lt || k.format.order a b == some .eq))
  | .gtr => some (.bool (k.format.order a b == some .gt))
  | .geq => some (.bool (k.format.order a b == some .gt || k.format.order a b == some .eq))
  | .add => (k.format.add a b).map (.flt k)
  | .sub => (k.format.sub a b).map (.flt k)
  | .mul => (k.format.mul a b).map (.flt k)
  | .quo => (k.format.div a b).map (.flt k)
  | _ => none

def binA (op : BinOp) (t : TypeId) (cst : Bool) (x y : AV) : Option AV := match op, x, y with
  | .shl, .int k a, .int _ b => shiftA .shl k a b
  | .shr, .int k a, .int _ b => shiftA .shr k a b
  | op, .int k a, .int k' b => if k = k' then intA op k a b else none
  | op, .str a, .str b => strA op a b
  | op, .flt k a, .flt k' b => if k = k' then fltA op k a b else none
  | .eql, x, y => match eqTop X cst t x y with | some b => some (.bool b) | none => none
  | .neq, x, y => match eqTop X cst t x y with | some b => some (.bool !b) | none => none
  | _, _, _ => none

def unA (op : UnOp) (x : AV) : Option AV := match op, x with
  | .neg, .int k n => some (.int k (k.wrap (0 - n)))
  | .xor, .int k n => intA .xor k (if k.signed then -1 else k.max) n
  | .not, .bool b => some (.bool !b)
  | _, _ => none

def loadBytesA : List AV → Option (List UInt8)
  | [] => some []
  | .int .u8 n :: l => match loadBytesA l with
    | some r => some (UInt8.ofNat n.toNat :: r)
    | none => none
  | _ => none

/-- a float of another kind, where it is a number in both -/
def fltConv (j : FloatKind) (b : Nat) (k : FloatKind) : Option Nat := if j = k then some b else match j.decode b with
  | .number g m e => if (k.decode (k.encode (.number g m e))).isInfinity then none else some (k.encode (.number g m e))
  | _ => none
def fltO (k : FloatKind) (x : Option Nat) (s : St) : Option (AV × St) := match x with
  | some r => some (.flt k r, s)
  | none => none
def convA (src dst : TypeId) (x : AV) (s : St) : Option (AV × St) := match X.und src, X.und dst, x with
  | some _, some (.int k), .int _ n => some (.int k (k.wrap n), s)
  | some _, some (.float k), .int _ n => some (.flt k (k.nearest n), s)
  | some _, some (.float k), .flt j b => fltO k (fltConv j b k) s
  | some _, some .string, .int _ n => some (.str (Utf8.encode n).data.toList, s)
  | some _, some .string, .str b => some (.str b, s)
  | some _, some (.slice e), .str b => match X.und e with
    | some (.int .u8) => if b.length < 4611686018427387904 then some (.sl s.next 0 b.length none 1, s.new (.cells (b.map fun c => .int .u8 c.toNat) e false 0 0)) else none
    | _ => none
  | some (.slice e), some .string, x => match X.und e with
    | some (.int .u8) => match x with
      | .nils => some (.str [], s)
      | .sl b o len _ _ => match s.cells b with
        | some c => match grab len o c with
          | some r => match loadBytesA r with
            | some bs => some (.str bs, s)
            | none => none
          | none => none
        | none => none
      | .fz es => match loadBytesA es with
        | some bs => some (.str bs, s)
        | none => none
      | _ => none
    | _ => none
  | _, _, _ => none

def boundA (x : Option AV) (dflt y : Nat) : Option Nat := match x with
  | none => some dflt
  | some (.int _ i) => if 0 ≤ i ∧ i ≤ y then some i.toNat else none
  | _ => none

/-- s[lo:hi:mx]: the capacity of the result is known where it is stated or was known -/
def sliceA (t : TypeId) (x : AV) (lo hi mx : Option AV) : Option AV := match X.und t, x with
  | some .string, .str b => match mx, boundA hi b.length b.length with
    | none, some h => match boundA lo 0 h with
      | some l => some (.str ((b.take h).drop l))
      | none => none
    | _, _ => none
  | some (.slice e), .sl b o len cap esz => match size X e, mx with
    | some n, none => match boundA hi len (cap.getD len) with
      | some h => match boundA lo 0 h with
        | some l => some (.sl b (o + l * n) (h - l) (cap.map (· - l)) (if esz = n then n else 0))
        | none => none
      | none => none
    | some n, some m => match boundA (some m) 0 (cap.getD len), hi with
      | some m', some _ => match boundA hi 0 m' with
        | some h => match boundA lo 0 h with
          | some l => some (.sl b (o + l * n) (h - l) (some (m' - l)) (if esz = n then n else 0))
          | none => none
        | none => none
      | _, _ => none
    | none, _ => none
  | some (.slice e), .nils => match size X e, mx, boundA hi 0 0 with
    | some _, none, some h => match boundA lo 0 h with
      | some _ => some .nils
      | none => none
    | _, _, _ => none
  | some (.slice e), .fz es => match size X e, mx, boundA hi es.length es.length with
    | some n, none, some h => match boundA lo 0 h with
      | some l => if es.all (fun x => x.cells.length == n) then some (.fz ((es.take h).drop l)) else none
      | none => none
    | _, _, _ => none
  | some (.array n e), .ptr b o => match size X e, mx, boundA hi n n with
    | some z, none, some h => match boundA lo 0 h with
      | some l => if n < 4611686018427387904 then some (.sl b (o + l * z) (h - l) (some (n - l)) 0) else none
      | none => none
    | _, _, _ => none
  | _, _ => none

def fieldAddrA (t : TypeId) (x : AV) (f : Nat) : Option AV := match X.und t, x with
  | some (.struct fs), .ptr b o => match fs[f]? with
    | some fd => match size X fd.type with
      | some (_ + 1) => some (.ptr b (o + fd.offset))
      | _ => none
    | none => none
  | some (.struct fs), .fp c o => match fs[f]? with
    | some fd => match size X fd.type with
      | some (_ + 1) => some (.fp c (o + fd.offset))
      | _ => none
    | none => none
  | _, _ => none

def indexAddrA (t : TypeId) (x i : AV) : Option AV := match i with
  | .int _ i => match X.und t, x with
    | some (.slice e), .sl b o len _ _ => if 0 ≤ i ∧ i < len then
        match size X e with | some n => some (.ptr b (o + i.toNat * n)) | none => none
      else none
    | some (.array len e), .ptr b o => if 0 ≤ i ∧ i < len then
        match size X e with | some n => some (.ptr b (o + i.toNat * n)) | none => none
      else none
    | some (.slice e), .fz es => if 0 ≤ i then match es[i.toNat]?, size X e with
      | some x, some n => if x.cells.length = n ∧ n ≠ 0 then some (.fp x.cells 0) else none
      | _, _ => none
      else none
    | some (.array len e), .fp c o => if 0 ≤ i ∧ i < len then
        match size X e with | some n => some (.fp c (o + i.toNat * n)) | none => none
      else none
    | _, _ => none
  | _ => none

def indexA (t : TypeId) (x i : AV) : Option AV := match i with
  | .int _ i => match X.und t, x with
    | some (.array len e), .agg cs => if 0 ≤ i ∧ i < len then
        match size X e with | some n => partA X e cs (i.toNat * n) | none => none
      else none
    | some .string, .str b => if 0 ≤ i then
        match b[i.toNat]? with | some c => some (.int .u8 c.toNat) | none => none
      else none
    | _, _ => none
  | _ => none

def allInts : List AV → Bool
  | [] => true
  | .int .i64 _ :: l => allInts l
  | _ => false

/-- the fields of a struct that is a key: integers and strings, one after the other -/
def fieldsKey : List Field → List AV → Nat → Bool
  | [], [], _ => true
  | f :: fs, c :: cs, i => f.name != "_" && f.offset == i && (match X.und f.type, c with
    | some (.int k), .int k' _ => decide (k = k')
    | some .string, .str _ => true
    | _, _ => false) && fieldsKey fs cs (i + 1)
  | _, _, _ => false

/-- a key of the kinds that are served: an integer, a string, a bool, an array of ints, a struct of integers and strings -/
def keyOk (t : TypeId) (k : AV) : Bool := match X.und t, k with
  | some (.int k), .int k' _ => decide (k = k')
  | some .string, .str _ => true
  | some .bool, .bool _ => true
  | some (.array len e), .agg cs => allInts cs && cs.length == len && (match X.und e, size X e with | some (.int .i64), some 1 => true | _, _ => false)
  | some (.struct fs), .agg cs => X.eqOk t && fieldsKey X fs.toList cs 0
  | _, _ => false

/-- integers and strings, place by place -/
def flatEq : List AV → List AV → Option Bool
  | [], [] => some true
  | .int k a :: x, .int j b :: y => if k = j then match flatEq x y with
      | some r => some (a == b && r)
      | none => none
    else none
  | .str a :: x, .str b :: y => match flatEq x y with
    | some r => some (a == b && r)
    | none => none
  | _, _ => none

def keyEq : AV → AV → Option Bool
  | .int k a, .int k' b => if k = k' then some (a == b) else none
  | .str a, .str b => some (a == b)
  | .bool a, .bool b => some (a == b)
  | .agg a, .agg b => flatEq a b
  | _, _ => none

def findA (k : AV) : List (AV × AV) → Option (Option AV)
  | [] => some none
  | (k', v) :: l => match keyEq k k' with
    | some true => some (some v)
    | some false => findA k l
    | none => none

def putA (k v : AV) : List (AV × AV) → Option (List (AV × AV))
  | [] => some [(k, v)]
  | (k', v') :: l => match keyEq k k' with
    | some true => some ((k, v) :: l)
    | some false => match putA k v l with | some r => some ((k', v') :: r) | none => none
    | none => none

def lookupA (t : TypeId) (m k : AV) (ok : Bool) (s : St) : Option AV := match X.und t with
  | some (.map key elem) => if keyOk X key k then
    let r : Option (Option AV) := match m with
      | .nilm => some none
      | .map b => match s.get b with
        | some (.map es _) => findA k es
        | _ => none
      | .fm ks vs => findA k (ks.zip vs)
      | _ => none
    match r with
    | some (some v) => some (if ok then .tup [v, .bool true] else v)
    | some none => match zero X elem with
      | some z => some (if ok then .tup [z, .bool false] else z)
      | none => none
    | none => none
    else none
  | _ => none

def updateA (t : TypeId) (m k v : AV) (s : St) : Option St := match X.und t, m with
  | some (.map key _), .map b => if keyOk X key k then match s.get b with
    | some (.map es mi) => if mi.ro then none else match putA k v es with
      | some es' => some (s.put b (.map es' (mi.grow es.length es'.length)))
      | none => none
    | _ => none
    else none
  | _, _ => none

/-- the place of a key -/
def ixOf (k : AV) : List (AV × AV) → Option (Option Nat)
  | [] => some none
  | (k', _) :: es => match keyEq k k' with
    | some true => some (some 0)
    | some false => match ixOf k es with
      | some (some i) => some (some (i + 1))
      | some none => some none
      | none => none
    | none => none

def deleteA (t : TypeId) (m k : AV) (s : St) : Option (AV × St) := match X.und t with
  | some (.map key _) => if keyOk X key k then match m with
    | .nilm => some (.tup [], s)
    | .map b => match s.get b with
      | some (.map es mi) => if mi.ro then none else match ixOf k es with
        | some (some i) => some (.tup [], s.put b (.map (es.eraseIdx i) { mi with bs := mi.bs.eraseIdx i }))
        | some none => some (.tup [], s)
        | none => none
      | _ => none
    | _ => none
    else none
  | _ => none

/-- the entry of a key, made where there is none: its value and its stamp -/
def entryA (t : TypeId) (m k : AV) (s : St) : Option (AV × St) := match X.und t, m with
  | some (.map key elem), .map b => if keyOk X key k then match s.get b with
    | some (.map es mi) => if mi.ro then none else match ixOf k es with
      | some (some i) => match es[i]?, mi.bs[i]? with
        | some (_, v), some n => some (.tup [v, .int .i64 n], s.put b (.map (es.set i (k, v)) mi))
        | _, _ => none
      | some none => match zero X elem with
        | some z => some (.tup [z, .int .i64 mi.ck], s.put b (.map (es ++ [(k, z)]) { mi with bs := mi.bs ++ [mi.ck], ck := mi.ck + 1 }))
        | none => none
      | none => none
    | _ => none
    else none
  | _, _ => none

/-- the entries that have not been handed out -/
def leftA (es : List (AV × AV)) (bs seen : List Nat) : List ((AV × AV) × Nat) := (es.zip bs).filter fun x => !seen.contains x.2

/-- what a step over a map may come to; nothing: not served -/
def nextA (r : Nat) (s : St) : List (AV × St) := match s.get r with
  | some (.miter none _ _ _) => [(.tup [.bool false], s)]
  | some (.miter (some m) since seen stepped) => match s.get m with
    | some (.map es mi) => if mi.bs.all (fun b => decide (b < since)) && decide (since ≤ stepped) then
        match leftA es mi.bs seen with
        | [] => [(.tup [.bool false], s)]
        | l => l.map fun x => (.tup [.bool true, x.1.1, x.1.2], s.put r (.miter (some m) since (seen ++ [x.2]) mi.ck))
      else []
    | _ => []
  | _ => []

def one {α : Type} : List α → Option α
  | [x] => some x
  | _ => none

def entryL (b : Nat) : List (AV × AV) → List Nat → Option (AV × AV)
  | x :: es, c :: bs => if c = b then some x else entryL b es bs
  | _, _ => none

def lastL : List Nat → Option Nat
  | [] => none
  | [x] => some x
  | _ :: l => lastL l

/-- the round's key and value -/
def roundA (r : Nat) (s : St) : Option AV := match s.get r with
  | some (.miter (some m) _ seen stepped) => match s.get m, lastL seen with
    | some (.map es mi), some b => if mi.ck = stepped then match entryL b es mi.bs with
        | some (k, v) => some (.tup [k, v])
        | none => none
      else none
    | _, _ => none
  | _ => none

def notIface : TypeDesc → Bool
  | .interface _ => false
  | _ => true

def stampIx (n : Int) : List Nat → Option Nat
  | [] => none
  | b :: l => if (b : Int) = n then some 0 else match stampIx n l with
    | some i => some (i + 1)
    | none => none

def entryStoreA (m stamp v : AV) (s : St) : Option St := match m, stamp with
  | .map b, .int _ n => match s.get b with
    | some (.map es mi) => if mi.ro then none else match stampIx n mi.bs with
      | some i => match es[i]? with
        | some (k, _) => some (s.put b (.map (es.set i (k, v)) mi))
        | none => none
      | none => none
    | _ => none
  | _, _ => none

/-- what an append lays behind the old elements: how many, and their cells -/
def sourceA (n : Nat) (x : AV) (s : St) : Option (Nat × List AV) := match x with
  | .nils => some (0, [])
  | .sl b o len _ _ => match s.cells b with
    | some c => match grab (len * n) o c with
      | some r => some (len, r)
      | none => none
    | none => none
  | .str b => some (b.length, b.map fun c => .int .u8 c.toNat)
  | .fz es => if es.all (fun x => x.cells.length == n) && n != 0 then some (es.length, es.flatMap AV.cells) else none
  | _ => none

def lenA : AV → Nat
  | .sl _ _ n _ _ => n
  | .fz es => es.length
  | _ => 0

/-- the zero value does not have n cells -/
def zeroBad (z : Option Value) (n : Nat) : Bool := match z with
  | some z => z.cells.size != n
  | none => true

def appendA (t : TypeId) (d x : AV) (s : St) : Option (AV × St) := match X.und t with
  | some (.slice elem) => match X.inf elem, size X elem with
    | some ei, some n => match sourceA n x s with
      | some (m, new) =>
        if new.length ≠ m * n ∨ (lenA d + m) * ei.bytes > 2 ^ 47 ∨ ei.bytes > 2 ^ 20 ∨ lenA d + m > 2 ^ 47 ∨ n = 0 ∨ ei.bytes = 0 ∨ zeroBad ei.zero n = true ∨ X.spec elem = true then none
        else if m = 0 then match d with
          | .nils => some (d, s)
          | .sl .. => some (d, s)
          | .fz _ => some (d, s)
          | _ => none
        else match d with
        | .nils => some (.sl s.next 0 m none n, s.new (.cells new elem false 0 0))
        | .sl b o len cap esz => match s.cells b with
          | some c => match grab (len * n) o c with
            | some old =>
              match cap with
              | some k => if len + m ≤ k then
                  if esz = n then match writeCells s b (o + len * n) new with
                    | some s' => some (.sl b o (len + m) (some k) n, s')
                    | none => none
                  else none
                else some (.sl s.next 0 (len + m) none n, s.new (.cells (old ++ new) elem false 0 0))
              | none => match s.get b with
                | some (.cells _ e0 false flo fhi) =>
                  -- the old block is consumed: the new one may lie in its place
                  if esz = n ∧ fhi ≤ o + len * n ∧ e0 = elem ∧ new.all noAgg = true then
                    some (.sl s.next 0 (len + m) none n, (s.put b .gone).new (.cells (old ++ new) elem false (flo - o) (fhi - o)))
                  else none
                | _ => none
            | none => none
          | none => none
        | _ => none
      | none => none
    | _, _ => none
  | _ => none

def minA (k : IntKind) : Int → List AV → Option AV
  | x, [] => some (.int k x)
  | x, .int _ y :: l => minA k (if y < x then y else x) l
  | _, _ => none

def maxA (k : IntKind) : Int → List AV → Option AV
  | x, [] => some (.int k x)
  | x, .int _ y :: l => maxA k (if y > x then y else x) l
  | _, _ => none

def copyA (t : TypeId) (d x : AV) (s : St) : Option (AV × St) := match X.und t, d with
  | some (.slice e), .sl b o len _ _ => match size X e with
    | some n => match sourceA n x s with
      | some (m, new) => if m = 0 ∧ new.isEmpty = true then some (.int .i64 0, s) else if m ≤ len ∧ 0 < len then match writeCells s b o new with
          | some s' => some (.int .i64 m, s')
          | none => none
        else none
      | none => none
    | none => none
  | _, _ => none

def clearA (t : TypeId) (d : AV) (s : St) : Option (AV × St) := match X.und t, d with
  | some (.slice _), .nils => some (.tup [], s)
  | some (.slice e), .sl b o len _ _ => if len = 0 then some (.tup [], s) else match zero X e with
    | some z => if z.cells.length = 0 then none else match writeCells s b o (repeatL len z.cells) with
      | some s' => some (.tup [], s')
      | none => none
    | none => none
  | _, _ => none

def builtinA (b : Builtin) (ts : Array TypeId) (args : List AV) (s : St) : Option (AV × St) := match b, args with
  | .len, [x] => match ts[0]? with
    | some t => match X.und t, x with
      | some .string, .str l => some (.int .i64 l.length, s)
      | some (.slice _), .nils => some (.int .i64 0, s)
      | some (.slice _), .sl _ _ n _ _ => some (.int .i64 n, s)
      | some (.slice _), .fz es => some (.int .i64 es.length, s)
      | some (.map _ _), .fm ks _ => some (.int .i64 ks.length, s)
      | some (.map _ _), .nilm => some (.int .i64 0, s)
      | some (.map _ _), .map r => match s.get r with
        | some (.map es _) => some (.int .i64 es.length, s)
        | _ => none
      | some (.array n _), _ => some (.int .i64 n, s)
      | some (.pointer p), _ => match X.und p with
        | some (.array n _) => some (.int .i64 n, s)
        | _ => none
      | _, _ => none
    | none => none
  | .append, [d, x] => match ts[0]?, ts[1]? with
    | some t, some u => match X.und u with
      | some (.slice _) => appendA X t d x s
      | some .string => appendA X t d x s
      | _ => none
    | _, _ => none
  | .delete, [m, k] => match ts[0]? with
    | some t => deleteA X t m k s
    | none => none
  | .clear, [d] => match ts[0]? with
    | some t => clearA X t d s
    | none => none
  | .copy, [d, x] => match ts[0]? with
    | some t => copyA X t d x s
    | none => none
  | .min, .int k x :: l => match minA k x l with
    | some v => some (v, s)
    | none => none
  | .max, .int k x :: l => match maxA k x l with
    | some v => some (v, s)
    | none => none
  | .unsafeSliceData, [x] => match x with
    | .nils => some (.nilp, s)
    | .sl b o (_ + 1) _ _ => some (.ptr b o, s)
    | _ => none
  | .unsafeString, [p, .int _ n] => if ts.size = 0 then none else match p with
    | .nilp => if n = 0 then some (.str [], s) else none
    | .ptr b o => if n = 0 then some (.str [], s) else if n < 0 ∨ n > 2 ^ 40 then none else match s.get b, ts[0]? with
      | some (.cells c e false _ _), some t => match X.und t with
        | some (.pointer u) => if u = e ∧ size X e = some 1 then match grab n.toNat o c with
          | some r => match loadBytesA r with
            -- what a string shares is not written any more
            | some bs => some (.str bs, s.put b (.cells c e true 0 0))
            | none => none
          | none => none
          else none
        | _ => none
      | _, _ => none
    | _ => none
  | _, _ => none

/-- UTF-8, one rune off the head of a list -/
def decodeL (s : List UInt8) : Nat × Nat :=
  let g := fun (k : Nat) => ((s[k]?).getD 0).toNat
  let cont := fun (k : Nat) => decide (k < s.length) && g k / 64 == 2
  let b0 := g 0
  if b0 < 0x80 then (b0, 1)
  else if b0 / 32 == 6 && cont 1 then
    let c := (b0 % 32) * 64 + g 1 % 64
    if c ≥ 0x80 then (c, 2) else (Utf8.runeError, 1)
  else if b0 / 16 == 14 && cont 1 && cont 2 then
    let c := (b0 % 16) * 4096 + (g 1 % 64) * 64 + g 2 % 64
    if c ≥ 0x800 && Utf8.valid c then (c, 3) else (Utf8.runeError, 1)
  else if b0 / 8 == 30 && cont 1 && cont 2 && cont 3 then
    let c := (b0 % 8) * 262144 + (g 1 % 64) * 4096 + (g 2 % 64) * 64 + g 3 % 64
    if c ≥ 0x10000 && Utf8.valid c then (c, 4) else (Utf8.runeError, 1)
  else (Utf8.runeError, 1)

inductive Out where
  | norm
  | exit (id : Nat)
  | ret
  deriving DecidableEq, Inhabited

abbrev Ex := Code → Env → St → Option (Out × Env × St)

def bindArgs : Nat → List AV → Env → Env
  | _, [], e => e
  | i, v :: l, e => bindArgs (i + 1) l (Tr.set e i v)

def resultA (e : Env) (s : St) : ResultVar → Option AV
  | .tmp t => some (Env.get e t)
  | .cell a t => loadA X t (Env.get e a) s

def resultsL (e : Env) (s : St) : List ResultVar → Option (List AV)
  | [] => some []
  | r :: l => match resultA X e s r, resultsL e s l with
    | some v, some vs => some (v :: vs)
    | _, _ => none

def resultsA (f : Func) (e : Env) (s : St) : Option AV := match resultsL X e s f.results.toList with
  | some [v] => some v
  | some vs => some (.tup vs)
  | none => none

def callB (ex : Ex) (f : FuncId) (args : List AV) (s : St) : Option (AV × St) := match X.fn f with
    | some fn => match fn.body with
      | some c => match ex c (bindArgs 0 args .nil) s with
        | some (.norm, e, s') => match resultsA X fn e s' with | some v => some (v, s') | none => none
        | some (.ret, e, s') => match resultsA X fn e s' with | some v => some (v, s') | none => none
        | _ => none
      | none => none
    | none => none

/-! ### Values that nobody writes any more, and calls in a state of their own -/

mutual
/-- nothing in it stands in the memory of the machine -/
def still : AV → Bool
  | .ptr .. => false
  | .sl .. => false
  | .map _ => false
  | .fn f x y => (match f with | .func _ => true | _ => false) && stills x && stills y
  | .iface _ v => still v
  | .agg cs => stills cs
  | .tup cs => stills cs
  | .fz es => true
  | .fp _ _ => true
  | .fm _ _ => true
  | .bool _ => true
  | .int _ _ => true
  | .flt _ _ => true
  | .str _ => true
  | .nilp => true
  | .nils => true
  | .nilm => true
  | .nilch => true
  | .chan _ => false
  | .nilfn => true
  | .nili => true
def stills : List AV → Bool
  | [] => true
  | x :: l => still x && stills l
end

mutual
/-- nothing in it lies in memory at all -/
def flat : AV → Bool
  | .ptr .. => false
  | .sl .. => false
  | .map _ => false
  | .fn f x y => (match f with | .func _ => true | _ => false) && flats x && flats y
  | .iface _ v => flat v
  | .agg cs => flats cs
  | .tup cs => flats cs
  | .fz es => false
  | .fp _ _ => false
  | .fm _ _ => false
  | .bool _ => true
  | .int _ _ => true
  | .flt _ _ => true
  | .str _ => true
  | .nilp => true
  | .nils => true
  | .nilm => true
  | .nilch => true
  | .chan _ => false
  | .nilfn => true
  | .nili => true
def flats : List AV → Bool
  | [] => true
  | x :: l => flat x && flats l
end

/-- n cells each -/
def chunksA (agg : Bool) (n : Nat) : Nat → List AV → List AV
  | 0, _ => []
  | k + 1, l => (match agg, l with | false, x :: _ => x | _, _ => .agg (l.take n)) :: chunksA agg n k (l.drop n)

def mapO (f : AV → Option AV) : List AV → Option (List AV)
  | [] => some []
  | x :: l => match f x, mapO f l with
    | some y, some r => some (y :: r)
    | _, _ => none

/-- the value with all that it leads to, as it stands in the memory -/
def frz (s : St) : Nat → AV → Option AV
  | 0, _ => none
  | d + 1, v => match v with
    | .ptr b o => match s.get b with
      | some (.cells c _ false _ _) => match mapO (frz s d) c with
        | some c' => some (.fp c' o)
        | none => none
      | _ => none
    | .sl b o len _ esz => match s.get b with
      | some (.cells c e false _ _) => match grab (len * esz) o c, isAggT X e, size X e with
        | some r, some ag, some n => if esz = n ∧ n ≠ 0 ∧ (ag = false → n = 1 ∧ r.all noAgg = true) then match mapO (frz s d) (chunksA ag n len r) with
          | some es => some (.fz es)
          | none => none
          else none
        | _, _, _ => none
      | _ => none
    | .map r => match s.get r with
      | some (.map es ⟨false, _, _⟩) => match mapO (frz s d) (es.map (·.1)), mapO (frz s d) (es.map (·.2)) with
        | some ks, some vs => some (.fm ks vs)
        | _, _ => none
      | _ => none
    | .fn f x y => match f with
      | .func g => match mapO (frz s d) x, mapO (frz s d) y with
        | some x', some y' => some (.fn (.func g) x' y')
        | _, _ => none
      | _ => none
    | .iface t x => match frz s d x with
      | some x' => some (.iface t x')
      | none => none
    | .agg cs => match mapO (frz s d) cs with
      | some cs' => some (.agg cs')
      | none => none
    | .tup cs => match mapO (frz s d) cs with
      | some cs' => some (.tup cs')
      | none => none
    | .chan _ => none
    | v => some v

/-- the same, where nothing in it was written out before -/
def frzN (s : St) : Nat → AV → Option AV
  | 0, _ => none
  | d + 1, v => match v with
    | .ptr b o => match s.get b with
      | some (.cells c _ false _ _) => match mapO (frzN s d) c with
        | some c' => some (.fp c' o)
        | none => none
      | _ => none
    | .sl b o len _ esz => match s.get b with
      | some (.cells c e false _ _) => match grab (len * esz) o c, isAggT X e, size X e with
        | some r, some ag, some n => if esz = n ∧ n ≠ 0 ∧ (ag = false → n = 1 ∧ r.all noAgg = true) then match mapO (frzN s d) (chunksA ag n len r) with
          | some es => some (.fz es)
          | none => none
          else none
        | _, _, _ => none
      | _ => none
    | .map r => match s.get r with
      | some (.map es ⟨false, _, _⟩) => match mapO (frzN s d) (es.map (·.1)), mapO (frzN s d) (es.map (·.2)) with
        | some ks, some vs => some (.fm ks vs)
        | _, _ => none
      | _ => none
    | .fn f x y => match f with
      | .func g => match mapO (frzN s d) x, mapO (frzN s d) y with
        | some x', some y' => some (.fn (.func g) x' y')
        | _, _ => none
      | _ => none
    | .iface t x => match frzN s d x with
      | some x' => some (.iface t x')
      | none => none
    | .agg cs => match mapO (frzN s d) cs with
      | some cs' => some (.agg cs')
      | none => none
    | .tup cs => match mapO (frzN s d) cs with
      | some cs' => some (.tup cs')
      | none => none
    | .fz _ => none
    | .fp _ _ => none
    | .fm _ _ => none
    | .chan _ => none
    | v => some v

/-- the state in which such a call runs: the package's variables, nothing else -/
def ownSt : St := { t := .nil, base := X.gbase, next := X.glob }

def frzDepth : Nat := 4000

/-- what the arguments of such a call lead to -/
def frzArgs (s : St) (args : List AV) : Option (List AV) := if stills args then some args else mapO (frz X s frzDepth) args

def callQ (ex : Ex) (f : FuncId) (args : List AV) (st : Bool) : Option AV := match callB X ex f args (ownSt X) with
  | some (v, s') => if st then frz X s' frzDepth v else if flat v then some v else frzN X s' frzDepth v
  | none => none

def callP (ex : Ex) (f : FuncId) (args : List AV) (s : St) : Option (AV × St) := match frzArgs X s args with
  | some args' => match callQ X ex f args' (stills args) with
    | some v => some (v, s)
    | none => none
  | none => none

def callF (ex : Ex) (f : FuncId) (args : List AV) (s : St) : Option (AV × St) := match X.ext f with
  | some g => g args s
  | none => if X.pure f then callP X ex f args s else callB X ex f args s

def endRoundA (l : Nat) (o : Out) (e : Env) (q : List Tmp) (a b : Code) (s : St) : Option (AV × St) := match o with
  | .norm => some (.bool true, s.put l (.loop 0 none e q a b))
  | .exit i => some (.bool false, s.put l (.loop 2 (some (.exit i)) e q a b))
  | .ret => some (.bool false, s.put l (.loop 2 (some .ret) e q a b))

def yieldA (ex : Ex) (l : Nat) (args : List AV) (s : St) : Option (AV × St) := match s.get l with
  | some (.loop 0 p env params assign body) =>
    if args.length = params.length then
      let env' := (params.zip args).foldl (fun e (t, a) => Tr.set e t a) env
      match ex assign env' s with
      | some (.norm, env1, s1) => match s1.get l with
        | some (.loop 0 p1 e1 q1 a1 b1) => match ex body env1 (s1.put l (.loop 1 p1 e1 q1 a1 b1)) with
          | some (o, _, s2) => match s2.get l with
            | some (.loop _ _ e2 q2 a2 b2) => endRoundA l o e2 q2 a2 b2 s2
            | _ => none
          | none => none
        | _ => none
      | _ => none
    else none
  | _ => none

def callV (ex : Ex) (f : AV) (args : List AV) (s : St) : Option (AV × St) := match f with
  | .fn (.func g) first cap => callF X ex g (first ++ args ++ cap) s
  | .fn (.yield l) first cap => yieldA ex l (first ++ args) s
  | _ => none

def pureO (v : Option AV) (s : St) : Option (AV × St) := match v with
  | some v => some (v, s)
  | none => none

def unitO (s : Option St) : Option (AV × St) := match s with
  | some s => some (undef, s)
  | none => none

def evalO (e : Env) (x : Option Operand) : Option (Option AV) := match x with
  | none => some none
  | some x => match eval X e x with
    | some v => some (some v)
    | none => none

def opA (ex : Ex) (e : Env) (o : Op) (s : St) : Option (AV × St) := match o with
  | .move x => pureO (eval X e x) s
  | .assign x => pureO (eval X e x) s
  | .pick c a b => match eval X e c with
    | some (.bool true) => pureO (eval X e a) s
    | some (.bool false) => pureO (eval X e b) s
    | _ => none
  | .alloc t => match zero X t with
    | some z => some (newCells s z.cells t)
    | none => none
  | .box t x => match eval X e x with
    | some v => some (newCells s v.cells t)
    | none => none
  | .build t ps => match evalParts X e ps.toList with
    | some l => pureO (buildA X t l) s
    | none => none
  | .buildSlice t n ps => match evalParts X e ps.toList with
    | some l => buildSliceA X t n l s
    | none => none
  | .load t a => match eval X e a with
    | some a => pureO (loadA X t a s) s
    | none => none
  | .store t a x => match eval X e a, eval X e x with
    | some a, some v => unitO (storeA X t a v s)
    | _, _ => none
  | .nilCheck x => match eval X e x with
    | some (.ptr b o) => some (.ptr b o, s)
    | some (.fp c o) => some (.fp c o, s)
    | some (.fn (.func f) x y) => some (.fn (.func f) x y, s)
    | some (.fn (.yield f) x y) => some (.fn (.yield f) x y, s)
    | _ => none
  | .binOp op t x y _ => match eval X e x, eval X e y with
    | some a, some b => pureO (binA X op t (isConstO x || isConstO y) a b) s
    | _, _ => none
  | .unOp op _ x => match eval X e x with
    | some a => pureO (unA op a) s
    | none => none
  | .convert a b x => match eval X e x with
    | some v => convA X a b v s
    | none => none
  | .sliceToArrayPointer t x => match eval X e x, X.und t with
    | some (.sl b o len _ _), some (.array n _) => if 0 < n ∧ n ≤ len then pureO (some (.ptr b o)) s else none
    | _, _ => none
  | .makeInterface t x => match eval X e x with
    | some v => match X.und t with
      | some (.interface _) => none
      | some _ => some (.iface t v, s)
      | none => none
    | none => none
  | .makeFunc f a b => match f with
    | .func g => match evals X e a.toList, evals X e b.toList with
      | some x, some y => some (.fn (.func g) x y, s)
      | _, _ => none
    | _ => none
  | .makeMap t r => match r with
    | none => some (.map s.next, s.new (.map [] .new))
    | some x => match eval X e x, X.und t with
      | some (.int _ _), some (.map _ _) => some (.map s.next, s.new (.map [] .new))
      | _, _ => none
  | .makeChan t x => match eval X e x, X.und t with
    | some (.int _ n), some (.chan _ el) => match X.inf el with
      | some i => if 0 ≤ n ∧ n ≤ 2 ^ 20 ∧ i.bytes ≤ 2 ^ 20 then some (.chan s.next, s.new (.chan n.toNat [])) else none
      | none => none
    | _, _ => none
  | .makeSlice t l c => match eval X e l, eval X e c, X.und t with
    | some (.int _ l), some (.int _ c), some (.slice elem) => match X.inf elem, zero X elem with
      | some i, some z => if 0 ≤ l ∧ l ≤ c ∧ c * i.bytes ≤ 2 ^ 47 ∧ c < 2 ^ 47 ∧ z.cells.length = i.size ∧ i.size ≠ 0 then
          some (.sl s.next 0 l.toNat (some c.toNat) i.size, s.new (.cells (repeatL c.toNat z.cells) elem false 0 0))
        else none
      | _, _ => none
    | _, _, _ => none
  | .slice t x lo hi mx => match eval X e x, evalO X e lo, evalO X e hi, evalO X e mx with
    | some v, some lo, some hi, some mx => pureO (sliceA X t v lo hi mx) s
    | _, _, _, _ => none
  | .fieldAddr t x f => match eval X e x with
    | some v => pureO (fieldAddrA X t v f) s
    | none => none
  | .field t x f => match eval X e x, X.und t with
    | some (.agg cs), some (.struct fs) => match fs[f]? with
      | some fd => pureO (partA X fd.type cs fd.offset) s
      | none => none
    | _, _ => none
  | .indexAddr t x i => match eval X e x, eval X e i with
    | some v, some i => pureO (indexAddrA X t v i) s
    | _, _ => none
  | .index t x i => match eval X e x, eval X e i with
    | some v, some i => pureO (indexA X t v i) s
    | _, _ => none
  | .lookup t m k ok => match eval X e m, eval X e k with
    | some m, some k => pureO (lookupA X t m k ok s) s
    | _, _ => none
  | .mapUpdate t m k v => match eval X e m, eval X e k, eval X e v with
    | some m, some k, some v => unitO (updateA X t m k v s)
    | _, _, _ => none
  | .insert t m k v => match eval X e m, eval X e k, eval X e v with
    | some m, some k, some v => unitO (updateA X t m k v s)
    | _, _, _ => none
  | .mapEntry t m k => match eval X e m, eval X e k with
    | some m, some k => entryA X t m k s
    | _, _ => none
  | .entryStore _ m i v => match eval X e m, eval X e i, eval X e v with
    | some m, some i, some v => unitO (entryStoreA m i v s)
    | _, _, _ => none
  | .range t x => match eval X e x, X.und t with
    | some (.str b), some .string => some (.ptr s.next 0, s.new (.iter b 0))
    | some .nilm, some (.map _ _) => some (.ptr s.next 0, s.new (.miter none 0 [] 0))
    | some (.map m), some (.map _ _) => match s.get m with
      | some (.map _ mi) => some (.ptr s.next 0, s.new (.miter (some m) mi.ck [] mi.ck))
      | _ => none
    | _, _ => none
  | .next it false => match eval X e it with
    | some (.ptr r 0) => one (nextA r s)
    | _ => none
  | .typeAssert x _ a ok => match eval X e x, X.und a with
    | some (.iface t v), some d => if notIface d && decide (t = a) then some (if ok then .tup [v, .bool true] else v, s) else none
    | _, _ => none
  | .entry it => match eval X e it with
    | some (.ptr r 0) => pureO (roundA r s) s
    | _ => none
  | .next it true => match eval X e it with
    | some (.ptr r 0) => match s.get r with
      | some (.iter b pos) => match b with
        | [] => some (.tup [.bool false], s)
        | _ :: _ =>
          let (c, w) := decodeL b
          some (.tup [.bool true, .int .i64 pos, .int .i32 c], s.put r (.iter (b.drop w) (pos + w)))
      | _ => none
    | _ => none
  | .extract t i => match eval X e t with
    | some (.tup vs) => pureO vs[i]? s
    | _ => none
  | .call c => match c.callee with
    | .builtin b => match evals X e c.args.toList with
      | some vs => builtinA X b c.argTypes vs s
      | none => none
    | .value f => match eval X e f, evals X e c.args.toList with
      | some f, some vs => callV X ex f vs s
      | _, _ => none
    | .invoke _ _ => none
  | _ => none

def setDst (e : Env) (d : Option Tmp) (v : AV) : Env := match d with
  | some d => Tr.set e d v
  | none => e

def wantedA (ops : Array Oper) (e : Env) (o : Oper) : Bool := match o.guard with
  | none => true
  | some (j, want) => match ops[j]? with
    | some oj => match oj.dst with
      | some d => match Env.get e d with
        | .bool b => b == want
        | _ => false
      | none => false
    | none => false

/-- one communication that does not wait -/
def selA (e : Env) (c : SelectCase) (s : St) : Option (AV × St) := match zero X c.elem, eval X e c.chan with
  | some z, some (.chan r) => match s.get r with
    | some (.chan cap buf) => match c.send with
      | some x => match eval X e x with
        | some v => if buf.length < cap then some (.tup [.int .i64 0, .bool false], s.put r (.chan cap (buf ++ [v]))) else some (.tup [.int .i64 (-1), .bool false], s)
        | none => none
      | none => match buf with
        | v :: rest => some (.tup [.int .i64 0, .bool true, v], s.put r (.chan cap rest))
        | [] => some (.tup [.int .i64 (-1), .bool false, z], s)
    | _ => none
  | _, _ => none
def isSel : Op → Option SelectCase
  | .select cs false => match cs.toList with
    | [c] => some c
    | _ => none
  | _ => none
def isCallV : Op → Bool
  | .call { callee := .value _, .. } => true
  | _ => false
def opsA (ex : Ex) (ops : Array Oper) : List Oper → Env → St → Option (Env × St)
  | [], e, s => some (e, s)
  | o :: l, e, s =>
    if wantedA ops e o then match opA X ex e o.op s with
      | some (v, s') => opsA ex ops l (setDst e o.dst v) s'
      | none => none
    else opsA ex ops l (setDst e o.dst undef) s
/-- operations without calls, with communications among them -/
def opS (e : Env) (o : Op) (s : St) : Option (AV × St) := match isSel o with
  | some c => selA X e c s
  | none => if isCallV o then none else opA X (fun _ _ _ => none) e o s
def opsS (ops : Array Oper) : List Oper → Env → St → Option (Env × St)
  | [], e, s => some (e, s)
  | o :: l, e, s =>
    if wantedA ops e o then match opS X e o.op s with
      | some (v, s') => opsS ops l (setDst e o.dst v) s'
      | none => none
    else opsS ops l (setDst e o.dst undef) s
/-- no communication in it -/
def noSel (ops : Array Oper) : Bool := ops.toList.all fun o => (isSel o.op).isNone

/-! ### A region whose order is drawn -/

inductive Cls where
  | p | r | a | w | q

def Cls.isR : Cls → Bool | .r => true | _ => false
def Cls.isA : Cls → Bool | .a => true | _ => false
def Cls.isW : Cls → Bool | .w => true | _ => false

/-- p: looks at temporaries alone; r: reads memory; a: makes just one block; q: a call in a state of its own; w: all else -/
def cls : Op → Cls
  | .move _ | .assign _ | .pick .. | .build .. | .nilCheck _ | .binOp .. | .unOp .. | .makeInterface .. | .makeFunc .. | .slice .. | .fieldAddr .. | .field ..
  | .indexAddr .. | .index .. | .extract .. => .p
  | .convert s d _ => match X.und s, X.und d with
    | some (.slice _), some .string => .r
    | some (.slice _), _ => .w
    | _, some (.slice _) => .a
    | some _, some _ => .p
    | _, _ => .w
  | .load .. | .lookup .. => .r
  | .alloc _ | .box .. | .buildSlice .. | .makeSlice .. | .makeMap .. => .a
  | .call { callee := .builtin b, .. } => match b with
    | .len => .r
    | .min | .max | .unsafeSliceData => .p
    | _ => .w
  | .call { callee := .value (.func f), .. } => if X.pure f && (X.ext f).isNone then .q else .w
  | _ => .w

def bef (ops : Array Oper) (i j : Nat) : Bool := ((Region.before ops).getD j 0).testBit i

def isStore : Op → Bool
  | .store .. => true
  | _ => false

/-- the places of the stores -/
def sIdx : Nat → List Oper → List Nat
  | _, [] => []
  | i, o :: l => if isStore o.op then i :: sIdx (i + 1) l else sIdx (i + 1) l

/-- two stores whose order is open -/
def lateOn (ops : Array Oper) : Bool :=
  let l := sIdx 0 ops.toList
  l.any fun i => l.any fun j => !(i == j) && !bef ops i j && !bef ops j i

/-- all that reads or writes otherwise is done ahead of it -/
def lateAt (ops : Array Oper) (i : Nat) : Bool := match ops[i]? with
  | some o => isStore o.op && o.guard.isNone && (List.range ops.size).all fun k => k == i || bef ops k i || (match ops[k]? with
    | some ok => isStore ok.op || (match cls X ok.op with | .p => true | .a => true | _ => false)
    | none => true)
  | none => false

def lateReg (ops : Array Oper) : Bool := lateOn ops && (sIdx 0 ops.toList).all (lateAt X ops)

def late (ops : Array Oper) (i : Nat) : Bool := lateReg X ops && (match ops[i]? with | some o => isStore o.op | none => false)

/-- one operation of such a region: what makes a block takes the id that is kept for it -/
def stepD (ex : Ex) (ops : Array Oper) (base i : Nat) (o : Oper) (e : Env) (s : St) : Option (Env × St) :=
  if wantedA ops e o then
    match cls X o.op with
    | .a => match opA X ex e o.op { s with next := base + i } with
      | some (v, s') => some (setDst e o.dst v, { s' with next := s.next })
      | none => none
    | _ => match opA X ex e o.op s with
      | some (v, s') => some (setDst e o.dst v, s')
      | none => none
  else some (setDst e o.dst undef, s)

/-- the states ahead of each operation, and the last one -/
def goD (ex : Ex) (ops : Array Oper) (base : Nat) : Nat → List Oper → Env → St → Option (List (Env × St))
  | _, [], e, s => some [(e, s)]
  | i, o :: l, e, s => match stepD X ex ops base i o e s with
    | some (e', s') => match goD ex ops base (i + 1) l e' s' with
      | some r => some ((e, s) :: r)
      | none => none
    | none => none

/-- the places of the operations of class w -/
def wIdx (ops : Array Oper) : Nat → List Oper → List Nat
  | _, [] => []
  | i, o :: l => if (cls X o.op).isW && !late X ops i then i :: wIdx ops (i + 1) l else wIdx ops (i + 1) l

/-- the block that a late store writes -/
def lateBlk (e : Env) : Op → Option Nat
  | .store _ a _ => match eval X e a with
    | some (.ptr b _) => some b
    | _ => none
  | _ => none

def lateIds (ops : Array Oper) : Nat → List Oper → List (Env × St) → List (Option Nat)
  | i, o :: l, (e, _) :: tr => if late X ops i then lateBlk X e o.op :: lateIds ops (i + 1) l tr else lateIds ops (i + 1) l tr
  | _, _, _ => []

/-- late stores go to blocks of their own, none made by an operation of class a here -/
def lateOk (base n : Nat) : List (Option Nat) → Bool
  | [] => true
  | none :: _ => false
  | some b :: l => (decide (b < base) || decide (base + n ≤ b)) && l.all (fun x => !(x == some b)) && lateOk base n l

/-- the states in which an operation that reads may find the memory: behind k of the operations of class w; with each the place behind the k-th -/
def statesD (tr : List (Env × St)) : List Nat → Option (List (Nat × St))
  | [] => some []
  | j :: l => match tr[j + 1]?, statesD tr l with
    | some (_, s), some r => some ((j + 1, s) :: r)
    | _, _ => none

/-- the places of the operations of class a -/
def aIdx : Nat → List Oper → List Nat
  | _, [] => []
  | i, o :: l => if (cls X o.op).isA then i :: aIdx (i + 1) l else aIdx (i + 1) l

/-- the blocks that operation i waits for and that were made since place m -/
def addA (ops : Array Oper) (base i m : Nat) (tr : List (Env × St)) : List Nat → St → St
  | [], s => s
  | j :: l, s => if m ≤ j && bef ops j i then match tr[j + 1]? with
      | some (_, s1) => match s1.get (base + j) with
        | some b => addA ops base i m tr l (s.put (base + j) b)
        | none => addA ops base i m tr l s
      | none => addA ops base i m tr l s
    else addA ops base i m tr l s

def readsSame (ex : Ex) (ops : Array Oper) (base i : Nat) (as : List Nat) (tr : List (Env × St)) (e : Env) (o : Op) (v : AV) : List (Nat × St) → Bool
  | [] => true
  | (m, s) :: l => match opA X ex e o (addA ops base i m tr as s) with
    | some (u, _) => same u v && readsSame ex ops base i as tr e o v l
    | none => false

def argsSame (ops : Array Oper) (base i : Nat) (as : List Nat) (tr : List (Env × St)) (vs us : List AV) : List (Nat × St) → Bool
  | [] => true
  | (m, s) :: l => match frzArgs X (addA ops base i m tr as s) vs with
    | some us' => sames us' us && argsSame ops base i as tr vs us l
    | none => false

def countL (p : Nat → Bool) : List Nat → Nat
  | [] => 0
  | j :: l => if p j then countL p l + 1 else countL p l

/-- the states that an operation may find -/
def rangeR (ops : Array Oper) (ws : List Nat) (ss : List (Nat × St)) (i : Nat) : List (Nat × St) :=
  (ss.take (countL (fun j => !bef ops i j) ws + 1)).drop (countL (fun j => bef ops j i) ws)

def checkR (ex : Ex) (ops : Array Oper) (base : Nat) (ws as : List Nat) (ss : List (Nat × St)) (tr0 : List (Env × St)) : Nat → List Oper → List (Env × St) → Bool
  | i, o :: l, (e, s) :: tr =>
    (match cls X o.op with
      | .r => !wantedA ops e o || (match opA X ex e o.op s with
        | some (v, _) => readsSame X ex ops base i as tr0 e o.op v (rangeR ops ws ss i)
        | none => false)
      | .q => !wantedA ops e o || (match o.op with
        | .call c => match evals X e c.args.toList with
          | some vs => stills vs || (match frzArgs X s vs with
            | some us => argsSame X ops base i as tr0 vs us (rangeR ops ws ss i)
            | none => false)
          | none => false
        | _ => false)
      | _ => true) && checkR ex ops base ws as ss tr0 (i + 1) l tr
  | _, _, _ => true

/-- no block stands yet at an id that is kept for an operation to come -/
def noneD (base : Nat) (s : St) : Nat → List Oper → Bool
  | _, [] => true
  | i, o :: l => (!(cls X o.op).isA || (s.get (base + i)).isNone) && noneD base s (i + 1) l

def noneAll (ops : Array Oper) (base : Nat) : List (Nat × St) → Bool
  | [] => true
  | (m, s) :: l => noneD X base s m (ops.toList.drop m) && noneAll ops base l

def lastD : List (Env × St) → Option (Env × St)
  | [] => none
  | [x] => some x
  | _ :: l => lastD l

def drawA (ex : Ex) (ops : Array Oper) (e : Env) (s : St) : Option (Env × St) :=
  match goD X ex ops s.next 0 ops.toList e { s with next := s.next + ops.size } with
  | some tr =>
    let ws := wIdx X ops 0 ops.toList
    match statesD tr ws with
    | some ss =>
      if lateOk s.next ops.size (lateIds X ops 0 ops.toList tr) && checkR X ex ops s.next ws (aIdx X 0 ops.toList) ((0, { s with next := s.next + ops.size }) :: ss) tr 0 ops.toList tr && noneAll X ops s.next ((0, { s with next := s.next + ops.size }) :: ss)
      then lastD tr else none
    | none => none
  | none => none

/-- What is asked of such a region once for all: the pairs whose order is left open do not meddle. -/
def lookL (ops : Array Oper) (o : Oper) : List Tmp :=
  (o.op.operands.toList.filterMap fun | .tmp t => some t | _ => none) ++
  (match o.guard with
   | some (g, _) => match ops[g]? with | some x => x.dst.toList | none => []
   | none => [])

def apartL (ops : Array Oper) (x y : Oper) : Bool :=
  (match x.dst with
   | some d => !(lookL ops y).contains d && y.dst != some d
   | none => true) &&
  (match y.dst with
   | some d => !(lookL ops x).contains d
   | none => true)

def pairOk (ops : Array Oper) (i j : Nat) (oi oj : Oper) : Bool :=
  bef ops i j || (apartL ops oi oj &&
    match cls X oi.op, cls X oj.op with
    | .a, .w => late X ops j
    | .w, .w => late X ops i && late X ops j
    | _, _ => true)

def okD (ops : Array Oper) : Bool :=
  ((List.range ops.size).all fun j => match ops[j]? with
    | some oj => (oj.after.toList.all fun e => !Region.binds .any e || decide (e.on < j)) &&
      (match oj.guard with | some (g, _) => decide (g < ops.size) | none => true) &&
      (List.range j).all fun i => match ops[i]? with
        | some oi => pairOk X ops i j oi oj
        | none => true
    | none => true)

def endLoopA (p : Option Code) (e : Env) (s : St) : Option (Out × Env × St) := match p with
  | none => some (.norm, e, s)
  | some (.exit i) => some (.exit i, e, s)
  | some .ret => some (.ret, e, s)
  | _ => none

def stepA (ex : Ex) (c : Code) (e : Env) (s : St) : Option (Out × Env × St) := match c with
  | .skip => some (.norm, e, s)
  | .label _ => some (.norm, e, s)
  | .region _ ops d => if d then match drawA X ex ops e s with
      | some (e, s) => some (.norm, e, s)
      | none => none
    else if noSel ops then match opsA X ex ops ops.toList e s with
      | some (e, s) => some (.norm, e, s)
      | none => none
    else match opsS X ops ops.toList e s with
    | some (e, s) => some (.norm, e, s)
    | none => none
  | .seq a b => match ex a e s with
    | some (.norm, e, s) => ex b e s
    | r => r
  | .cond c a b => match eval X e c with
    | some (.bool true) => ex a e s
    | some (.bool false) => ex b e s
    | _ => none
  | .block id b => match ex b e s with
    | some (.exit i, e, s) => if i = id then some (.norm, e, s) else some (.exit i, e, s)
    | r => r
  | .loop b => match ex b e s with
    | some (.norm, e, s) => ex (.loop b) e s
    | r => r
  | .scope b => ex b e s
  | .exit id => some (.exit id, e, s)
  | .ret => some (.ret, e, s)
  | .rangeFunc f params assign body => match eval X e f with
    | some (.fn (.func g) first cap) => if (X.ext g).isNone then
      match callF X ex g (first ++ [.fn (.yield s.next) [] []] ++ cap) (s.new (.loop 0 none e params.toList assign body)) with
      | some (_, s1) => match s1.get s.next with
        | some (.loop st p _ _ _ _) => if st = 1 then none else endLoopA p e (s1.put s.next .gone)
        | _ => none
      | none => none
      else none
    | _ => none
  | _ => none

/-- no loop over a function -/
def noRF : Code → Bool
  | .seq a b => noRF a && noRF b
  | .cond _ a b => noRF a && noRF b
  | .block _ b => noRF b
  | .loop b => noRF b
  | .scope b => noRF b
  | .rangeFunc .. => false
  | _ => true

/-- What is asked of a body once for all: no temporary beyond n is written; the drawn regions are in order. -/
def okC (n : Nat) : Code → Bool
  | .region _ ops d => (ops.toList.all fun o => match o.dst with | some t => decide (t < n) | none => true) && (!d || okD X ops)
  | .seq a b => okC n a && okC n b
  | .cond _ a b => okC n a && okC n b
  | .block _ b => okC n b
  | .loop b => okC n b
  | .scope b => okC n b
  | .rangeFunc _ ps a b => (ps.toList.all fun t => decide (t < n)) && okC n a && okC n b && noRF a && noRF b
  | _ => true

def exec : Nat → Ex
  | 0 => fun _ _ _ => none
  | n + 1 => stepA X (exec n)

def run (n : Nat) (f : FuncId) (args : List AV) (s : St) : Option (AV × St) := callF X (exec X n) f args s

end
end Go.Am
set_option linter.unusedSectionVars false
set_option linter.unusedVariables false
namespace Go.Am
open Go
/-- Where a block of the abstract heap lies: the concrete block, the cell at which it begins, and how many cells the concrete block has. -/
structure Pl where
  b : Nat
  sh : Nat
  n : Nat

/-- where the blocks lie; and concrete blocks that nobody writes any more -/
structure Sg where
  m : Nat → Option Pl
  fz : Nat → Option Obj

instance : CoeFun Sg (fun _ => Nat → Option Pl) := ⟨Sg.m⟩

structure Sg.le (σ τ : Sg) : Prop where
  p : ∀ i p, σ i = some p → τ i = some p
  z : ∀ b o, σ.fz b = some o → τ.fz b = some o

/-- no blocks of the machine's own -/
def Sg.bare (σ : Sg) : Sg := { m := fun _ => none, fz := σ.fz }

theorem Sg.le_refl (σ : Sg) : Sg.le σ σ := ⟨fun _ _ h => h, fun _ _ h => h⟩
theorem Sg.le_trans {a b c : Sg} (h : Sg.le a b) (k : Sg.le b c) : Sg.le a c := ⟨fun i p e => k.p i p (h.p i p e), fun b o e => k.z b o (h.z b o e)⟩
theorem Sg.le.bare {σ τ : Sg} (h : Sg.le σ τ) : Sg.le σ.bare τ.bare := ⟨fun _ _ h => h, h.z⟩
theorem Sg.bare_le (σ : Sg) : Sg.le σ.bare σ := ⟨fun i p h => (by simp [Sg.bare] at h), fun _ _ h => h⟩
def fnrel (σ : Sg) : Fn → Fn → Prop
  | .func g, f => f = .func g
  | .yield l, f => ∃ p, σ l = some p ∧ f = .yield p.b
  | _, _ => False

/-- A slice's capacity and address: what is known of them. -/
structure SlRel (σ : Sg) (b o len : Nat) (cap : Option Nat) (esz : Nat) (a : Addr) (c : Nat) : Prop where
  len : len ≤ c
  at_ : ∃ p, σ b = some p ∧ (c ≠ 0 → a = ⟨p.b, p.sh + o, none⟩) ∧ (esz ≠ 0 → p.sh + o + c * esz ≤ p.n)
  cap : ∀ k, cap = some k → c = k
  room : c < 2 ^ 63

/-- a row of elements of n cells each -/
def rowRel (σ : Sg) (a : Addr) (us : List Value) : Prop := a.spot = none ∧ ∃ cc e fz n, σ.fz a.block = some (.cells cc e fz) ∧ n ≠ 0 ∧ (∀ u ∈ us, u.cells.size = n) ∧ ∀ i v, (us.flatMap fun u => u.cells.toList)[i]? = some v → cc[a.off + i]? = some v

mutual
def vrel : Sg → AV → Value → Prop
  | _, .bool b, v => v = .bool b
  | _, .int k n, v => v = .int k n
  | _, .flt k n, v => v = .float k n
  | _, .str s, v => ∃ bs : ByteArray, v = .string bs ∧ bs.data.toList = s
  | _, .nilp, v => v = .pointer none
  | σ, .ptr b o, v => ∃ p, σ b = some p ∧ v = .pointer (some ⟨p.b, p.sh + o, none⟩)
  | _, .nils, v => v = .slice none 0 0
  | σ, .sl b o len cap esz, v => ∃ a c, v = .slice (some a) len c ∧ SlRel σ b o len cap esz a c
  | _, .nilm, v => v = .map none
  | σ, .map r, v => ∃ p, σ r = some p ∧ v = .map (some p.b)
  | _, .nilch, v => v = .chan none
  | σ, .chan r, v => ∃ p, σ r = some p ∧ v = .chan (some p.b)
  | _, .nilfn, v => v = .nilFunc
  | σ, .fn f x y, v => ∃ f' x' y', v = .func f' x' y' ∧ fnrel σ f f' ∧ vrels σ x x'.toList ∧ vrels σ y y'.toList
  | _, .nili, v => v = .nilIface
  | σ, .iface t x, v => ∃ y, v = .iface t y ∧ vrel σ x y
  | σ, .agg cs, v => ∃ vs, v = .agg vs ∧ vrels σ cs vs.toList
  | σ, .tup cs, v => ∃ vs, v = .tuple vs ∧ vrels σ cs vs.toList
  | σ, .fz es, v => ∃ a c us, v = .slice (some a) es.length c ∧ es.length ≤ c ∧ vrels σ.bare es us ∧ (us = [] ∨ rowRel σ a us)
  | σ, .fp cs o, v => ∃ b base us cc e fz, v = .pointer (some ⟨b, base + o, none⟩) ∧ σ.fz b = some (.cells cc e fz) ∧ vrels σ.bare cs us ∧ ∀ i u, us[i]? = some u → cc[base + i]? = some u
  | σ, .fm ks vs, v => ∃ r ces clock, v = .map (some r) ∧ σ.fz r = some (.map ces clock) ∧ vrels σ.bare ks (ces.toList.map MapEntry.key) ∧ vrels σ.bare vs (ces.toList.map MapEntry.val)
def vrels : Sg → List AV → List Value → Prop
  | _, [], l => l = []
  | σ, a :: x, l => ∃ v y, l = v :: y ∧ vrel σ a v ∧ vrels σ x y
end

theorem fnrel.mono {σ τ : Sg} (h : Sg.le σ τ) {f f' : Fn} (k : fnrel σ f f') : fnrel τ f f' := by
  cases f <;> simp only [fnrel] at * <;> first | exact k | skip
  obtain ⟨p, hp, e⟩ := k
  exact ⟨p, h.p _ _ hp, e⟩

theorem SlRel.mono {σ τ : Sg} (h : Sg.le σ τ) {b o len : Nat} {cap : Option Nat} {esz : Nat} {a : Addr} {c : Nat} (k : SlRel σ b o len cap esz a c) : SlRel τ b o len cap esz a c := by
  obtain ⟨h1, ⟨p, hp, h2⟩, h3, h4⟩ := k
  exact ⟨h1, ⟨p, h.p _ _ hp, h2⟩, h3, h4⟩

theorem rowRel.mono {σ τ : Sg} (h : Sg.le σ τ) {a : Addr} {us : List Value} (k : rowRel σ a us) : rowRel τ a us := by
  obtain ⟨h0, cc, e, fz, n, h1, h2⟩ := k
  exact ⟨h0, cc, e, fz, n, h.z _ _ h1, h2⟩

mutual
theorem vrel.mono {σ τ : Sg} : ∀ (_ : Sg.le σ τ) (a : AV) (v : Value), vrel σ a v → vrel τ a v
  | _, .bool _, _, k | _, .int _ _, _, k | _, .flt _ _, _, k | _, .str _, _, k | _, .nilp, _, k | _, .nils, _, k | _, .nilm, _, k | _, .nilch, _, k | _, .nilfn, _, k | _, .nili, _, k => by simpa only [vrel] using k
  | h, .ptr b o, v, k => by
    simp only [vrel] at *
    obtain ⟨p, hp, e⟩ := k
    exact ⟨p, h.p _ _ hp, e⟩
  | h, .sl .., v, k => by
    simp only [vrel] at *
    obtain ⟨a, c, e, r⟩ := k
    exact ⟨a, c, e, r.mono h⟩
  | h, .map b, v, k => by
    simp only [vrel] at *
    obtain ⟨p, hp, e⟩ := k
    exact ⟨p, h.p _ _ hp, e⟩
  | h, .chan b, v, k => by
    simp only [vrel] at *
    obtain ⟨p, hp, e⟩ := k
    exact ⟨p, h.p _ _ hp, e⟩
  | h, .fn f x y, v, k => by
    simp only [vrel] at *
    obtain ⟨f', x', y', e, hf, hx, hy⟩ := k
    exact ⟨f', x', y', e, hf.mono h, vrels.mono h _ _ hx, vrels.mono h _ _ hy⟩
  | h, .iface t x, v, k => by
    simp only [vrel] at *
    obtain ⟨y, e, r⟩ := k
    exact ⟨y, e, vrel.mono h _ _ r⟩
  | h, .agg cs, v, k => by
    simp only [vrel] at *
    obtain ⟨y, e, r⟩ := k
    exact ⟨y, e, vrels.mono h _ _ r⟩
  | h, .tup cs, v, k => by
    simp only [vrel] at *
    obtain ⟨y, e, r⟩ := k
    exact ⟨y, e, vrels.mono h _ _ r⟩
  | h, .fz es, v, k => by
    simp only [vrel] at *
    obtain ⟨a, c, us, e, hl, r, ho⟩ := k
    exact ⟨a, c, us, e, hl, vrels.mono h.bare _ _ r, ho.imp id (rowRel.mono h)⟩
  | h, .fp cs o, v, k => by
    simp only [vrel] at *
    obtain ⟨b, base, us, cc, e, fz, e1, e2, r, e3⟩ := k
    exact ⟨b, base, us, cc, e, fz, e1, h.z _ _ e2, vrels.mono h.bare _ _ r, e3⟩
  | h, .fm ks vs, v, k => by
    simp only [vrel] at *
    obtain ⟨b, ces, clock, e1, e2, r, r'⟩ := k
    exact ⟨b, ces, clock, e1, h.z _ _ e2, vrels.mono h.bare _ _ r, vrels.mono h.bare _ _ r'⟩
theorem vrels.mono {σ τ : Sg} : ∀ (_ : Sg.le σ τ) (a : List AV) (v : List Value), vrels σ a v → vrels τ a v
  | _, [], v, k => by simpa only [vrels] using k
  | h, a :: x, v, k => by
    simp only [vrels] at *
    obtain ⟨u, y, e, h1, h2⟩ := k
    exact ⟨u, y, e, vrel.mono h _ _ h1, vrels.mono h _ _ h2⟩
end

theorem vrels.length {σ : Sg} : ∀ {x : List AV} {l : List Value}, vrels σ x l → x.length = l.length
  | [], l, h => by simp only [vrels] at h; simp [h]
  | a :: x, l, h => by
    simp only [vrels] at h
    obtain ⟨v, y, rfl, _, h2⟩ := h
    simp [vrels.length h2]

theorem vrels.get {σ : Sg} : ∀ {x : List AV} {l : List Value}, vrels σ x l → ∀ (i : Nat) (a : AV), x[i]? = some a → ∃ v, l[i]? = some v ∧ vrel σ a v
  | [], l, h, i, a, e => by simp at e
  | b :: x, l, h, i, a, e => by
    simp only [vrels] at h
    obtain ⟨v, y, rfl, h1, h2⟩ := h
    cases i with
    | zero => simp at e; subst e; exact ⟨v, by simp, h1⟩
    | succ i => simp at e; simpa using vrels.get h2 i a e

theorem vrels.append {σ : Sg} : ∀ {x y : List AV} {l m : List Value}, vrels σ x l → vrels σ y m → vrels σ (x ++ y) (l ++ m)
  | [], y, l, m, h, k => by simp only [vrels] at h; simpa [h] using k
  | a :: x, y, l, m, h, k => by
    simp only [vrels] at h
    obtain ⟨v, z, rfl, h1, h2⟩ := h
    simp only [List.cons_append, vrels]
    exact ⟨v, z ++ m, rfl, h1, vrels.append h2 k⟩

theorem vrels.of_get {σ : Sg} : ∀ {x : List AV} {l : List Value}, x.length = l.length → (∀ i (h : i < x.length) (h' : i < l.length), vrel σ x[i] l[i]) → vrels σ x l
  | [], l, h, _ => by simp only [vrels]; exact List.length_eq_zero_iff.1 (by simpa using h.symm)
  | a :: x, [], h, _ => by simp at h
  | a :: x, v :: l, h, k => by
    simp only [vrels]
    exact ⟨v, l, rfl, k 0 (Nat.succ_pos _) (Nat.succ_pos _), vrels.of_get (Nat.succ.inj h) fun i hi hi' => k (i + 1) (Nat.succ_lt_succ hi) (Nat.succ_lt_succ hi')⟩

theorem vrels_one {σ : Sg} {a : AV} {v : Value} (h : vrel σ a v) : vrels σ [a] [v] := by
  simp only [vrels]; exact ⟨v, [], rfl, h, rfl⟩

/-- No aggregate: the value of one cell. -/
theorem cells_of_noAgg {σ : Sg} {a : AV} {v : Value} (h : vrel σ a v) (hn : noAgg a = true) : v.cells = #[v] ∧ (∀ cs, v ≠ .agg cs) ∧ (∀ cs, v ≠ .tuple cs) := by
  cases a <;> simp only [noAgg] at hn <;> simp only [vrel] at h <;>
    first
    | (subst h; simp [Value.cells]; done)
    | (obtain ⟨x, rfl, _⟩ := h; simp [Value.cells]; done)
    | (obtain ⟨x, y, rfl⟩ := h; simp [Value.cells]; done)
    | (obtain ⟨x, y, rfl, _⟩ := h; simp [Value.cells]; done)
    | (obtain ⟨x, y, z, rfl, _⟩ := h; simp [Value.cells]; done)
    | (obtain ⟨_, _, _, _, _, _, rfl, _⟩ := h; simp [Value.cells]; done)
    | (cases hn)

theorem vrel_cells {σ : Sg} {a : AV} {v : Value} (h : vrel σ a v) : vrels σ a.cells v.cells.toList := by
  cases a with
  | agg cs => simp only [vrel] at h; obtain ⟨vs, rfl, h⟩ := h; exact h
  | tup cs =>
    have h0 := h
    simp only [vrel] at h; obtain ⟨vs, rfl, _⟩ := h
    exact vrels_one h0
  | _ => rw [(cells_of_noAgg h rfl).1]; exact vrels_one h

/-- The environment against the temporaries. -/
def erel (σ : Sg) (e : Env) (tmps : Array Value) : Prop := ∀ t, vrel σ (Env.get e t) (tmps.getD t Go.undef)

theorem erel.mono {σ τ : Sg} (h : Sg.le σ τ) {e : Env} {tmps : Array Value} (k : erel σ e tmps) : erel τ e tmps := fun t => vrel.mono h _ _ (k t)

/-! ### The trie -/

theorem Tr.get_nil {α : Type} (k : Nat) : (Tr.nil : Tr α).get k = none := rfl

theorem Tr.get_setF_self {α : Type} : ∀ (f : Nat) (t : Tr α) (k : Nat) (x : α), k < f → (Tr.setF f t k x).get k = some x
  | 0, _, _, _, h => by omega
  | f + 1, .nil, 0, x, _ => rfl
  | f + 1, .n v l r, 0, x, _ => rfl
  | f + 1, .nil, k + 1, x, h => by
    unfold Tr.setF
    by_cases hb : Nat.beq (k % 2) 0 = true
    · simp only [hb, cond_true, Tr.get]; exact Tr.get_setF_self f .nil (k / 2) x (by omega)
    · simp only [Bool.not_eq_true] at hb; simp only [hb, cond_false, Tr.get]; exact Tr.get_setF_self f .nil (k / 2) x (by omega)
  | f + 1, .n v l r, k + 1, x, h => by
    unfold Tr.setF
    by_cases hb : Nat.beq (k % 2) 0 = true
    · simp only [hb, cond_true, Tr.get]; exact Tr.get_setF_self f l (k / 2) x (by omega)
    · simp only [Bool.not_eq_true] at hb; simp only [hb, cond_false, Tr.get]; exact Tr.get_setF_self f r (k / 2) x (by omega)

theorem half_ne {k j : Nat} (h : k + 1 ≠ j + 1) (hp : Nat.beq (k % 2) 0 = Nat.beq (j % 2) 0) : k / 2 ≠ j / 2 := by
  intro e
  have h1 : k % 2 = j % 2 := by
    have a1 : k % 2 = 0 ∨ k % 2 = 1 := by omega
    have a2 : j % 2 = 0 ∨ j % 2 = 1 := by omega
    rcases a1 with a1 | a1 <;> rcases a2 with a2 | a2 <;> simp [a1, a2] at hp ⊢
  omega

theorem Tr.get_setF_ne {α : Type} : ∀ (f : Nat) (t : Tr α) (k j : Nat) (x : α), k ≠ j → (Tr.setF f t k x).get j = t.get j
  | 0, _, _, _, _, _ => rfl
  | f + 1, .nil, 0, j, x, h => by
    cases j with
    | zero => exact absurd rfl h
    | succ j => unfold Tr.setF; simp [Tr.get]
  | f + 1, .n v l r, 0, j, x, h => by
    cases j with
    | zero => exact absurd rfl h
    | succ j => unfold Tr.setF; simp [Tr.get]
  | f + 1, .nil, k + 1, 0, x, _ => by
    unfold Tr.setF; rcases Bool.eq_false_or_eq_true (Nat.beq (k % 2) 0) with hb | hb <;> simp only [hb, cond_true, cond_false, Tr.get]
  | f + 1, .n v l r, k + 1, 0, x, _ => by
    unfold Tr.setF; rcases Bool.eq_false_or_eq_true (Nat.beq (k % 2) 0) with hb | hb <;> simp only [hb, cond_true, cond_false, Tr.get]
  | f + 1, .nil, k + 1, j + 1, x, h => by
    unfold Tr.setF
    have ih := fun hp => Tr.get_setF_ne f (Tr.nil : Tr α) (k / 2) (j / 2) x (half_ne h hp)
    rcases Bool.eq_false_or_eq_true (Nat.beq (k % 2) 0) with hb | hb <;> rcases Bool.eq_false_or_eq_true (Nat.beq (j % 2) 0) with hj | hj <;> simp only [hb, cond_true, cond_false, Tr.get, hj]
    · exact ih (by rw [hb, hj])
    · exact ih (by rw [hb, hj])
  | f + 1, .n v l r, k + 1, j + 1, x, h => by
    unfold Tr.setF
    have ihl := fun hp => Tr.get_setF_ne f l (k / 2) (j / 2) x (half_ne h hp)
    have ihr := fun hp => Tr.get_setF_ne f r (k / 2) (j / 2) x (half_ne h hp)
    rcases Bool.eq_false_or_eq_true (Nat.beq (k % 2) 0) with hb | hb <;> rcases Bool.eq_false_or_eq_true (Nat.beq (j % 2) 0) with hj | hj <;> simp only [hb, cond_true, cond_false, Tr.get, hj]
    · exact ihl (by rw [hb, hj])
    · exact ihr (by rw [hb, hj])

theorem Tr.get_set_self {α : Type} (t : Tr α) (k : Nat) (x : α) : (t.set k x).get k = some x := Tr.get_setF_self _ _ _ _ (Nat.lt_succ_self k)
theorem Tr.get_set_ne {α : Type} (t : Tr α) {k j : Nat} (x : α) (h : k ≠ j) : (t.set k x).get j = t.get j := Tr.get_setF_ne _ _ _ _ _ h
theorem Tr.get_set {α : Type} (t : Tr α) (k j : Nat) (x : α) : (t.set k x).get j = if k = j then some x else t.get j := by
  by_cases h : k = j
  · subst h; simp [Tr.get_set_self]
  · simp [h, Tr.get_set_ne]

theorem Env.get_set (e : Env) (k j : Nat) (x : AV) : Env.get (Tr.set e k x) j = if k = j then x else Env.get e j := by
  unfold Env.get
  rw [Tr.get_set]
  by_cases h : k = j <;> simp [h]

theorem St.get_put (s : St) (k j : Nat) (x : Blk) : (s.put k x).get j = if k = j then some x else s.get j := by
  unfold St.put St.get
  simp only [Tr.get_set]
  by_cases h : k = j <;> simp [h]

theorem St.get_new (s : St) (j : Nat) (x : Blk) : (s.new x).get j = if s.next = j then some x else s.get j := by
  unfold St.new St.get
  simp only [Tr.get_set]
  by_cases h : s.next = j <;> simp [h]

theorem St.next_put (s : St) (k : Nat) (x : Blk) : (s.put k x).next = s.next := rfl
theorem St.next_new (s : St) (x : Blk) : (s.new x).next = s.next + 1 := rfl

/-! ### The heap -/

/-- The block, if it is there and not consumed. -/
def St.look (s : St) (i : Nat) : Option Blk := match s.get i with
  | some .gone => none
  | r => r

theorem St.look_put (s : St) (k j : Nat) (x : Blk) : (s.put k x).look j = if k = j then (match x with | .gone => none | x => some x) else s.look j := by
  unfold St.look
  rw [St.get_put]
  by_cases h : k = j
  · subst h; cases x <;> simp
  · simp [h]

theorem St.look_new (s : St) (j : Nat) (x : Blk) (hx : x ≠ .gone) : (s.new x).look j = if s.next = j then some x else s.look j := by
  unfold St.look
  rw [St.get_new]
  by_cases h : s.next = j
  · subst h; cases x <;> simp at hx ⊢
  · simp [h]

theorem St.look_some {s : St} {i : Nat} {b : Blk} (h : s.get i = some b) (hb : b ≠ .gone) : s.look i = some b := by
  unfold St.look; rw [h]; cases b <;> simp at hb ⊢

def Blk.own : Blk → Bool
  | .cells _ _ ro _ _ => !ro
  | .gone => false
  | .map _ mi => !mi.ro
  | .iter _ _ => true
  | .chan _ _ => true
  | .miter .. => true
  | .loop .. => true

def entriesRel (σ : Sg) : List (AV × AV) → List MapEntry → Prop
  | [], l => l = []
  | (k, v) :: es, l => ∃ m r, l = m :: r ∧ vrel σ k m.key ∧ vrel σ v m.val ∧ entriesRel σ es r

theorem entriesRel.mono {σ τ : Sg} (h : Sg.le σ τ) : ∀ {x : List (AV × AV)} {l : List MapEntry}, entriesRel σ x l → entriesRel τ x l
  | [], l, k => k
  | (a, b) :: x, l, k => by
    simp only [entriesRel] at *
    obtain ⟨m, r, e, h1, h2, h3⟩ := k
    exact ⟨m, r, e, vrel.mono h _ _ h1, vrel.mono h _ _ h2, entriesRel.mono h h3⟩

def loopState : Nat → LoopState
  | 0 => .ready
  | 1 => .busy
  | 2 => .done
  | _ => .exhausted

/-- What is known of code once for all: 'ok n c': c writes no temporary from n on, its drawn regions are in order, no loop over a function stands in it. -/
class Stat where
  ok : Nat → Code → Prop
  spec : TypeId → Bool
  /-- whether draws are counted -/
  count : Bool
  /-- the machine for which the code was looked at -/
  w : Cx

variable [Stat]
/-- the draws go on, where they are counted -/
def Drw (w w' : World) : Prop := Stat.count = true → w.drawn ≤ w'.drawn
theorem Drw.refl (w : World) : Drw w w := fun _ => Nat.le_refl _
theorem Drw.trans {w w' w'' : World} (h : Drw w w') (k : Drw w' w'') : Drw w w'' := fun c => Nat.le_trans (h c) (k c)
theorem Drw.of {w w' : World} (h : w.drawn ≤ w'.drawn) : Drw w w' := fun _ => h

/-- An abstract block against what lies in the concrete one. -/
def BR (σ : Sg) (p : Pl) : Blk → Obj → Prop
  | .cells c e ro flo fhi, .cells cc e' fz => cc.size = p.n ∧ p.sh + c.length ≤ p.n ∧ e = e' ∧
      (∀ j a, c[j]? = some a → ∃ v, cc[p.sh + j]? = some v ∧ vrel σ a v) ∧
      (ro = false → ∀ j, fz.1 ≤ p.sh + j → p.sh + j < fz.2 → p.sh + j < p.n → flo ≤ j ∧ j < fhi) ∧
      (Stat.spec e = true → p.sh = 0 ∧ p.n = c.length)
  | .map es mi, .map ces clock => entriesRel σ es ces.toList ∧ ces.toList.map MapEntry.born = mi.bs ∧ clock = mi.ck
  | .chan cap buf, .chan cap' vals closed _ _ _ => cap' = cap ∧ closed = false ∧ vrels σ buf vals.toList
  | .miter m since seen stepped, .mapIter m' since' seen' stepped' => p.sh = 0 ∧ since' = since ∧ seen'.toList = seen ∧ stepped' = stepped ∧ (match m, m' with
      | none, none => True
      | some i, some b => ∃ q, σ i = some q ∧ q.b = b
      | _, _ => False)
  | .iter s pos, .stringIter bs pos' => p.sh = 0 ∧ pos = pos' ∧ bs.data.toList.drop pos = s
  | .loop st pe env params assign body, .loop r => r.state = loopState st ∧ r.pending = pe ∧ erel σ env r.tmps ∧ r.params.toList = params ∧ r.assign = assign ∧ r.body = body ∧ Stat.ok r.tmps.size assign ∧ Stat.ok r.tmps.size body ∧ (∀ t ∈ params, t < r.tmps.size)
  | _, _ => False

theorem BR.mono {σ τ : Sg} (h : Sg.le σ τ) {p : Pl} {b : Blk} {o : Obj} (k : BR σ p b o) : BR τ p b o := by
  cases b <;> cases o <;> simp only [BR] at * <;> first | exact k | skip
  · obtain ⟨h1, h2, h3, h4, h5⟩ := k
    exact ⟨h1, h2, h3, fun j a e => by obtain ⟨v, hv, hr⟩ := h4 j a e; exact ⟨v, hv, vrel.mono h _ _ hr⟩, h5⟩
  · exact ⟨entriesRel.mono h k.1, k.2⟩
  · obtain ⟨h1, h2, h3⟩ := k
    exact ⟨h1, h2, vrels.mono h _ _ h3⟩
  · obtain ⟨h1, h2, h3, h4, h5⟩ := k
    refine ⟨h1, h2, h3, h4, ?_⟩
    split at h5
    · trivial
    · obtain ⟨q, hq, hb⟩ := h5
      exact ⟨q, h.p _ _ hq, hb⟩
    · exact h5
  · obtain ⟨h1, h2, h3, h4⟩ := k
    exact ⟨h1, h2, h3.mono h, h4⟩

/-- The concrete block c is one that the abstract heap may write. -/
def Owns (σ : Sg) (s : St) (c : Nat) : Prop := ∃ i p b, σ i = some p ∧ s.look i = some b ∧ b.own = true ∧ p.b = c

structure HR (σ : Sg) (s : St) (w : World) : Prop where
  lt : ∀ i p, σ i = some p → p.b < w.heap.size
  blk : ∀ i p b, σ i = some p → s.look i = some b → ∃ o, w.heap[p.b]? = some o ∧ BR σ p b o
  inj : ∀ i j p q b c, σ i = some p → σ j = some q → s.look i = some b → s.look j = some c → p.b = q.b → i = j
  fz : ∀ c o, σ.fz c = some o → w.heap[c]? = some o ∧ ¬ Owns σ s c

structure Ext (σ : Sg) (s : St) (w : World) (σ' : Sg) (s' : St) (w' : World) : Prop where
  le : Sg.le σ σ'
  nfz : ∀ c o, σ'.fz c = some o → σ.fz c = some o ∨ w.heap.size ≤ c
  size : w.heap.size ≤ w'.heap.size
  keep : ∀ c, c < w.heap.size → ¬ Owns σ s c → w'.heap[c]? = w.heap[c]?
  owns : ∀ c, c < w.heap.size → Owns σ' s' c → Owns σ s c
  os : w'.os = w.os
  tape : w'.tape = w.tape
  output : w'.output = w.output
  drawn : Drw w w'

theorem Ext.refl (σ : Sg) (s : St) (w : World) : Ext σ s w σ s w :=
  ⟨Sg.le_refl _, fun _ _ h => .inl h, Nat.le_refl _, fun _ _ _ => rfl, fun _ _ h => h, rfl, rfl, rfl, Drw.refl _⟩

theorem Ext.trans {σ1 σ2 σ3 : Sg} {s1 s2 s3 : St} {w1 w2 w3 : World} (h : Ext σ1 s1 w1 σ2 s2 w2) (k : Ext σ2 s2 w2 σ3 s3 w3) : Ext σ1 s1 w1 σ3 s3 w3 where
  le := Sg.le_trans h.le k.le
  nfz := fun c o hc => by
    rcases k.nfz c o hc with h1 | h1
    · exact h.nfz c o h1
    · exact .inr (Nat.le_trans h.size h1)
  size := Nat.le_trans h.size k.size
  keep := fun c hc hn => by
    rw [k.keep c (Nat.lt_of_lt_of_le hc h.size) (fun ho => hn (h.owns c hc ho)), h.keep c hc hn]
  owns := fun c hc ho => h.owns c hc (k.owns c (Nat.lt_of_lt_of_le hc h.size) ho)
  os := k.os.trans h.os
  tape := k.tape.trans h.tape
  output := k.output.trans h.output
  drawn := h.drawn.trans k.drawn

/-- Ids from the counter on are not used. -/
def Fresh (σ : Sg) (s : St) : Prop := ∀ i, s.next ≤ i → σ i = none

def Sg.add (σ : Sg) (i : Nat) (p : Pl) : Sg := { σ with m := fun j => if j = i then some p else σ j }

theorem Sg.le_add {σ : Sg} {i : Nat} {p : Pl} (h : σ i = none) : Sg.le σ (σ.add i p) := by
  refine ⟨?_, fun _ _ h => h⟩
  intro j q hq
  unfold Sg.add
  by_cases e : j = i
  · subst e; rw [h] at hq; cases hq
  · simp [e, hq]

theorem Sg.add_self (σ : Sg) (i : Nat) (p : Pl) : (σ.add i p) i = some p := by simp [Sg.add]
theorem Sg.add_ne (σ : Sg) {i j : Nat} (p : Pl) (h : j ≠ i) : (σ.add i p) j = σ j := by simp [Sg.add, h]

/-- A new block on both sides. -/
theorem HR.new {σ : Sg} {s : St} {w : World} (h : HR σ s w) (hf : σ s.next = none) (b : Blk) (hb : b ≠ .gone) (o : Obj) (n : Nat)
    (hr : BR (σ.add s.next ⟨w.heap.size, 0, n⟩) ⟨w.heap.size, 0, n⟩ b o) :
    HR (σ.add s.next ⟨w.heap.size, 0, n⟩) (s.new b) (w.alloc o) := by
  have hle : Sg.le σ (σ.add s.next ⟨w.heap.size, 0, n⟩) := Sg.le_add hf
  refine ⟨?_, ?_, ?_, ?_⟩
  · intro i p hp
    by_cases e : i = s.next
    · subst e; rw [Sg.add_self] at hp; cases hp; simp
    · rw [Sg.add_ne _ _ e] at hp
      have := h.lt i p hp
      simp; omega
  · intro i p c hp hc
    rw [St.look_new _ _ _ hb] at hc
    by_cases e : i = s.next
    · subst e; rw [Sg.add_self] at hp; cases hp
      simp at hc; subst hc
      exact ⟨o, by show (w.heap.push o)[w.heap.size]? = some o; simp, hr⟩
    · rw [Sg.add_ne _ _ e] at hp
      rw [if_neg (fun h => e h.symm)] at hc
      obtain ⟨o', ho, hbr⟩ := h.blk i p c hp hc
      have := h.lt i p hp
      refine ⟨o', ?_, hbr.mono hle⟩
      simp only [World.alloc]
      rw [Array.getElem?_push, if_neg (by omega)]
      exact ho
  · intro i j p q c d hp hq hc hd hpq
    rw [St.look_new _ _ _ hb] at hc hd
    by_cases e : i = s.next <;> by_cases e' : j = s.next
    · rw [e, e']
    · subst e
      rw [Sg.add_self] at hp; cases hp
      rw [Sg.add_ne _ _ e'] at hq
      have := h.lt j q hq
      simp at hpq; omega
    · subst e'
      rw [Sg.add_self] at hq; cases hq
      rw [Sg.add_ne _ _ e] at hp
      have := h.lt i p hp
      simp at hpq; omega
    · rw [Sg.add_ne _ _ e] at hp
      rw [Sg.add_ne _ _ e'] at hq
      rw [if_neg (fun h => e h.symm)] at hc
      rw [if_neg (fun h => e' h.symm)] at hd
      exact h.inj i j p q c d hp hq hc hd hpq
  · intro c o' hc
    obtain ⟨h1, h2⟩ := h.fz c o' hc
    have hlt : c < w.heap.size := (Array.getElem?_eq_some_iff.1 h1).1
    refine ⟨by simp only [World.alloc]; rw [Array.getElem?_push, if_neg (by omega)]; exact h1, ?_⟩
    rintro ⟨i, p, d, hp, hd, hown, rfl⟩
    rw [St.look_new _ _ _ hb] at hd
    by_cases e : i = s.next
    · subst e; rw [Sg.add_self] at hp; cases hp; simp at hlt
    · rw [Sg.add_ne _ _ e] at hp
      rw [if_neg (fun h => e h.symm)] at hd
      exact h2 ⟨i, p, d, hp, hd, hown, rfl⟩

theorem Ext.new {σ : Sg} {s : St} {w : World} (hf : σ s.next = none) (b : Blk) (hb : b ≠ .gone) (o : Obj) (n : Nat) :
    Ext σ s w (σ.add s.next ⟨w.heap.size, 0, n⟩) (s.new b) (w.alloc o) := by
  refine ⟨Sg.le_add hf, fun _ _ h => .inl h, by simp, ?_, ?_, rfl, rfl, rfl, Drw.of (Nat.le_refl _)⟩
  · intro c hc _
    simp only [World.alloc]
    rw [Array.getElem?_push, if_neg (by omega)]
  · rintro c hc ⟨i, p, d, hp, hd, hown, rfl⟩
    rw [St.look_new _ _ _ hb] at hd
    by_cases e : i = s.next
    · subst e; rw [Sg.add_self] at hp; cases hp; simp at hc
    · rw [Sg.add_ne _ _ e] at hp
      rw [if_neg (fun h => e h.symm)] at hd
      exact ⟨i, p, d, hp, hd, hown, rfl⟩

theorem Fresh.new {σ : Sg} {s : St} (h : Fresh σ s) (b : Blk) (p : Pl) : Fresh (σ.add s.next p) (s.new b) := by
  intro i hi
  rw [St.next_new] at hi
  rw [Sg.add_ne _ _ (by omega)]
  exact h i (by omega)

/-- A block of our own rewritten on both sides. -/
theorem HR.put {σ : Sg} {s : St} {w : World} (h : HR σ s w) {i : Nat} {p : Pl} {b0 b : Blk} (hp : σ i = some p) (hl : s.look i = some b0) (hown : b0.own = true) (hb : b ≠ .gone) {w' : World} (hsz : w'.heap.size = w.heap.size)
    (hrest : ∀ c, c ≠ p.b → w'.heap[c]? = w.heap[c]?) {o : Obj} (ho : w'.heap[p.b]? = some o) (hr : BR σ p b o) : HR σ (s.put i b) w' := by
  refine ⟨fun j q hq => by rw [hsz]; exact h.lt j q hq, ?_, ?_, ?_⟩
  · intro j q c hq hc
    rw [St.look_put] at hc
    by_cases e : i = j
    · subst e
      rw [hp] at hq; cases hq
      rw [if_pos rfl] at hc
      have : c = b := by cases b <;> simp at hb hc ⊢ <;> exact hc.symm
      subst this
      exact ⟨o, ho, hr⟩
    · rw [if_neg e] at hc
      obtain ⟨o', ho', hr'⟩ := h.blk j q c hq hc
      have hne : q.b ≠ p.b := fun he => e (h.inj j i q p c b0 hq hp hc hl he).symm
      exact ⟨o', by rw [hrest _ hne]; exact ho', hr'⟩
  · intro j k q r c d hq hr' hc hd he
    have look : ∀ j c, (s.put i b).look j = some c → ∃ c', s.look j = some c' := by
      intro j c hc
      rw [St.look_put] at hc
      by_cases e : i = j
      · subst e; exact ⟨b0, hl⟩
      · rw [if_neg e] at hc; exact ⟨c, hc⟩
    obtain ⟨c', hc'⟩ := look j c hc
    obtain ⟨d', hd'⟩ := look k d hd
    exact h.inj j k q r c' d' hq hr' hc' hd' he
  · intro c o' hc
    obtain ⟨h1, h2⟩ := h.fz c o' hc
    refine ⟨by rw [hrest c (fun e => h2 ⟨i, p, b0, hp, hl, hown, e.symm⟩)]; exact h1, ?_⟩
    rintro ⟨j, q, d, hq, hd, ho', rfl⟩
    rw [St.look_put] at hd
    by_cases e : i = j
    · subst e; rw [hp] at hq; cases hq
      exact h2 ⟨i, p, b0, hp, hl, hown, rfl⟩
    · rw [if_neg e] at hd
      exact h2 ⟨j, q, d, hq, hd, ho', rfl⟩

theorem Ext.put {σ : Sg} {s : St} {w : World} {i : Nat} {p : Pl} {b0 b : Blk} (hp : σ i = some p) (hl : s.look i = some b0) (hown : b0.own = true) {w' : World} (hsz : w'.heap.size = w.heap.size)
    (hrest : ∀ c, c ≠ p.b → w'.heap[c]? = w.heap[c]?) (hos : w'.os = w.os) (ht : w'.tape = w.tape) (hout : w'.output = w.output) (hdr : Drw w w' := by first | exact Drw.refl _ | exact Drw.of (Nat.le_refl _) | assumption) : Ext σ s w σ (s.put i b) w' := by
  refine ⟨Sg.le_refl _, fun _ _ h => .inl h, by omega, ?_, ?_, hos, ht, hout, hdr⟩
  · intro c _ hn
    exact hrest c (fun e => hn ⟨i, p, b0, hp, hl, hown, e.symm⟩)
  · rintro c _ ⟨j, q, d, hq, hd, ho, rfl⟩
    rw [St.look_put] at hd
    by_cases e : i = j
    · subst e; rw [hp] at hq; cases hq
      exact ⟨i, p, b0, hp, hl, hown, rfl⟩
    · rw [if_neg e] at hd
      exact ⟨j, q, d, hq, hd, ho, rfl⟩

/-- What one operation (or a whole call) does: the relation is kept; new ids alone are given a place; what is not the abstract heap's own is as it was. -/
structure Good (σ : Sg) (s : St) (w : World) (σ' : Sg) (s' : St) (w' : World) : Prop where
  hr : HR σ' s' w'
  ext : Ext σ s w σ' s' w'
  dom : ∀ i, i < s.next ∨ s'.next ≤ i → σ' i = σ i
  next : s.next ≤ s'.next
  dead : ∀ i, i < s.next → s.look i = none → s'.look i = none
  news : ∀ i p, σ' i = some p → σ i = none → w.heap.size ≤ p.b ∨ Owns σ s p.b
  glob : s'.base = s.base

theorem Good.refl {σ : Sg} {s : St} {w : World} (h : HR σ s w) : Good σ s w σ s w :=
  ⟨h, Ext.refl _ _ _, fun _ _ => rfl, Nat.le_refl _, fun _ _ h => h, fun i p h k => (by rw [k] at h; cases h), rfl⟩

theorem Good.trans {σ1 σ2 σ3 : Sg} {s1 s2 s3 : St} {w1 w2 w3 : World} (h : Good σ1 s1 w1 σ2 s2 w2) (k : Good σ2 s2 w2 σ3 s3 w3) : Good σ1 s1 w1 σ3 s3 w3 where
  hr := k.hr
  ext := h.ext.trans k.ext
  dom := fun i hi => by
    have h1 := h.next
    have h2 := k.next
    rw [k.dom i (by omega), h.dom i (by omega)]
  next := Nat.le_trans h.next k.next
  dead := fun i hi hl => k.dead i (Nat.lt_of_lt_of_le hi h.next) (h.dead i hi hl)
  news := fun i p hp hn => by
    by_cases e : σ2 i = none
    · rcases k.news i p hp e with hk | hk
      · exact .inl (Nat.le_trans h.ext.size hk)
      · by_cases hb : p.b < w1.heap.size
        · exact .inr (h.ext.owns _ hb hk)
        · exact .inl (by omega)
    · cases hq : σ2 i with
      | none => exact absurd hq e
      | some q =>
        have := k.ext.le.p i q hq
        rw [hp] at this; cases this
        exact h.news i p hq hn
  glob := k.glob.trans h.glob

theorem Good.fresh {σ σ' : Sg} {s s' : St} {w w' : World} (h : Good σ s w σ' s' w') (hf : Fresh σ s) : Fresh σ' s' := fun i hi => by
  rw [h.dom i (.inr hi)]
  exact hf i (Nat.le_trans h.next hi)

theorem HR.of_heap {σ : Sg} {s : St} {w w' : World} (h : HR σ s w) (e : w'.heap = w.heap) : HR σ s w' :=
  ⟨fun i p hp => by rw [e]; exact h.lt i p hp, fun i p b hp hb => by rw [e]; exact h.blk i p b hp hb, h.inj, fun c o hc => by rw [e]; exact h.fz c o hc⟩

/-- The world may have drawn meanwhile. -/
theorem Good.drew {σ σ' : Sg} {s s' : St} {w w' : World} (h : Good σ s w σ' s' w') : Good σ s w σ' s' w'.drew :=
  ⟨h.hr.of_heap rfl, ⟨h.ext.le, h.ext.nfz, h.ext.size, h.ext.keep, h.ext.owns, h.ext.os, h.ext.tape, h.ext.output, fun c => Nat.le_succ_of_le (h.ext.drawn c)⟩, h.dom, h.next, h.dead, h.news, h.glob⟩

theorem Good.drew0 {σ σ' : Sg} {s s' : St} {w w' : World} (h : Good σ s w.drew σ' s' w') : Good σ s w σ' s' w' :=
  ⟨h.hr, ⟨h.ext.le, h.ext.nfz, h.ext.size, h.ext.keep, h.ext.owns, h.ext.os, h.ext.tape, h.ext.output, fun c => Nat.le_of_succ_le (h.ext.drawn c)⟩, h.dom, h.next, h.dead, h.news, h.glob⟩

theorem Good.new {σ : Sg} {s : St} {w : World} (h : HR σ s w) (hf : σ s.next = none) (b : Blk) (hb : b ≠ .gone) (o : Obj) (n : Nat)
    (hr : BR (σ.add s.next ⟨w.heap.size, 0, n⟩) ⟨w.heap.size, 0, n⟩ b o) :
    Good σ s w (σ.add s.next ⟨w.heap.size, 0, n⟩) (s.new b) (w.alloc o) where
  hr := h.new hf b hb o n hr
  ext := Ext.new hf b hb o n
  dom := fun i hi => by
    rw [St.next_new] at hi
    exact Sg.add_ne _ _ (by omega)
  next := by rw [St.next_new]; omega
  dead := fun i hi hl => by
    rw [St.look_new _ _ _ hb, if_neg (by omega)]; exact hl
  news := fun i p hp hn => by
    by_cases e : i = s.next
    · subst e; rw [Sg.add_self] at hp; cases hp; exact .inl (Nat.le_refl _)
    · rw [Sg.add_ne _ _ e, hn] at hp; cases hp
  glob := rfl

theorem Good.put {σ : Sg} {s : St} {w : World} (h : HR σ s w) {i : Nat} {p : Pl} {b0 b : Blk} (hp : σ i = some p) (hl : s.look i = some b0) (hown : b0.own = true) (hb : b ≠ .gone) {w' : World} (hsz : w'.heap.size = w.heap.size)
    (hrest : ∀ c, c ≠ p.b → w'.heap[c]? = w.heap[c]?) {o : Obj} (ho : w'.heap[p.b]? = some o) (hr : BR σ p b o) (hos : w'.os = w.os) (ht : w'.tape = w.tape) (hout : w'.output = w.output) (hdr : Drw w w' := by first | exact Drw.refl _ | exact Drw.of (Nat.le_refl _) | assumption) : Good σ s w σ (s.put i b) w' where
  hr := h.put hp hl hown hb hsz hrest ho hr
  ext := Ext.put hp hl hown hsz hrest hos ht hout hdr
  dom := fun _ _ => rfl
  next := Nat.le_refl _
  dead := fun j _ hj => by
    rw [St.look_put]
    by_cases e : i = j
    · subst e; rw [hl] at hj; cases hj
    · rw [if_neg e]; exact hj
  news := fun j q h1 h2 => by rw [h2] at h1; cases h1
  glob := rfl

end Go.Am
namespace Go.Am
open Go
structure CxOk [Stat] (X : Cx) (P : Program) : Prop where
  und : ∀ t d, X.und t = some d → P.underlying t = some d
  inf : ∀ t i, X.inf t = some i → P.info? t = some i
  fn : ∀ f fn, X.fn f = some fn → P.funcs[f]? = some fn
  eqOk : ∀ t, X.eqOk t = true → P.eqGuardType P.depth t = false ∧ P.stoodInHeld t = false
  spec : ∀ t, Stat.spec t = true → X.spec t = true
  spec8 : ∀ t, Stat.spec t = true → X.und t ≠ some (.int .u8)

/-- the package's variables: where they lie; and of those that are known once for all, what they hold -/
def GlobOk [Stat] (X : Cx) (σ : Sg) : Prop := ∀ g, g < X.glob → ∃ n, σ g = some ⟨g, 0, n⟩ ∧ ∀ b, X.gbase g = some b → b.own = false ∧ ∃ o, σ.fz g = some o ∧ BR σ.bare ⟨g, 0, n⟩ b o

section
variable {P : Program} {w : World}

theorem run_und {t : TypeId} {d : TypeDesc} (h : P.underlying t = some d) : (underlying t).run P w = .ok d w := by
  simp [underlying, h]
theorem run_inf {t : TypeId} {i : TypeInfo} (h : P.info? t = some i) : (typeInfo t).run P w = .ok i w := by
  simp [typeInfo, h]
theorem run_size {t : TypeId} {i : TypeInfo} (h : P.info? t = some i) : (sizeOf t).run P w = .ok i.size w := by
  simp [sizeOf, run_inf h]
theorem run_zero {t : TypeId} {i : TypeInfo} {z : Value} (h : P.info? t = some i) (hz : i.zero = some z) : (zeroValue t).run P w = .ok z w := by
  simp [zeroValue, run_inf h, hz]
end

section
variable [Stat] {X : Cx} {P : Program} (hX : CxOk X P) {w : World}
include hX

theorem run_size' {t : TypeId} {n : Nat} (h : size X t = some n) : (sizeOf t).run P w = .ok n w := by
  unfold size at h
  split at h
  · rename_i i hi; cases h; exact run_size (hX.inf _ _ hi)
  · cases h

theorem run_isAgg' {t : TypeId} {b : Bool} (h : isAggT X t = some b) : (isAgg t).run P w = .ok b w := by
  unfold isAggT at h
  split at h <;> cases h <;> rename_i hd
  · simp [isAgg, run_und (hX.und _ _ hd)]
  · simp [isAgg, run_und (hX.und _ _ hd)]
  · simp only [isAgg, Sem.run_bind, run_und (hX.und _ _ hd), Result.andThen_ok]
    rfl

end

/-! ### Constants -/

theorem ofV_rel (σ : Sg) : ∀ (n : Nat) (v : Value) (a : AV), ofV n v = some a → vrel σ a v := by
  intro n
  induction n with
  | zero => intro v a h; simp [ofV] at h
  | succ n ih =>
    have hl : ∀ (l : List Value) (as : List AV), l.mapM (ofV n) = some as → vrels σ as l := by
      intro l
      induction l with
      | nil => intro as h; simp at h; subst h; simp [vrels]
      | cons v l ihl =>
        intro as h
        simp only [List.mapM_cons, Option.bind_eq_bind, Option.bind_eq_some_iff, Option.pure_def, Option.some.injEq] at h
        obtain ⟨a, ha, as', has, rfl⟩ := h
        simp only [vrels]
        exact ⟨v, l, rfl, ih v a ha, ihl as' has⟩
    intro v a h
    unfold ofV at h
    split at h <;> first | (cases h; simp [vrel]; done) | (cases h; done) | skip
    · simp only [Option.map_eq_some_iff] at h
      obtain ⟨as, has, rfl⟩ := h
      simp only [vrel]
      exact ⟨_, rfl, hl _ _ has⟩
    · simp only [Option.map_eq_some_iff] at h
      obtain ⟨as, has, rfl⟩ := h
      simp only [vrel]
      exact ⟨_, rfl, hl _ _ has⟩

/-! ### Operands -/

def rho (tmps : Array Value) : Operand → Value
  | .tmp t => tmps.getD t Go.undef
  | .const v => v
  | .global g => .pointer (some ⟨g, 0, none⟩)
  | .func f => .func (.func f) #[] #[]

theorem eval_rel [Stat] {X : Cx} {σ : Sg} (hg : GlobOk X σ) {e : Env} {tmps : Array Value} (he : erel σ e tmps) {x : Operand} {a : AV} (h : eval X e x = some a) : vrel σ a (rho tmps x) := by
  cases x <;> simp only [eval] at h
  · cases h; exact he _
  · exact ofV_rel σ _ _ _ h
  · rename_i g
    split at h
    · rename_i hlt
      cases h
      obtain ⟨n, hn, _⟩ := hg g hlt
      simp only [vrel, rho]
      exact ⟨_, hn, rfl⟩
    · cases h
  · cases h
    simp only [vrel, rho]
    exact ⟨_, _, _, rfl, rfl, by simp [vrels], by simp [vrels]⟩

theorem evals_rel [Stat] {X : Cx} {σ : Sg} (hg : GlobOk X σ) {e : Env} {tmps : Array Value} (he : erel σ e tmps) : ∀ {l : List Operand} {as : List AV}, evals X e l = some as → vrels σ as (l.map (rho tmps))
  | [], as, h => by simp [evals] at h; subst h; simp [vrels]
  | x :: l, as, h => by
    simp only [evals] at h
    split at h
    · rename_i v r h1 h2
      cases h
      simp only [List.map_cons, vrels]
      exact ⟨_, _, rfl, eval_rel hg he h1, evals_rel hg he h2⟩
    · cases h

/-- parts of a literal -/
def partsRel (σ : Sg) : List (Nat × AV) → List (Nat × Value) → Prop
  | [], l => l = []
  | (i, a) :: x, l => ∃ v y, l = (i, v) :: y ∧ vrel σ a v ∧ partsRel σ x y

theorem evalParts_rel [Stat] {X : Cx} {σ : Sg} (hg : GlobOk X σ) {e : Env} {tmps : Array Value} (he : erel σ e tmps) : ∀ {l : List (Nat × Operand)} {as : List (Nat × AV)}, evalParts X e l = some as → partsRel σ as (l.map fun (i, x) => (i, rho tmps x))
  | [], as, h => by simp [evalParts] at h; subst h; simp [partsRel]
  | (i, x) :: l, as, h => by
    simp only [evalParts] at h
    split at h
    · rename_i v r h1 h2
      cases h
      simp only [List.map_cons, partsRel]
      exact ⟨_, _, rfl, eval_rel hg he h1, evalParts_rel hg he h2⟩
    · cases h

/-! ### Pieces of lists -/

theorem grab_spec : ∀ {n o : Nat} {l r : List AV}, grab n o l = some r → r.length = n ∧ ∀ i, i < n → r[i]? = l[o + i]? ∧ o + i < l.length
  | 0, _, _, r, h => by simp [grab] at h; subst h; exact ⟨rfl, fun i hi => by omega⟩
  | n + 1, _, [], r, h => by simp [grab] at h
  | n + 1, 0, x :: l, r, h => by
    simp only [grab] at h
    split at h
    · rename_i r' h'
      cases h
      obtain ⟨h1, h2⟩ := grab_spec h'
      refine ⟨by simp [h1], fun i hi => ?_⟩
      cases i with
      | zero => simp
      | succ i =>
        have := h2 i (by omega)
        simp only [Nat.zero_add] at this
        simp only [Nat.zero_add, List.getElem?_cons_succ, List.length_cons]
        exact ⟨this.1, by omega⟩
    · cases h
  | n + 1, o + 1, x :: l, r, h => by
    simp only [grab] at h
    obtain ⟨h1, h2⟩ := grab_spec h
    refine ⟨h1, fun i hi => ?_⟩
    have := h2 i hi
    rw [show o + 1 + i = (o + i) + 1 from by omega]
    simp only [List.getElem?_cons_succ, List.length_cons]
    exact ⟨this.1, by omega⟩

theorem grab_get {n o : Nat} {l r : List AV} (h : grab n o l = some r) {i : Nat} {a : AV} (ha : r[i]? = some a) : l[o + i]? = some a := by
  obtain ⟨h1, h2⟩ := grab_spec h
  have : i < n := by
    have := (List.getElem?_eq_some_iff.1 ha).1
    omega
  rw [← (h2 i this).1]; exact ha

theorem lay_spec : ∀ {o : Nat} {vs l r : List AV}, lay o vs l = some r → r.length = l.length ∧ (vs ≠ [] → o + vs.length ≤ l.length) ∧ ∀ i, r[i]? = if o ≤ i ∧ i < o + vs.length then vs[i - o]? else l[i]?
  | o, [], l, r, h => by
    simp [lay] at h; subst h
    refine ⟨rfl, fun h => absurd rfl h, fun i => ?_⟩
    rw [if_neg (by simp)]
  | o, v :: vs, [], r, h => by cases o <;> simp [lay] at h
  | 0, v :: vs, x :: l, r, h => by
    simp only [lay] at h
    split at h
    · rename_i r' h'
      cases h
      obtain ⟨h1, h2, h3⟩ := lay_spec h'
      refine ⟨by simp [h1], fun _ => ?_, fun i => ?_⟩
      · by_cases hv : vs = []
        · subst hv; simp
        · have := h2 hv; simp; omega
      · cases i with
        | zero => simp
        | succ i =>
          have := h3 i
          simp only [Nat.zero_add, Nat.zero_le, true_and, Nat.sub_zero] at this
          simp only [Nat.zero_add, Nat.zero_le, true_and, Nat.sub_zero, List.length_cons, List.getElem?_cons_succ, this]
          by_cases hc : i < vs.length
          · rw [if_pos hc, if_pos (by omega)]
          · rw [if_neg hc, if_neg (by omega)]
    · cases h
  | o + 1, v :: vs, x :: l, r, h => by
    simp only [lay] at h
    split at h
    · rename_i r' h'
      cases h
      obtain ⟨h1, h2, h3⟩ := lay_spec h'
      refine ⟨by simp [h1], fun _ => ?_, fun i => ?_⟩
      · have := h2 (by simp); simp at this ⊢; omega
      · cases i with
        | zero => rw [if_neg (by omega)]; simp
        | succ i =>
          have := h3 i
          simp only [List.getElem?_cons_succ, this]
          by_cases hc : o ≤ i ∧ i < o + (v :: vs).length
          · rw [if_pos hc, if_pos (by omega)]
            congr 1
            omega
          · rw [if_neg hc, if_neg (by omega)]
    · cases h

end Go.Am
namespace Go.Am
open Go
/-- The operation yields a value that is related, and leaves the world alone. -/
def PRun (P : Program) (w : World) (σ : Sg) (m : Sem Value) (a : AV) : Prop := ∃ v, m.run P w = .ok v w ∧ vrel σ a v

section
variable [Stat] {X : Cx} {P : Program} (hX : CxOk X P) {w : World} {σ : Sg}

/-! ### Reading values apart -/

theorem vrel_int {k : IntKind} {n : Int} {v : Value} (h : vrel σ (.int k n) v) : v = .int k n := by simpa only [vrel] using h
theorem vrel_bool {b : Bool} {v : Value} (h : vrel σ (.bool b) v) : v = .bool b := by simpa only [vrel] using h
theorem vrel_str {s : List UInt8} {v : Value} (h : vrel σ (.str s) v) : ∃ bs : ByteArray, v = .string bs ∧ bs.data.toList = s := by simpa only [vrel] using h
theorem vrel_ptr {b o : Nat} {v : Value} (h : vrel σ (.ptr b o) v) : ∃ p, σ b = some p ∧ v = .pointer (some ⟨p.b, p.sh + o, none⟩) := by simpa only [vrel] using h
theorem vrel_sl {b o n : Nat} {c : Option Nat} {z : Nat} {v : Value} (h : vrel σ (.sl b o n c z) v) : ∃ a k, v = .slice (some a) n k ∧ SlRel σ b o n c z a k := by simpa only [vrel] using h
theorem vrel_agg {cs : List AV} {v : Value} (h : vrel σ (.agg cs) v) : ∃ vs, v = .agg vs ∧ vrels σ cs vs.toList := by simpa only [vrel] using h
theorem vrel_tup {cs : List AV} {v : Value} (h : vrel σ (.tup cs) v) : ∃ vs, v = .tuple vs ∧ vrels σ cs vs.toList := by simpa only [vrel] using h
theorem vrel_map {r : Nat} {v : Value} (h : vrel σ (.map r) v) : ∃ p, σ r = some p ∧ v = .map (some p.b) := by simpa only [vrel] using h

theorem vrel_fz {es : List AV} {v : Value} (h : vrel σ (.fz es) v) : ∃ a c us, v = .slice (some a) es.length c ∧ es.length ≤ c ∧ vrels σ.bare es us ∧ (us = [] ∨ rowRel σ a us) := by simpa only [vrel] using h
theorem vrel_fp {cs : List AV} {o : Nat} {v : Value} (h : vrel σ (.fp cs o) v) : ∃ b base us cc e fz, v = .pointer (some ⟨b, base + o, none⟩) ∧ σ.fz b = some (.cells cc e fz) ∧ vrels σ.bare cs us ∧ ∀ i u, us[i]? = some u → cc[base + i]? = some u := by simpa only [vrel] using h

theorem flat_get {α β : Type} (f : α → List β) (n : Nat) : ∀ (l : List α), (∀ u ∈ l, (f u).length = n) → ∀ (i j : Nat) (u : α), l[i]? = some u → j < n → (l.flatMap f)[i * n + j]? = (f u)[j]?
  | [], _, i, j, u, h, _ => by simp at h
  | x :: l, hl, 0, j, u, h, hj => by
    simp at h; subst h
    have := hl x (List.mem_cons_self ..)
    rw [List.flatMap_cons, Nat.zero_mul, Nat.zero_add, List.getElem?_append_left (by omega)]
  | x :: l, hl, i + 1, j, u, h, hj => by
    simp at h
    have hx := hl x (List.mem_cons_self ..)
    rw [List.flatMap_cons, List.getElem?_append_right (by rw [hx, Nat.add_mul]; omega), hx, Nat.add_mul, Nat.one_mul, show i * n + n + j - n = i * n + j by omega]
    exact flat_get f n l (fun u hu => hl u (List.mem_cons_of_mem _ hu)) i j u h hj

theorem addr_add (b o n : Nat) : (⟨b, o, none⟩ : Addr).add n = ⟨b, o + n, none⟩ := by
  unfold Addr.add; split
  · subst_vars; rfl
  · rfl

include hX

theorem fieldAddr_run {t : TypeId} {x : AV} {v : Value} {f : Nat} {a : AV} (hx : vrel σ x v) (h : fieldAddrA X t x f = some a) : PRun P w σ (Instr.fieldAt t v f) a := by
  unfold fieldAddrA at h
  split at h
  · rename_i fs b o hu
    split at h
    · rename_i fd hf
      split at h
      · rename_i n hs
        cases h
        obtain ⟨p, hp, rfl⟩ := vrel_ptr hx
        refine ⟨.pointer (some ⟨p.b, p.sh + (o + fd.offset), none⟩), ?_, ?_⟩
        · simp only [Instr.fieldAt, Sem.run_bind, run_und (hX.und _ _ hu), Result.andThen_ok, hf, Instr.sureAddr, Sem.run_pure, fieldPlace, run_size' hX hs]
          simp [addr_add, Nat.add_assoc]
        · simp only [vrel]; exact ⟨p, hp, rfl⟩
      · cases h
    · cases h
  · rename_i fs c o hu
    split at h
    · rename_i fd hf
      split at h
      · rename_i n hs
        cases h
        obtain ⟨b, base, us, cc, e, fz, rfl, h1, h2, h3⟩ := vrel_fp hx
        refine ⟨.pointer (some ⟨b, base + (o + fd.offset), none⟩), ?_, ?_⟩
        · simp only [Instr.fieldAt, Sem.run_bind, run_und (hX.und _ _ hu), Result.andThen_ok, hf, Instr.sureAddr, Sem.run_pure, fieldPlace, run_size' hX hs]
          simp [addr_add, Nat.add_assoc]
        · simp only [vrel]; exact ⟨b, base, us, cc, e, fz, rfl, h1, h2, h3⟩
      · cases h
    · cases h
  · cases h

theorem indexAddr_run {t : TypeId} {x i : AV} {v u : Value} {a : AV} (hx : vrel σ x v) (hi : vrel σ i u) (h : indexAddrA X t x i = some a) : PRun P w σ (Instr.indexAt t v u) a := by
  unfold indexAddrA at h
  split at h
  · rename_i k i
    have := vrel_int hi; subst this
    split at h
    · rename_i e b o len cap esz hu
      split at h
      · rename_i hlt
        split at h
        · rename_i n hs
          cases h
          obtain ⟨ad, c, rfl, hsl⟩ := vrel_sl hx
          obtain ⟨p, hp, hat, _⟩ := hsl.at_
          have hlen := hsl.len
          have hc : c ≠ 0 := by omega
          have := hat hc; subst this
          refine ⟨.pointer (some ⟨p.b, p.sh + (o + i.toNat * n), none⟩), ?_, ?_⟩
          · simp only [Instr.indexAt, asIntOf, Sem.run_bind, Sem.run_pure, Result.andThen_ok, run_und (hX.und _ _ hu), hlt, and_self, if_true, run_size' hX hs]
            simp [addr_add, Nat.add_assoc]
          · simp only [vrel]; exact ⟨p, hp, rfl⟩
        · cases h
      · cases h
    · rename_i len e b o hu
      split at h
      · rename_i hlt
        split at h
        · rename_i n hs
          cases h
          obtain ⟨p, hp, rfl⟩ := vrel_ptr hx
          refine ⟨.pointer (some ⟨p.b, p.sh + (o + i.toNat * n), none⟩), ?_, ?_⟩
          · simp only [Instr.indexAt, asIntOf, Sem.run_bind, Sem.run_pure, Result.andThen_ok, run_und (hX.und _ _ hu), Instr.sureAddr, hlt, and_self, if_true, run_size' hX hs]
            simp [addr_add, Nat.add_assoc]
          · simp only [vrel]; exact ⟨p, hp, rfl⟩
        · cases h
      · cases h
    · rename_i e es hu
      split at h
      · rename_i h0
        split at h
        · rename_i x n hget hs
          split at h
          · rename_i hxn
            cases h
            obtain ⟨a, c, us, rfl, hlc, hrel, hrow⟩ := vrel_fz hx
            obtain ⟨u, hu1, hu2⟩ := hrel.get _ _ hget
            have hlt : i.toNat < es.length := (List.getElem?_eq_some_iff.1 hget).1
            have hcell := vrel_cells hu2
            have hun : u.cells.size = n := by have := hcell.length; simpa [hxn.1] using this.symm
            rcases hrow with rfl | ⟨hsp, cc, ee, fz, m, g1, g2, g3, g4⟩
            · simp at hu1
            · have hm : u.cells.size = m := g3 u (List.mem_of_getElem? hu1)
              have hmn : m = n := by omega
              subst hmn
              have hne : ¬ (m = 0) := g2
              obtain ⟨ab, ao, asp⟩ := a
              simp only at hsp g1 g4
              subst hsp
              refine ⟨.pointer (some ⟨ab, ao + i.toNat * m + 0, none⟩), ?_, ?_⟩
              · have hlt' : 0 ≤ i ∧ i < (es.length : Int) := ⟨h0, by omega⟩
                simp only [Instr.indexAt, asIntOf, Sem.run_bind, Sem.run_pure, Result.andThen_ok, run_und (hX.und _ _ hu), hlt', and_self, if_true, run_size' hX hs]
                simp [addr_add]
              · simp only [vrel]
                refine ⟨ab, ao + i.toNat * m, u.cells.toList, cc, ee, fz, rfl, g1, hcell, fun j y hj => ?_⟩
                have hjm : j < m := by rw [← hm]; exact (List.getElem?_eq_some_iff.1 hj).1
                have := flat_get (fun u : Value => u.cells.toList) m us (fun u hu => by simpa using g3 u hu) i.toNat j u hu1 hjm
                rw [hj] at this
                rw [Nat.add_assoc]
                exact g4 _ _ this
          · cases h
        · cases h
      · cases h
    · rename_i len e c o hu
      split at h
      · rename_i hlt
        split at h
        · rename_i n hs
          cases h
          obtain ⟨b, base, us, cc, ee, fz, rfl, h1, h2, h3⟩ := vrel_fp hx
          refine ⟨.pointer (some ⟨b, base + (o + i.toNat * n), none⟩), ?_, ?_⟩
          · simp only [Instr.indexAt, asIntOf, Sem.run_bind, Sem.run_pure, Result.andThen_ok, run_und (hX.und _ _ hu), Instr.sureAddr, hlt, and_self, if_true, run_size' hX hs]
            simp [addr_add, Nat.add_assoc]
          · simp only [vrel]; exact ⟨b, base, us, cc, ee, fz, rfl, h1, h2, h3⟩
        · cases h
      · cases h
    · cases h
  · cases h

/-- a piece of an aggregate -/
theorem part_run {t : TypeId} {cs : List AV} {vs : Array Value} {off : Nat} {a : AV} (hv : vrels σ cs vs.toList) (h : partA X t cs off = some a) : PRun P w σ (part t vs off) a := by
  unfold partA at h
  split at h
  · rename_i hagg
    split at h
    · rename_i n hs
      split at h
      · rename_i r hr
        cases h
        refine ⟨.agg (vs.extract off (off + n)), ?_, ?_⟩
        · simp only [part, Sem.run_bind, run_isAgg' hX hagg, Result.andThen_ok, if_true, run_size' hX hs, Sem.run_pure]
        · simp only [vrel]
          refine ⟨_, rfl, ?_⟩
          obtain ⟨h1, h2⟩ := grab_spec hr
          have hlen := hv.length
          have hsz : off + n ≤ vs.size ∨ n = 0 := by
            by_cases hn : n = 0
            · exact .inr hn
            · have := (h2 (n - 1) (by omega)).2
              simp at hlen; left; omega
          apply vrels.of_get
          · simp [h1]; omega
          · intro i hi hi'
            have hin : i < n := by omega
            obtain ⟨h3, h4⟩ := h2 i hin
            obtain ⟨u, hu1, hu2⟩ := vrels.get hv (off + i) cs[off + i] (List.getElem?_eq_getElem h4)
            have e1 : r[i] = cs[off + i] := by
              rw [List.getElem?_eq_getElem hi, List.getElem?_eq_getElem h4] at h3
              exact Option.some.inj h3
            rw [e1]
            have e2 : (vs.extract off (off + n)).toList[i] = u := by
              have : off + i < vs.size := by simp at hlen; omega
              simp only [Array.getElem_toList, Array.getElem_extract]
              rw [Array.getElem?_toList, Array.getElem?_eq_getElem this] at hu1
              exact Option.some.inj hu1
            rw [e2]; exact hu2
      · cases h
    · cases h
  · rename_i hagg
    obtain ⟨u, hu1, hu2⟩ := vrels.get hv _ _ h
    refine ⟨u, ?_, hu2⟩
    rw [Array.getElem?_toList] at hu1
    simp only [part, Sem.run_bind, run_isAgg' hX hagg, Result.andThen_ok, Bool.false_eq_true, if_false, hu1, Sem.run_pure]
  · cases h

theorem index_run {t : TypeId} {x i : AV} {v u : Value} {a : AV} (hx : vrel σ x v) (hi : vrel σ i u) (h : indexA X t x i = some a) : PRun P w σ (Instr.index t v u) a := by
  unfold indexA at h
  split at h
  · rename_i k i
    have := vrel_int hi; subst this
    split at h
    · rename_i len e cs hu
      split at h
      · rename_i hlt
        split at h
        · rename_i n hs
          obtain ⟨vs, rfl, hvs⟩ := vrel_agg hx
          obtain ⟨r, hr1, hr2⟩ := part_run hX (w := w) hvs h
          refine ⟨r, ?_, hr2⟩
          simp only [Instr.index, asIntOf, Sem.run_bind, Sem.run_pure, Result.andThen_ok, run_und (hX.und _ _ hu), hlt, and_self, if_true, run_size' hX hs, hr1]
        · cases h
      · cases h
    · rename_i b hu
      split at h
      · rename_i h0
        split at h
        · rename_i c hc
          cases h
          obtain ⟨bs, rfl, rfl⟩ := vrel_str hx
          refine ⟨.int .u8 c.toNat, ?_, by simp [vrel]⟩
          have hlt : i.toNat < bs.size := by
            have := (List.getElem?_eq_some_iff.1 hc).1
            rw [Array.length_toList] at this
            exact this
          have hb : bs[i.toNat]? = some c := by
            rw [ByteArray.getElem?_lt' _ _ hlt]
            obtain ⟨h1, h2⟩ := List.getElem?_eq_some_iff.1 hc
            simpa [ByteArray.getElem_eq_getElem_data] using h2
          simp only [Instr.index, asIntOf, Sem.run_bind, Sem.run_pure, Result.andThen_ok, run_und (hX.und _ _ hu), h0, if_true, hb]
        · cases h
      · cases h
    · cases h
  · cases h

theorem field_run {t : TypeId} {fs : Array Field} {cs : List AV} {v : Value} {f : Nat} {fd : Field} {a : AV} (hu : X.und t = some (.struct fs)) (hx : vrel σ (.agg cs) v) (hf : fs[f]? = some fd) (h : partA X fd.type cs fd.offset = some a) :
    PRun P w σ (Instr.field t v f) a := by
  obtain ⟨vs, rfl, hvs⟩ := vrel_agg hx
  obtain ⟨r, hr1, hr2⟩ := part_run hX (w := w) hvs h
  refine ⟨r, ?_, hr2⟩
  simp only [Instr.field, Sem.run_bind, run_und (hX.und _ _ hu), Result.andThen_ok, hf, asAgg, Sem.run_pure, hr1]

omit hX in
theorem extract_run {vs : List AV} {v : Value} {i : Nat} {a : AV} (hx : vrel σ (.tup vs) v) (h : vs[i]? = some a) : PRun P w σ (Instr.extract v i) a := by
  obtain ⟨us, rfl, hus⟩ := vrel_tup hx
  obtain ⟨u, hu1, hu2⟩ := vrels.get hus _ _ h
  rw [Array.getElem?_toList] at hu1
  exact ⟨u, by simp [Instr.extract, hu1], hu2⟩

end

end Go.Am
namespace Go.Am
open Go
section
variable [Stat] {X : Cx} {P : Program} (hX : CxOk X P) {w : World} {σ : Sg}

theorem bytes_beq (a b : ByteArray) : (a == b) = (a.data.toList == b.data.toList) := by
  rw [beq_toListBytes, ByteArray.toList_eq, ByteArray.toList_eq]

/-- the cells of two arrays, one by one -/
def eqElemsC (d : Nat) (elem : TypeId) (n : Nat) (xs ys : Array Value) : List Nat → Sem Bool
  | [] => pure true
  | i :: l => do
    let a ← part elem xs (i * n)
    let b ← part elem ys (i * n)
    let r ← Op.equalIn d elem a b
    if (!r) = true then pure false else eqElemsC d elem n xs ys l

theorem run_equalIn_array {d : Nat} {t : TypeId} {len : Nat} {elem : TypeId} {n : Nat} {xs ys : Array Value} (ht : P.underlying t = some (.array len elem))
    (hs : ∀ w, (sizeOf elem).run P w = .ok n w) : (Op.equalIn (d + 1) t (.agg xs) (.agg ys)).run P w = (eqElemsC d elem n xs ys (List.range' 0 len)).run P w := by
  simp only [Op.equalIn, Sem.run_bind, run_und ht, Result.andThen_ok, hs]
  rw [Std.Legacy.Range.forIn_eq_forIn_range']
  simp only [Std.Legacy.Range.size, Nat.sub_zero, Nat.add_sub_cancel, Nat.div_one]
  generalize List.range' 0 len = l
  induction l generalizing w with
  | nil => simp [eqElemsC]
  | cons i l ih =>
    simp only [List.forIn_cons, eqElemsC, Sem.run_bind, Sem.run_ite]
    generalize (part elem xs (i * n)).run P w = r1
    cases r1 with
    | halt x w1 => simp [Result.andThen]
    | ok a w1 =>
      simp only [Result.andThen_ok]
      generalize (part elem ys (i * n)).run P w1 = r2
      cases r2 with
      | halt x w1 => simp [Result.andThen]
      | ok b w2 =>
        simp only [Result.andThen_ok]
        generalize (Op.equalIn d elem a b).run P w2 = r3
        cases r3 with
        | halt x w1 => simp [Result.andThen]
        | ok r w3 =>
          cases r
          · simp only [Result.andThen_ok, Bool.not_false, if_true, Sem.run_pure]
          · simp only [Result.andThen_ok, Bool.not_true, Bool.false_eq_true, if_false, Sem.run_pure]
            exact ih

include hX

set_option maxHeartbeats 2000000 in
theorem eqT_run : ∀ (d : Nat) (t : TypeId) (x y : AV) (b : Bool), eqT X d t x y = some b → ∀ (u v : Value), vrel σ x u → vrel σ y v → ∀ D, d ≤ D → ∀ w, (Op.equalIn D t u v).run P w = .ok b w := by
  intro d
  induction d with
  | zero => intro t x y b h; simp [eqT] at h
  | succ d ih =>
    intro t x y b h u v hu hv D hD w
    obtain ⟨D, rfl⟩ : ∃ D', D = D' + 1 := ⟨D - 1, by omega⟩
    have hD' : d ≤ D := by omega
    unfold eqT at h
    split at h <;> try (cases h; done)
    · rename_i ht
      cases h; rw [vrel_bool hu, vrel_bool hv]
      exact run_equalIn_bool w D t _ _ (hX.und _ _ ht)
    · rename_i k1 k a k' b' ht
      split at h
      · rename_i hk; cases h; rw [vrel_int hu, vrel_int hv]; subst hk
        exact run_equalIn_int w D t _ _ _ _ (hX.und _ _ ht)
      · cases h
    · rename_i a b' ht
      cases h
      obtain ⟨p, rfl, rfl⟩ := vrel_str hu
      obtain ⟨q, rfl, rfl⟩ := vrel_str hv
      rw [run_equalIn_string w D t _ _ (hX.und _ _ ht), ByteArray.toList_eq, ByteArray.toList_eq]
    · rename_i e ht
      cases h; simp only [vrel] at hu hv; subst hu; subst hv
      simp [Op.equalIn, run_und (hX.und _ _ ht)]
    · rename_i e b o ht
      cases h; obtain ⟨p, _, rfl⟩ := vrel_ptr hv; simp only [vrel] at hu; subst hu
      simp [Op.equalIn, run_und (hX.und _ _ ht)]
    · rename_i e b o ht
      cases h; obtain ⟨p, _, rfl⟩ := vrel_ptr hu; simp only [vrel] at hv; subst hv
      simp [Op.equalIn, run_und (hX.und _ _ ht)]
    · rename_i e b1 o1 b2 o2 ht
      split at h
      · rename_i n hs
        split at h
        · rename_i hb
          subst hb; cases h
          obtain ⟨p, hp, rfl⟩ := vrel_ptr hu
          obtain ⟨q, hq, rfl⟩ := vrel_ptr hv
          rw [hp] at hq; cases hq
          simp only [Op.equalIn, Sem.run_bind, run_und (hX.und _ _ ht), Result.andThen_ok, run_size' hX hs]
          have hn : n.succ ≠ 0 := Nat.succ_ne_zero n
          rw [if_pos hn]
          simp only [sameAddr, beq_self_eq_true, if_true]
          show Result.ok (({ block := p.b, off := p.sh + o1 } : Addr) == { block := p.b, off := p.sh + o2 }) w = Result.ok (o1 == o2) w
          congr 1
          rw [Bool.eq_iff_iff]
          simp
        · cases h
      · cases h
    all_goals first
      | (rename_i ht; split at h <;> cases h <;> (rename_i hab; subst hab; simp only [vrel] at hu hv; obtain ⟨p, hp, rfl⟩ := hu; obtain ⟨q, hq, rfl⟩ := hv; rw [hp] at hq; cases hq; simp [Op.equalIn, run_und (hX.und _ _ ht)]); done)
      | (rename_i ht; cases h; simp only [vrel] at hu hv; subst hu; subst hv; simp [Op.equalIn, run_und (hX.und _ _ ht)]; done)
      | (rename_i ht; cases h; simp only [vrel] at hu hv; obtain ⟨_, _, rfl, _⟩ := hu; subst hv; simp [Op.equalIn, run_und (hX.und _ _ ht)]; done)
      | (rename_i ht; cases h; simp only [vrel] at hu hv; obtain ⟨_, _, rfl, _⟩ := hv; subst hu; simp [Op.equalIn, run_und (hX.und _ _ ht)]; done)
      | (rename_i ht; cases h; simp only [vrel] at hu hv; obtain ⟨_, _, rfl⟩ := hu; subst hv; simp [Op.equalIn, run_und (hX.und _ _ ht)]; done)
      | (rename_i ht; cases h; simp only [vrel] at hu hv; obtain ⟨_, _, rfl⟩ := hv; subst hu; simp [Op.equalIn, run_und (hX.und _ _ ht)]; done)
      | (rename_i ht; cases h; simp only [vrel] at hu hv; obtain ⟨_, _, _, rfl, _⟩ := hu; subst hv; simp [Op.equalIn, run_und (hX.und _ _ ht)]; done)
      | (rename_i ht; cases h; simp only [vrel] at hu hv; obtain ⟨_, _, _, rfl, _⟩ := hv; subst hu; simp [Op.equalIn, run_und (hX.und _ _ ht)]; done)
      | (rename_i ht; cases h; simp only [vrel] at hu hv; obtain ⟨_, rfl, _⟩ := hu; subst hv; simp [Op.equalIn, run_und (hX.und _ _ ht)]; done)
      | (rename_i ht; cases h; simp only [vrel] at hu hv; obtain ⟨_, rfl, _⟩ := hv; subst hu; simp [Op.equalIn, run_und (hX.und _ _ ht)]; done)
      | skip
    · -- structs
      rename_i fs a b' ht
      split at h
      · rename_i hok
        obtain ⟨us, rfl, hus⟩ := vrel_agg hu
        obtain ⟨vs, rfl, hvs⟩ := vrel_agg hv
        have hfo : P.fieldsOf t = fs := by unfold Program.fieldsOf; rw [hX.und _ _ ht]
        rw [run_equalIn_struct w D t us vs (by rw [hfo]; exact hX.und _ _ ht) (hX.eqOk _ hok).2, hfo]
        generalize fs.toList = l at h
        clear hfo ht
        induction l generalizing w with
        | nil => simp only [eqFieldsA] at h; cases h; simp [Op.eqFields]
        | cons f l ihl =>
          simp only [eqFieldsA] at h
          split at h
          · cases h
          · rename_i hn
            split at h
            · rename_i x1 y1 h1 h2
              obtain ⟨x2, hx1, hx2⟩ := part_run hX (w := w) hus h1
              obtain ⟨y2, hy1, hy2⟩ := part_run hX (w := w) hvs h2
              simp only [Op.eqFields, ne_eq, hn, not_false_eq_true, if_true, Sem.run_bind, hx1, Result.andThen_ok, hy1]
              split at h
              · rename_i he
                rw [ih _ _ _ _ he _ _ hx2 hy2 D hD' w]
                simp only [Result.andThen_ok, Bool.not_true, Bool.false_eq_true, if_false]
                exact ihl w h
              · rename_i he
                cases h
                rw [ih _ _ _ _ he _ _ hx2 hy2 D hD' w]
                simp
              · cases h
            · cases h
      · cases h
    · -- arrays
      rename_i len e a b' ht
      split at h
      · rename_i n hs
        obtain ⟨us, rfl, hus⟩ := vrel_agg hu
        obtain ⟨vs, rfl, hvs⟩ := vrel_agg hv
        rw [run_equalIn_array (hX.und _ _ ht) (fun w => run_size' hX hs)]
        clear ht
        generalize 0 = i at h
        induction len generalizing w i with
        | zero => simp only [eqElems] at h; cases h; simp [eqElemsC]
        | succ len ihl =>
          simp only [eqElems] at h
          split at h
          · rename_i x1 y1 h1 h2
            obtain ⟨x2, hx1, hx2⟩ := part_run hX (w := w) hus h1
            obtain ⟨y2, hy1, hy2⟩ := part_run hX (w := w) hvs h2
            rw [List.range'_succ]
            simp only [eqElemsC, Sem.run_bind, hx1, Result.andThen_ok, hy1]
            split at h
            · rename_i he
              rw [ih _ _ _ _ he _ _ hx2 hy2 D hD' w]
              simp only [Result.andThen_ok, Bool.not_true, Bool.false_eq_true, if_false]
              exact ihl w _ h
            · rename_i he
              cases h
              rw [ih _ _ _ _ he _ _ hx2 hy2 D hD' w]
              simp
            · cases h
          · cases h
      · cases h

end

end Go.Am
namespace Go.Am
open Go
section
variable [Stat] {X : Cx} {P : Program} (hX : CxOk X P) {w : World} {σ : Sg}

theorem bytesLt_eq (a b : List UInt8) : bytesLt a b = Op.bytesLess a b := by
  induction a generalizing b with
  | nil => cases b <;> simp [bytesLt, Op.bytesLess]
  | cons x a ih => cases b with
    | nil => simp [bytesLt, Op.bytesLess]
    | cons y b => simp [bytesLt, Op.bytesLess, ih]

theorem intA_run {op : BinOp} {t : TypeId} {k : IntKind} {a b : Int} {r : AV} (h : intA op k a b = some r) : PRun P w σ (binOp op t (.int k a) (.int k b)) r := by
  cases op <;> simp only [intA] at h <;> try (cases h; done)
  all_goals first
    | (cases h; exact ⟨_, by simp [binOp, Op.intArith, Op.intCmp, Op.intBits]; rfl, by simp [vrel]⟩)
    | (split at h
       · cases h
       · rename_i hb; cases h
         exact ⟨_, by simp [binOp, Op.intDiv, hb]; rfl, by simp [vrel]⟩)

theorem shiftA_run {op : BinOp} {t : TypeId} {k yk : IntKind} {a b : Int} {r : AV} (ho : op = .shl ∨ op = .shr) (h : shiftA op k a b = some r) : PRun P w σ (binOp op t (.int k a) (.int yk b)) r := by
  unfold shiftA at h
  split at h
  · cases h
  · rename_i hb
    rcases ho with rfl | rfl
    · cases h; exact ⟨_, by simp [binOp, Op.shift, hb]; rfl, by simp [vrel]⟩
    · cases h; exact ⟨_, by simp [binOp, Op.shift, hb]; rfl, by simp [vrel]⟩

theorem strA_run {op : BinOp} {t : TypeId} {a b : ByteArray} {r : AV} (h : strA op a.data.toList b.data.toList = some r) : PRun P w σ (binOp op t (.string a) (.string b)) r := by
  cases op <;> simp only [strA] at h <;> try (cases h; done)
  case add =>
    split at h
    · rename_i hlt
      cases h
      refine ⟨.string (a ++ b), ?_, ?_⟩
      · have h1 : a.size = a.data.toList.length := by rw [Array.length_toList]; rfl
        have h2 : b.size = b.data.toList.length := by rw [Array.length_toList]; rfl
        have : ¬ ((a.size + b.size : Nat) : Int) > IntKind.i64.max := by rw [h1, h2, IntKind.max_i64]; omega
        simp only [binOp, Op.stringOp, this, if_false, Sem.run_pure]
      · simp only [vrel]; exact ⟨_, rfl, by simp [ByteArray.data_append]⟩
    · cases h
  all_goals
    cases h
    exact ⟨_, by simp only [binOp, Op.stringOp, Sem.run_pure]; rfl, by simp [vrel, bytesLt_eq, ByteArray.toList_eq]⟩

theorem vrel_flt {k : FloatKind} {n : Nat} {v : Value} (h : vrel σ (.flt k n) v) : v = .float k n := by simpa only [vrel] using h
theorem fltA_run {op : BinOp} {t : TypeId} {k : FloatKind} {a b : Nat} {r : AV} (h : fltA op k a b = some r) : PRun P w σ (binOp op t (.float k a) (.float k b)) r := by
  cases op <;> simp only [fltA] at h <;> try (cases h; done)
  all_goals first
    | (cases h; exact ⟨_, by simp [binOp, Op.floatCmp]; rfl, by simp [vrel]⟩)
    | (obtain ⟨q, hq, rfl⟩ := Option.map_eq_some_iff.1 h
       exact ⟨.float k q, by simp [binOp, Op.floatArith, hq], by simp [vrel]⟩)

theorem eqGuard_run_other {op : BinOp} {t : TypeId} {xo yo : Operand} {u v : Value} (h1 : ¬ (u = .nilIface ∧ v = .nilIface)) (h2 : ∀ a b, ¬ (u = .agg a ∧ v = .agg b)) : (eqGuard op t xo yo u v).run P w = .ok () w := by
  have : eqGuard op t xo yo u v = pure () := by
    cases u
    case nilIface => cases v <;> first | (exact absurd ⟨rfl, rfl⟩ h1) | (cases op <;> rfl)
    case agg a => cases v <;> first | (exact absurd ⟨rfl, rfl⟩ (h2 _ _)) | (cases op <;> rfl)
    all_goals (cases op <;> rfl)
  rw [this]; rfl

theorem inv_int {x : AV} {k : IntKind} {n : Int} (h : vrel σ x (.int k n)) : x = .int k n := by
  cases x <;> simp only [vrel] at h <;> first | (cases h; rfl) | (cases h; done) | (obtain ⟨_, h, _⟩ := h; cases h; done) | (obtain ⟨_, _, h⟩ := h; cases h; done) | (obtain ⟨_, _, h, _⟩ := h; cases h; done) | (obtain ⟨_, _, _, h, _⟩ := h; cases h; done) | (obtain ⟨_, _, _, _, _, _, h, _⟩ := h; cases h; done)
theorem inv_flt {x : AV} {k : FloatKind} {n : Nat} (h : vrel σ x (.float k n)) : x = .flt k n := by
  cases x <;> simp only [vrel] at h <;> first | (cases h; rfl) | (cases h; done) | (obtain ⟨_, h, _⟩ := h; cases h; done) | (obtain ⟨_, _, h⟩ := h; cases h; done) | (obtain ⟨_, _, h, _⟩ := h; cases h; done) | (obtain ⟨_, _, _, h, _⟩ := h; cases h; done) | (obtain ⟨_, _, _, _, _, _, h, _⟩ := h; cases h; done)
theorem inv_complex {x : AV} {k : FloatKind} {n m : Nat} (h : vrel σ x (.complex k n m)) : False := by
  cases x <;> simp only [vrel] at h <;> first | (cases h; done) | (obtain ⟨_, h, _⟩ := h; cases h; done) | (obtain ⟨_, _, h⟩ := h; cases h; done) | (obtain ⟨_, _, h, _⟩ := h; cases h; done) | (obtain ⟨_, _, _, h, _⟩ := h; cases h; done) | (obtain ⟨_, _, _, _, _, _, h, _⟩ := h; cases h; done)
theorem inv_str {x : AV} {s : ByteArray} (h : vrel σ x (.string s)) : x = .str s.data.toList := by
  cases x <;> simp only [vrel] at h <;> first | (cases h; done) | (obtain ⟨_, h, e⟩ := h; cases h; rw [← e]; done) | (obtain ⟨_, h, _⟩ := h; cases h; done) | (obtain ⟨_, _, h⟩ := h; cases h; done) | (obtain ⟨_, _, h, _⟩ := h; cases h; done) | (obtain ⟨_, _, _, h, _⟩ := h; cases h; done) | (obtain ⟨_, _, _, _, _, _, h, _⟩ := h; cases h; done)
theorem inv_nili {x : AV} (h : vrel σ x .nilIface) : x = .nili := by
  cases x <;> simp only [vrel] at h <;> first | rfl | (cases h; done) | (obtain ⟨_, h, _⟩ := h; cases h; done) | (obtain ⟨_, _, h⟩ := h; cases h; done) | (obtain ⟨_, _, h, _⟩ := h; cases h; done) | (obtain ⟨_, _, _, h, _⟩ := h; cases h; done) | (obtain ⟨_, _, _, _, _, _, h, _⟩ := h; cases h; done)
theorem inv_agg {x : AV} {a : Array Value} (h : vrel σ x (.agg a)) : ∃ c, x = .agg c := by
  cases x <;> simp only [vrel] at h <;> first | exact ⟨_, rfl⟩ | (cases h; done) | (obtain ⟨_, h, _⟩ := h; cases h; done) | (obtain ⟨_, _, h⟩ := h; cases h; done) | (obtain ⟨_, _, h, _⟩ := h; cases h; done) | (obtain ⟨_, _, _, h, _⟩ := h; cases h; done) | (obtain ⟨_, _, _, _, _, _, h, _⟩ := h; cases h; done)

theorem binOp_eql_other {t : TypeId} {u v : Value} (h1 : ∀ k a j b, ¬ (u = .int k a ∧ v = .int j b)) (h2 : ∀ a b, ¬ (u = .string a ∧ v = .string b)) (h3 : ∀ k a j b, ¬ (u = .float k a ∧ v = .float j b)) (h4 : ∀ k a c, u ≠ .complex k a c) :
    binOp .eql t u v = (do pure (.bool (← Op.equal t u v))) ∧ binOp .neq t u v = (do pure (.bool (!(← Op.equal t u v)))) := by
  cases u <;> cases v <;> first
    | (exact ⟨rfl, rfl⟩)
    | (exact absurd ⟨rfl, rfl⟩ (h1 _ _ _ _))
    | (exact absurd ⟨rfl, rfl⟩ (h2 _ _))
    | (exact absurd ⟨rfl, rfl⟩ (h3 _ _ _ _))
    | (exact absurd rfl (h4 _ _ _))

include hX

theorem eqTop_run {cst : Bool} {t : TypeId} {x y : AV} {b : Bool} {u v : Value} {xo yo : Operand} (hc : cst = (isConstO xo || isConstO yo)) (hu : vrel σ x u) (hv : vrel σ y v) (h : eqTop X cst t x y = some b) (op : BinOp) :
    (eqGuard op t xo yo u v).run P w = .ok () w ∧ (Op.equal t u v).run P w = .ok b w := by
  unfold eqTop at h
  split at h
  · split at h
    · rename_i hcst
      have hu' := hu; have hv' := hv
      simp only [vrel] at hu' hv'; subst hu'; subst hv'
      refine ⟨?_, eqT_run hX _ _ _ _ _ h _ _ hu hv 10000 (by omega) w⟩
      rw [hc] at hcst
      cases xo <;> cases yo <;> simp [isConstO] at hcst <;> first
        | (rw [eqGuard_nil_constL]; rfl)
        | (rw [eqGuard_nil_constR]; rfl)
    · cases h
  · split at h
    · rename_i hok
      obtain ⟨us, hu1, _⟩ := vrel_agg hu
      obtain ⟨vs, hv1, _⟩ := vrel_agg hv
      subst hu1; subst hv1
      exact ⟨run_eqGuard_agg w op t xo yo us vs (hX.eqOk _ hok).1, eqT_run hX _ _ _ _ _ h _ _ hu hv 10000 (by omega) w⟩
    · cases h
  · rename_i h1 h2
    refine ⟨eqGuard_run_other ?_ ?_, eqT_run hX _ _ _ _ _ h _ _ hu hv 10000 (by omega) w⟩
    · rintro ⟨rfl, rfl⟩
      exact h1 (inv_nili hu) (inv_nili hv)
    · rintro a b' ⟨rfl, rfl⟩
      obtain ⟨c, rfl⟩ := inv_agg hu
      obtain ⟨d, rfl⟩ := inv_agg hv
      exact h2 c d rfl rfl

theorem binA_run {op : BinOp} {cst : Bool} {t : TypeId} {x y r : AV} {u v : Value} {xo yo : Operand} (hc : cst = (isConstO xo || isConstO yo)) (hu : vrel σ x u) (hv : vrel σ y v) (h : binA X op t cst x y = some r) :
    PRun P w σ (do eqGuard op t xo yo u v; binOp op t u v) r := by
  unfold binA at h
  split at h
  · rw [vrel_int hu, vrel_int hv]
    obtain ⟨q, hq, hr⟩ := shiftA_run (P := P) (w := w) (σ := σ) (t := t) (.inl rfl) h
    exact ⟨q, by simpa [eqGuard_shl] using hq, hr⟩
  · rw [vrel_int hu, vrel_int hv]
    obtain ⟨q, hq, hr⟩ := shiftA_run (P := P) (w := w) (σ := σ) (t := t) (.inr rfl) h
    exact ⟨q, by simpa [eqGuard_shr] using hq, hr⟩
  · rename_i op k a k' b h1 h2
    split at h
    · rename_i hk; subst hk
      rw [vrel_int hu, vrel_int hv]
      obtain ⟨q, hq, hr⟩ := intA_run (P := P) (w := w) (σ := σ) (t := t) h
      exact ⟨q, by simpa [eqGuard_at_int] using hq, hr⟩
    · cases h
  · obtain ⟨p, rfl, rfl⟩ := vrel_str hu
    obtain ⟨q, rfl, rfl⟩ := vrel_str hv
    obtain ⟨q, hq, hr⟩ := strA_run (P := P) (w := w) (σ := σ) (t := t) h
    exact ⟨q, by simpa [eqGuard_at_string] using hq, hr⟩
  · rename_i op k a k' b h1 h2
    split at h
    · rename_i hk; subst hk
      rw [vrel_flt hu, vrel_flt hv]
      obtain ⟨q, hq, hr⟩ := fltA_run (P := P) (w := w) (σ := σ) (t := t) h
      refine ⟨q, ?_, hr⟩
      rw [Sem.run_bind, eqGuard_run_other (fun h => by cases h.1) (fun a b h => by cases h.1)]
      simpa using hq
    · cases h
  · rename_i hni hns hnf
    split at h
    · rename_i b hb
      cases h
      obtain ⟨g1, g2⟩ := eqTop_run hX (w := w) (xo := xo) (yo := yo) hc hu hv hb .eql
      obtain ⟨e1, e2⟩ := binOp_eql_other (t := t) (u := u) (v := v)
        (by rintro k a j b' ⟨rfl, rfl⟩; exact hni _ _ _ _ (inv_int hu) (inv_int hv))
        (by rintro a b' ⟨rfl, rfl⟩; exact hns _ _ (inv_str hu) (inv_str hv))
        (by rintro k a j b' ⟨rfl, rfl⟩; exact hnf _ _ _ _ (inv_flt hu) (inv_flt hv))
        (by rintro k a c rfl; exact inv_complex hu)
      refine ⟨.bool b, ?_, by simp [vrel]⟩
      simp only [Sem.run_bind, g1, Result.andThen_ok, e1, g2, Sem.run_pure]
    · cases h
  · rename_i hni hns hnf
    split at h
    · rename_i b hb
      cases h
      obtain ⟨g1, g2⟩ := eqTop_run hX (w := w) (xo := xo) (yo := yo) hc hu hv hb .neq
      obtain ⟨e1, e2⟩ := binOp_eql_other (t := t) (u := u) (v := v)
        (by rintro k a j b' ⟨rfl, rfl⟩; exact hni _ _ _ _ (inv_int hu) (inv_int hv))
        (by rintro a b' ⟨rfl, rfl⟩; exact hns _ _ (inv_str hu) (inv_str hv))
        (by rintro k a j b' ⟨rfl, rfl⟩; exact hnf _ _ _ _ (inv_flt hu) (inv_flt hv))
        (by rintro k a c rfl; exact inv_complex hu)
      refine ⟨.bool !b, ?_, by simp [vrel]⟩
      simp only [Sem.run_bind, g1, Result.andThen_ok, e2, g2, Sem.run_pure]
    · cases h
  · cases h

omit hX in
theorem unA_run {op : UnOp} {x r : AV} {u : Value} (hu : vrel σ x u) (h : unA op x = some r) : PRun P w σ (Op.unary op u) r := by
  unfold unA at h
  split at h
  · rw [vrel_int hu]; cases h
    exact ⟨_, by simp [Op.unary, Op.intArith]; rfl, by simp [vrel]⟩
  · rw [vrel_int hu]
    simp only [intA] at h; cases h
    exact ⟨_, by simp [Op.unary, Op.intBits]; rfl, by simp [vrel]⟩
  · rw [vrel_bool hu]; cases h
    exact ⟨_, by simp [Op.unary]; rfl, by simp [vrel]⟩
  · cases h

end

end Go.Am
namespace Go.Am
open Go
section
variable [Stat] {X : Cx} {P : Program} (hX : CxOk X P) {w : World} {σ : Sg}

theorem boundA_run {x : Option AV} {xv : Option Value} {dflt y r : Nat} (hx : match x, xv with | none, none => True | some a, some v => vrel σ a v | _, _ => False) (h : boundA x dflt y = some r) :
    (x = none ∧ xv = none ∧ r = dflt) ∨ ∃ k i, xv = some (.int k i) ∧ 0 ≤ i ∧ i ≤ (y : Int) ∧ r = i.toNat ∧ r ≤ y ∧ ∃ k', x = some (.int k' i) := by
  unfold boundA at h
  split at h
  · cases xv with
    | none => cases h; exact .inl ⟨rfl, rfl, rfl⟩
    | some v => exact hx.elim
  · rename_i k i
    split at h
    · rename_i hi
      cases xv with
      | none => exact hx.elim
      | some v =>
        have := vrel_int (σ := σ) hx; subst this
        cases h
        exact .inr ⟨k, i, rfl, hi.1, hi.2, rfl, by omega, _, rfl⟩
    · cases h
  · cases h

/-- an operand that may be missing -/
def orel (σ : Sg) : Option AV → Option Value → Prop
  | none, none => True
  | some a, some v => vrel σ a v
  | _, _ => False

theorem boundA_run' {x : Option AV} {xv : Option Value} {dflt y r : Nat} (hx : orel σ x xv) (h : boundA x dflt y = some r) :
    (x = none ∧ xv = none ∧ r = dflt) ∨ ∃ k i, xv = some (.int k i) ∧ 0 ≤ i ∧ i ≤ (y : Int) ∧ r = i.toNat ∧ r ≤ y ∧ ∃ k', x = some (.int k' i) := by
  refine boundA_run (σ := σ) ?_ h
  cases x <;> cases xv <;> exact hx

theorem bound_none {P : Program} {w : World} {isSlice : Bool} {len cap : Nat} {lo hi : Option AV} {lv hv : Option Value} {h l top : Nat} (hlo : orel σ lo lv) (hhi : orel σ hi hv) (hb : boundA hi len top = some h) (lb : boundA lo 0 h = some l)
    (htop : top ≤ cap) (hl : len ≤ cap) : (Instr.sliceBounds isSlice len cap lv hv none).run P w = .ok (l, h, cap) w ∧ l ≤ h ∧ h ≤ cap := by
  rcases boundA_run' hhi hb with ⟨rfl, rfl, rfl⟩ | ⟨k, i, rfl, h0, h1, rfl, h2, k', rfl⟩
  · rcases boundA_run' hlo lb with ⟨rfl, rfl, rfl⟩ | ⟨kl, j, rfl, g0, g1, rfl, g2, kl', rfl⟩
    · simp [Instr.sliceBounds, hl]
    · simp [Instr.sliceBounds, Instr.sliceBound, asIntOf, g0, g1, hl, g2]
  · have h3 : i ≤ (cap : Int) := by omega
    have h4 : i.toNat ≤ cap := by omega
    have h5 : (i.toNat : Int) = i := Int.toNat_of_nonneg h0
    rcases boundA_run' hlo lb with ⟨rfl, rfl, rfl⟩ | ⟨kl, j, rfl, g0, g1, rfl, g2, kl', rfl⟩
    · simp [Instr.sliceBounds, Instr.sliceBound, asIntOf, h0, h3]
    · rw [h5] at g1
      have g3 : j.toNat ≤ i.toNat := by omega
      simp only [Instr.sliceBounds, Instr.sliceBound, asIntOf, Sem.run_bind, Sem.run_pure, Result.andThen_ok, h0, h3, g0, g1, h5, and_self, if_true]
      exact ⟨trivial, g3, h4⟩

theorem extract_toList (bs : ByteArray) (l h : Nat) : (bs.extract l h).data.toList = (bs.data.toList.take h).drop l := by
  rw [ByteArray.data_extract, Array.toList_extract, List.extract_eq_take_drop, List.take_drop]
  by_cases hlh : l ≤ h
  · rw [show l + (h - l) = h from by omega]
  · rw [show h - l = 0 from by omega]
    simp only [Nat.add_zero]
    rw [List.drop_eq_nil_of_le, List.drop_eq_nil_of_le]
    · rw [List.length_take]; omega
    · rw [List.length_take]; omega

theorem flat_take {α β : Type} (f : α → List β) (n : Nat) : ∀ (l : List α), (∀ u ∈ l, (f u).length = n) → ∀ k, (l.take k).flatMap f = (l.flatMap f).take (k * n)
  | [], _, k => by simp
  | x :: l, hl, 0 => by simp
  | x :: l, hl, k + 1 => by
    have hx := hl x (List.mem_cons_self ..)
    rw [List.take_succ_cons, List.flatMap_cons, List.flatMap_cons, flat_take f n l (fun u hu => hl u (List.mem_cons_of_mem _ hu)) k, List.take_append, hx,
      show (k + 1) * n - n = k * n by rw [Nat.add_mul]; omega, List.take_of_length_le (l := f x) (by rw [hx, Nat.add_mul]; omega)]

theorem flat_drop {α β : Type} (f : α → List β) (n : Nat) : ∀ (l : List α), (∀ u ∈ l, (f u).length = n) → ∀ k, (l.drop k).flatMap f = (l.flatMap f).drop (k * n)
  | [], _, k => by simp
  | x :: l, hl, 0 => by simp
  | x :: l, hl, k + 1 => by
    have hx := hl x (List.mem_cons_self ..)
    rw [List.drop_succ_cons, List.flatMap_cons, flat_drop f n l (fun u hu => hl u (List.mem_cons_of_mem _ hu)) k, List.drop_append, hx,
      show (k + 1) * n - n = k * n by rw [Nat.add_mul]; omega, List.drop_eq_nil_of_le (as := f x) (by rw [hx, Nat.add_mul]; omega), List.nil_append]

theorem vrels.take {σ : Sg} : ∀ {x : List AV} {l : List Value}, vrels σ x l → ∀ k, vrels σ (x.take k) (l.take k)
  | [], l, h, k => by simp only [vrels] at h; simp [h, vrels]
  | a :: x, l, h, 0 => by simp [vrels]
  | a :: x, l, h, k + 1 => by
    simp only [vrels] at h
    obtain ⟨v, y, rfl, h1, h2⟩ := h
    simp only [List.take_succ_cons, vrels]
    exact ⟨v, y.take k, rfl, h1, h2.take k⟩
theorem vrels.drop {σ : Sg} : ∀ {x : List AV} {l : List Value}, vrels σ x l → ∀ k, vrels σ (x.drop k) (l.drop k)
  | [], l, h, k => by simp only [vrels] at h; simp [h, vrels]
  | a :: x, l, h, 0 => by simpa using h
  | a :: x, l, h, k + 1 => by
    simp only [vrels] at h
    obtain ⟨v, y, rfl, h1, h2⟩ := h
    simpa using h2.drop k

theorem boundA_le {x : Option AV} {d y r : Nat} (h : boundA x d y = some r) (hd : d ≤ y := by exact Nat.le_refl _) : r ≤ y := by
  unfold boundA at h
  split at h
  · cases h; exact hd
  · split at h
    · cases h; omega
    · cases h
  · cases h

include hX

theorem sliceA_run {t : TypeId} {x r : AV} {v : Value} {lo hi mx : Option AV} {lv hv mv : Option Value} (hx : vrel σ x v) (hlo : orel σ lo lv) (hhi : orel σ hi hv) (hmx : orel σ mx mv) (h : sliceA X t x lo hi mx = some r) :
    PRun P w σ (Instr.sliceAt t v lv hv mv) r := by
  unfold sliceA at h
  split at h
  · -- a string
    rename_i b hu
    obtain ⟨bs, rfl, rfl⟩ := vrel_str hx
    split at h
    · rename_i h' hb
      split at h
      · rename_i l hl
        cases h
        cases mv with
        | some _ => exact hmx.elim
        | none =>
          have hsz : bs.data.toList.length = bs.size := by rw [Array.length_toList]; rfl
          rw [hsz] at hb
          obtain ⟨e, e1, e2⟩ := bound_none (P := P) (w := w) (isSlice := false) hlo hhi hb hl (Nat.le_refl _) (Nat.le_refl _)
          refine ⟨.string (bs.extract l h'), ?_, ?_⟩
          · simp [Instr.sliceAt, Instr.slice, run_und (hX.und _ _ hu), e]
          · simp only [vrel]; exact ⟨_, rfl, extract_toList _ _ _⟩
      · cases h
    · cases h
  · -- a slice
    rename_i el b o len cap esz hu
    obtain ⟨a, c, rfl, hlen, ⟨p, hp, ha, hbd⟩, hcap, hrm⟩ := vrel_sl hx
    have htop : cap.getD len ≤ c := by
      cases cap with
      | none => exact hlen
      | some k => exact Nat.le_of_eq (hcap k rfl).symm
    have bd : ∀ (n l m : Nat), l ≤ m → m ≤ c → (if esz = n then n else 0) ≠ 0 → p.sh + (o + l * n) + (m - l) * (if esz = n then n else 0) ≤ p.n := by
      intro n l m hlm hmc hz
      split at hz
      · rename_i hez; subst hez
        have h1 := hbd hz
        rw [if_pos rfl]
        have h2 : l * esz + (m - l) * esz = m * esz := by rw [← Nat.add_mul]; congr 1; omega
        have h3 : m * esz ≤ c * esz := Nat.mul_le_mul_right _ hmc
        omega
      · exact absurd rfl hz
    split at h
    · -- no max
      rename_i n hs
      cases mv with
      | some _ => exact hmx.elim
      | none =>
        split at h
        · rename_i h' hb
          split at h
          · rename_i l hl
            cases h
            obtain ⟨e, e1, e2⟩ := bound_none (P := P) (w := w) (isSlice := true) hlo hhi hb hl htop hlen
            refine ⟨.slice (if c = l then some a else some (a.add (l * n))) (h' - l) (c - l), ?_, ?_⟩
            · simp [Instr.sliceAt, Instr.slice, run_und (hX.und _ _ hu), e, run_size' hX hs]
            · simp only [vrel]
              refine ⟨if c = l then a else a.add (l * n), c - l, ?_, by omega, ⟨p, hp, ?_, ?_⟩, ?_, by omega⟩
              · split <;> rfl
              · intro hne
                rw [if_neg (by omega), ha (by omega), addr_add, Nat.add_assoc]
              · exact bd n l c (by omega) (Nat.le_refl _)
              · intro k hk
                cases cap with
                | none => cases hk
                | some q => have := hcap q rfl; simp at hk; omega
          · cases h
        · cases h
    · -- max
      rename_i n m hs
      cases mv with
      | none => exact hmx.elim
      | some mv =>
        split at h
        · rename_i m' hi' hm
          split at h
          · rename_i h' hb
            split at h
            · rename_i l hl
              cases h
              rcases boundA_run' (x := some m) (xv := some mv) hmx hm with ⟨e, _, _⟩ | ⟨km, im, e1, m0, m1, rfl, m2, _, _⟩
              · cases e
              cases e1
              rcases boundA_run' hhi hb with ⟨e, _, _⟩ | ⟨kh, ih, rfl, h0, h1, rfl, h2, _, _⟩
              · cases e
              have em : (im.toNat : Int) = im := Int.toNat_of_nonneg m0
              have eh : (ih.toNat : Int) = ih := Int.toNat_of_nonneg h0
              have hm1 : im ≤ (c : Int) := by omega
              have hr : ∃ l', (Instr.sliceBounds true len c lv (some (.int kh ih)) (some (.int km im))).run P w = .ok (l', ih.toNat, im.toNat) w ∧ l' = l ∧ l ≤ ih.toNat := by
                rcases boundA_run' hlo hl with ⟨rfl, rfl, rfl⟩ | ⟨kl, j, rfl, g0, g1, rfl, g2, kl', rfl⟩
                · exact ⟨0, by simp only [Instr.sliceBounds, Instr.sliceBound, asIntOf, Sem.run_bind, Sem.run_pure, Result.andThen_ok, m0, hm1, h0, h1, and_self, if_true], rfl, Nat.zero_le _⟩
                · exact ⟨j.toNat, by simp only [Instr.sliceBounds, Instr.sliceBound, asIntOf, Sem.run_bind, Sem.run_pure, Result.andThen_ok, m0, hm1, h0, h1, g0, g1, and_self, if_true], rfl, g2⟩
              obtain ⟨l', e, rfl, hle⟩ := hr
              refine ⟨.slice (if im.toNat = l' then some a else some (a.add (l' * n))) (ih.toNat - l') (im.toNat - l'), ?_, ?_⟩
              · simp [Instr.sliceAt, Instr.slice, run_und (hX.und _ _ hu), e, run_size' hX hs]
              · simp only [vrel]
                refine ⟨if im.toNat = l' then a else a.add (l' * n), im.toNat - l', ?_, by omega, ⟨p, hp, ?_, ?_⟩, ?_, by omega⟩
                · split <;> rfl
                · intro hne
                  rw [if_neg (by omega), ha (by omega), addr_add, Nat.add_assoc]
                · exact bd n l' im.toNat (by omega) (by omega)
                · intro k hk
                  cases hk; rfl
            · cases h
          · cases h
        · cases h
    · cases h
  · -- nil
    rename_i el hu
    have hx' := hx
    simp only [vrel] at hx'; subst hx'
    split at h
    · rename_i n h' hs hb
      split at h
      · rename_i l hl
        cases h
        cases mv with
        | some _ => exact hmx.elim
        | none =>
          obtain ⟨e, e1, e2⟩ := bound_none (P := P) (w := w) (isSlice := true) (len := 0) (cap := 0) hlo hhi hb hl (Nat.le_refl _) (Nat.le_refl _)
          refine ⟨.slice none 0 0, ?_, by simp [vrel]⟩
          have e3 : h' = 0 := by omega
          subst e3
          simp [Instr.sliceAt, Instr.slice, run_und (hX.und _ _ hu), e, run_size' hX hs]
      · cases h
    · cases h
  · -- what nobody writes
    rename_i el es hu
    obtain ⟨a, c, us, rfl, hlc, hrel, hrow⟩ := vrel_fz hx
    split at h
    · rename_i n h' hs hb
      split at h
      · rename_i l hl
        split at h
        · rename_i hall
          cases h
          cases mv with
          | some _ => exact hmx.elim
          | none =>
            obtain ⟨e, e1, e2⟩ := bound_none (P := P) (w := w) (isSlice := true) hlo hhi hb hl hlc hlc
            have hle : h' ≤ es.length := boundA_le hb
            have hll := hrel.length
            have hsz : ∀ u ∈ us, u.cells.size = n := by
              intro u hu'
              obtain ⟨i, hi⟩ := List.getElem?_of_mem hu'
              have hlt : i < es.length := by rw [hll]; exact (List.getElem?_eq_some_iff.1 hi).1
              obtain ⟨u', h1, h2⟩ := hrel.get i _ (List.getElem?_eq_getElem hlt)
              rw [hi] at h1; cases h1
              have := (vrel_cells h2).length
              have h3 := List.all_eq_true.1 hall _ (List.getElem_mem hlt)
              simp at h3 this; omega
            refine ⟨.slice (if c = l then some a else some (a.add (l * n))) (h' - l) (c - l), ?_, ?_⟩
            · simp [Instr.sliceAt, Instr.slice, run_und (hX.und _ _ hu), e, run_size' hX hs]
            · simp only [vrel]
              refine ⟨if c = l then a else a.add (l * n), c - l, (us.take h').drop l, ?_, ?_, ?_, ?_⟩
              · have : ((es.take h').drop l).length = h' - l := by rw [List.length_drop, List.length_take]; omega
                rw [this]
                split <;> rfl
              · rw [List.length_drop, List.length_take]; omega
              · exact (hrel.take h').drop l
              · rcases hrow with rfl | ⟨hsp, cc, ee, fz, m, g1, g2, g3, g4⟩
                · exact .inl (by simp)
                · by_cases hcl : c = l
                  · left
                    rw [List.drop_eq_nil_of_le]; rw [List.length_take]; omega
                  · right
                    rw [if_neg hcl]
                    by_cases hem : us = []
                    · subst hem
                      obtain ⟨ab, ao, asp⟩ := a
                      simp only at hsp g1; subst hsp
                      rw [addr_add]
                      exact ⟨rfl, cc, ee, fz, m, g1, g2, by simp, by simp⟩
                    · obtain ⟨u, hu'⟩ := List.exists_mem_of_ne_nil us hem
                      have hmn : m = n := by rw [← g3 u hu', hsz u hu']
                      subst hmn
                      obtain ⟨ab, ao, asp⟩ := a
                      simp only at hsp g1 g4; subst hsp
                      rw [addr_add]
                      refine ⟨rfl, cc, ee, fz, m, g1, g2, fun u hu => g3 u (List.mem_of_mem_take (List.mem_of_mem_drop hu)), fun i v hv => ?_⟩
                      show cc[ao + l * m + i]? = some v
                      rw [Nat.add_assoc]
                      refine g4 _ _ ?_
                      have h1 := flat_take (fun u : Value => u.cells.toList) m us (fun u hu => by simpa using g3 u hu) h'
                      have h2 := flat_drop (fun u : Value => u.cells.toList) m (us.take h') (fun u hu => by simpa using g3 u (List.mem_of_mem_take hu)) l
                      rw [h2, h1, List.getElem?_drop, List.getElem?_take] at hv
                      split at hv
                      · exact hv
                      · cases hv
        · cases h
      · cases h
    · cases h
  · -- an array
    rename_i n el b o hu
    obtain ⟨p, hp, rfl⟩ := vrel_ptr hx
    split at h
    · rename_i z h' hs hb
      split at h
      · rename_i l hl
        split at h
        case isFalse => cases h
        rename_i hrm
        cases h
        cases mv with
        | some _ => exact hmx.elim
        | none =>
          obtain ⟨e, e1, e2⟩ := bound_none (P := P) (w := w) (isSlice := false) (len := n) (cap := n) hlo hhi hb hl (Nat.le_refl _) (Nat.le_refl _)
          refine ⟨.slice (some (if n = l then ⟨p.b, p.sh + o, none⟩ else (⟨p.b, p.sh + o, none⟩ : Addr).add (l * z))) (h' - l) (n - l), ?_, ?_⟩
          · simp [Instr.sliceAt, Instr.sureAddr, run_und (hX.und _ _ hu), e, run_size' hX hs]
          · simp only [vrel]
            refine ⟨_, n - l, rfl, by omega, ⟨p, hp, ?_, ?_⟩, ?_, by omega⟩
            · intro hne
              rw [if_neg (by omega), addr_add, Nat.add_assoc]
            · intro hz; exact absurd rfl hz
            · intro k hk; cases hk; rfl
      · cases h
    · cases h
  · cases h

end

end Go.Am
namespace Go.Am
open Go
section
variable [Stat] {X : Cx} {P : Program} (hX : CxOk X P) {w : World} {σ : Sg}

/-- cells laid over an array -/
theorem overlay (off : Nat) : ∀ (l : List Value) (k : Nat) (cells : Array Value),
    ((l.zipIdx k).foldl (fun cs (p : Value × Nat) => cs.setIfInBounds (off + p.2) p.1) cells).size = cells.size ∧
    (off + k + l.length ≤ cells.size → ∀ i, ((l.zipIdx k).foldl (fun cs (p : Value × Nat) => cs.setIfInBounds (off + p.2) p.1) cells)[i]? = if off + k ≤ i ∧ i < off + k + l.length then l[i - (off + k)]? else cells[i]?)
  | [], k, cells => ⟨rfl, fun _ i => by rw [if_neg (by simp)]; rfl⟩
  | v :: l, k, cells => by
    obtain ⟨h1, h2⟩ := overlay off l (k + 1) (cells.setIfInBounds (off + k) v)
    rw [List.zipIdx_cons, List.foldl_cons]
    refine ⟨by rw [h1]; simp, fun hsz i => ?_⟩
    have hlt : off + k < cells.size := by simp at hsz; omega
    rw [h2 (by simp at hsz ⊢; omega) i]
    by_cases hi : off + (k + 1) ≤ i ∧ i < off + (k + 1) + l.length
    · rw [if_pos hi, if_pos (by simp; omega)]
      rw [show i - (off + k) = (i - (off + (k + 1))) + 1 from by omega]
      simp
    · rw [if_neg hi]
      by_cases he : i = off + k
      · subst he
        rw [if_pos (by simp), Nat.sub_self]
        simp [hlt]
      · rw [if_neg (by simp; omega)]
        rw [Array.getElem?_setIfInBounds_ne (by omega)]

theorem overlay_foldl (off : Nat) (vs cells : Array Value) : vs.zipIdx.foldl (fun cs (p : Value × Nat) => cs.setIfInBounds (off + p.2) p.1) cells = (vs.toList.zipIdx 0).foldl (fun cs (p : Value × Nat) => cs.setIfInBounds (off + p.2) p.1) cells := by
  rw [← Array.foldl_toList, Array.toList_zipIdx]

theorem vrels_lay {off : Nat} {xs cells c : List AV} {vs cs : Array Value} (h : lay off xs cells = some c) (hx : vrels σ xs vs.toList) (hc : vrels σ cells cs.toList) (hle : off + xs.length ≤ cells.length) :
    vrels σ c (vs.zipIdx.foldl (fun cs (p : Value × Nat) => cs.setIfInBounds (off + p.2) p.1) cs).toList ∧ (vs.zipIdx.foldl (fun cs (p : Value × Nat) => cs.setIfInBounds (off + p.2) p.1) cs).size = cs.size := by
  obtain ⟨h1, _, h3⟩ := lay_spec h
  obtain ⟨o1, o2⟩ := overlay off vs.toList 0 cs
  have hxl := hx.length
  have hcl := hc.length
  rw [overlay_foldl]
  have hlen : c.length = cs.size := by rw [h1, hcl]; simp
  have hvl : vs.toList.length = vs.size := Array.length_toList
  have hcl' : cs.toList.length = cs.size := Array.length_toList
  have o2 := o2 (by omega)
  generalize (vs.toList.zipIdx 0).foldl (fun cs (p : Value × Nat) => cs.setIfInBounds (off + p.2) p.1) cs = R at o1 o2 ⊢
  refine ⟨?_, o1⟩
  apply vrels.of_get
  · have : R.toList.length = R.size := Array.length_toList
    omega
  · intro i hi hi'
    have e1 := h3 i
    have e2 := o2 i
    rw [List.getElem?_eq_getElem hi] at e1
    have hi'' : i < R.size := by rw [← Array.length_toList]; exact hi'
    rw [Array.getElem?_eq_getElem hi''] at e2
    simp only [Nat.add_zero] at e2
    have e3 : R.toList[i] = R[i] := by simp
    rw [e3]
    by_cases hr : off ≤ i ∧ i < off + xs.length
    · rw [if_pos hr] at e1
      rw [if_pos (by omega)] at e2
      obtain ⟨u, hu1, hu2⟩ := vrels.get hx _ _ e1.symm
      rw [hu1] at e2
      rw [Option.some.inj e2]; exact hu2
    · rw [if_neg hr] at e1
      rw [if_neg (by omega)] at e2
      obtain ⟨u, hu1, hu2⟩ := vrels.get hc _ _ e1.symm
      rw [Array.getElem?_toList] at hu1
      rw [hu1] at e2
      rw [Option.some.inj e2]; exact hu2

theorem fill_run {place pl : Nat → Option (Nat × Nat)} (hp : ∀ i x, pl i = some x → place i = some x) : ∀ {parts : List (Nat × AV)} {ps : List (Nat × Value)} {cells c : List AV} {cs : Array Value},
    fillA pl cells parts = some c → partsRel σ parts ps → vrels σ cells cs.toList → ∃ c', Instr.fill place cs ps = some c' ∧ vrels σ c c'.toList ∧ c'.size = cs.size
  | [], ps, cells, c, cs, h, hq, hc => by
    simp only [partsRel] at hq; subst hq
    simp only [fillA] at h; cases h
    exact ⟨cs, rfl, hc, rfl⟩
  | (i, a) :: parts, ps, cells, c, cs, h, hq, hc => by
    simp only [partsRel] at hq
    obtain ⟨v, y, rfl, hv, hy⟩ := hq
    simp only [fillA] at h
    split at h
    · cases h
    · rename_i off n hpl
      split at h
      · rename_i hn
        split at h
        · rename_i c1 hlay
          have hvc := vrel_cells hv
          have hl1 := hvc.length
          have hl2 := hc.length
          obtain ⟨g1, g2⟩ := vrels_lay hlay hvc hc (by omega)
          obtain ⟨c', e1, e2, e3⟩ := fill_run hp h hy g1
          refine ⟨c', ?_, e2, by rw [e3, g2]⟩
          simp only [Instr.fill, hp _ _ hpl]
          rw [if_neg]
          · exact e1
          · simp only [Array.length_toList] at hl1 hl2
            simp only [ne_eq, Bool.or_eq_true, not_or, decide_eq_true_eq, Decidable.not_not, Nat.not_lt]
            omega
        · cases h
      · cases h

theorem places_run (hX : CxOk X P) : ∀ {fs : List Field} {pl : List (Nat × Nat)}, placesA X fs = some pl → (fs.mapM fun f => do pure (f.offset, ← sizeOf f.type) : Sem (List (Nat × Nat))).run P w = .ok pl w
  | [], pl, h => by simp only [placesA] at h; cases h; rfl
  | f :: fs, pl, h => by
    simp only [placesA] at h
    split at h
    · rename_i n r hs hr
      cases h
      simp only [List.mapM_cons, Sem.run_bind, run_size' hX hs, Result.andThen_ok, Sem.run_pure, places_run hX hr]
    · cases h

theorem run_mapM_array {α β : Type} (f : α → Sem β) (l : Array α) (r : List β) (h : (l.toList.mapM f).run P w = .ok r w) : (l.mapM f).run P w = .ok r.toArray w := by
  rw [Array.mapM_eq_mapM_toList]
  simp only [Sem.run_map, h, Result.andThen_ok]

theorem zero_run (hX : CxOk X P) {t : TypeId} {z : AV} (h : zero X t = some z) : ∃ zv, (zeroValue t).run P w = .ok zv w ∧ vrel σ z zv := by
  unfold zero at h
  split at h
  · rename_i i hi
    split at h
    · rename_i zv hz
      exact ⟨zv, run_zero (hX.inf _ _ hi) hz, ofV_rel σ _ _ _ h⟩
    · cases h
  · cases h

include hX

theorem buildA_run {t : TypeId} {parts : List (Nat × AV)} {ps : Array (Nat × Value)} {r : AV} (hq : partsRel σ parts ps.toList) (h : buildA X t parts = some r) : PRun P w σ (Instr.build t ps) r := by
  unfold buildA at h
  split at h
  · rename_i z hz
    obtain ⟨zv, hz1, hz2⟩ := zero_run (w := w) (σ := σ) hX hz
    obtain ⟨zc, rfl, hzc⟩ := vrel_agg hz2
    split at h
    · rename_i fs hu
      split at h
      · rename_i pl hpl
        split at h
        · rename_i c hc
          cases h
          obtain ⟨c', e1, e2, _⟩ := fill_run (place := fun i => pl.toArray[i]?) (fun i x hx => by simpa using hx) hc hq hzc
          refine ⟨.agg c', ?_, by simp only [vrel]; exact ⟨_, rfl, e2⟩⟩
          have hm := run_mapM_array (P := P) (w := w) (fun f : Field => do pure (f.offset, ← sizeOf f.type)) fs pl (places_run hX hpl)
          simp only [Instr.build, Sem.run_bind, hz1, Result.andThen_ok, run_und (hX.und _ _ hu), hm, Value.cells, e1, Sem.run_pure]
        · cases h
      · cases h
    · rename_i n e hu
      split at h
      · rename_i n hs
        split at h
        · rename_i c hc
          cases h
          obtain ⟨c', e1, e2, _⟩ := fill_run (place := fun i => some (i * n, n)) (fun i x hx => hx) hc hq hzc
          refine ⟨.agg c', ?_, by simp only [vrel]; exact ⟨_, rfl, e2⟩⟩
          simp only [Instr.build, Sem.run_bind, hz1, Result.andThen_ok, run_und (hX.und _ _ hu), run_size' hX hs, Value.cells, e1, Sem.run_pure]
        · cases h
      · cases h
    · cases h
  · cases h

theorem makeInterface_run {t : TypeId} {x : AV} {v : Value} {d : TypeDesc} (hx : vrel σ x v) (hu : X.und t = some d) (hd : ∀ ms, d ≠ .interface ms) : PRun P w σ (Instr.makeInterface t v) (.iface t x) := by
  refine ⟨.iface t v, ?_, by simp only [vrel]; exact ⟨_, rfl, hx⟩⟩
  simp only [Instr.makeInterface, Sem.run_bind, run_und (hX.und _ _ hu), Result.andThen_ok]
  cases d <;> first | rfl | exact absurd rfl (hd _)

/-- conversions that look at the value alone -/
theorem convP_run {src dst : TypeId} {x r : AV} {v : Value} {s s' : St} (hx : vrel σ x v) (h : convA X src dst x s = some (r, s'))
    (hc1 : ¬ ∃ e, X.und src = some (.slice e) ∧ X.und dst = some .string) (hc2 : ¬ ∃ e l, X.und dst = some (.slice e) ∧ x = .str l) : s' = s ∧ PRun P w σ (convert src dst v) r := by
  unfold convA at h
  split at h
  · rename_i d1 k k' n h1 h2
    cases h
    refine ⟨rfl, .int k (k.wrap n), ?_, by simp [vrel]⟩
    rw [vrel_int hx]
    simp [convert, run_und (hX.und _ _ h1), run_und (hX.und _ _ h2), Conv.intToInt]
  · rename_i d1 k k' n h1 h2
    cases h
    refine ⟨rfl, .float k (k.nearest n), ?_, by simp [vrel]⟩
    rw [vrel_int hx]
    simp [convert, run_und (hX.und _ _ h1), run_und (hX.und _ _ h2), Conv.intToFloat]
  · rename_i d1 k j b h1 h2
    unfold fltO at h
    split at h
    · rename_i q hq
      cases h
      refine ⟨rfl, .float k q, ?_, by simp [vrel]⟩
      rw [vrel_flt hx]
      simp only [convert, Sem.run_bind, run_und (hX.und _ _ h1), run_und (hX.und _ _ h2), Result.andThen_ok]
      unfold fltConv at hq
      unfold Conv.floatToFloat
      split at hq
      · rename_i hjk
        cases hq
        rw [if_pos hjk]; rfl
      · rename_i hjk
        rw [if_neg hjk]
        split at hq
        · rename_i g m e hde
          split at hq
          · cases hq
          · rename_i hinf
            cases hq
            rw [hde]
            simp only [hinf]
            rfl
        · cases hq
    · cases h
  · rename_i d1 k' n h1 h2
    cases h
    refine ⟨rfl, .string (Utf8.encode n), ?_, by simp only [vrel]; exact ⟨_, rfl, rfl⟩⟩
    rw [vrel_int hx]
    simp [convert, run_und (hX.und _ _ h1), run_und (hX.und _ _ h2), Conv.intToString]
  · rename_i d1 b h1 h2
    cases h
    obtain ⟨bs, rfl, rfl⟩ := vrel_str hx
    refine ⟨rfl, .string bs, ?_, by simp only [vrel]; exact ⟨_, rfl, rfl⟩⟩
    simp [convert, run_und (hX.und _ _ h1), run_und (hX.und _ _ h2)]
  · rename_i d1 e b _ h1 h2
    exact absurd ⟨_, _, h2, rfl⟩ hc2
  · rename_i e h1 h2 _ _
    exact absurd ⟨_, h1, h2⟩ hc1
  · cases h

end

end Go.Am
set_option linter.unusedSectionVars false
set_option linter.unusedVariables false
namespace Go.Am
open Go
section
variable [Stat]
variable {X : Cx} {P : Program} {w : World} {σ : Sg} {s : St}

theorem cells_look {b : Nat} {c : List AV} (h : s.cells b = some c) : ∃ e ro lo hi, s.look b = some (.cells c e ro lo hi) ∧ s.get b = some (.cells c e ro lo hi) := by
  unfold St.cells at h
  split at h
  · rename_i c' e ro lo hi hg
    cases h
    exact ⟨e, ro, lo, hi, by rw [St.look_some hg (by simp)], hg⟩
  · cases h

/-- the concrete cells behind a block of cells -/
theorem HR.cells (H : HR σ s w) {b : Nat} {p : Pl} {c : List AV} {e : TypeId} {ro : Bool} {lo hi : Nat} (hp : σ b = some p) (hc : s.look b = some (.cells c e ro lo hi)) :
    ∃ cc fz, w.heap[p.b]? = some (.cells cc e fz) ∧ cc.size = p.n ∧ p.sh + c.length ≤ p.n ∧ (∀ j a, c[j]? = some a → ∃ v, cc[p.sh + j]? = some v ∧ vrel σ a v) ∧
      (ro = false → ∀ j, fz.1 ≤ p.sh + j → p.sh + j < fz.2 → p.sh + j < p.n → lo ≤ j ∧ j < hi) := by
  obtain ⟨o, ho, hb⟩ := H.blk b p _ hp hc
  cases o <;> simp only [BR] at hb
  obtain ⟨h1, h2, h3, h4, h5, _⟩ := hb
  subst h3
  exact ⟨_, _, ho, h1, h2, h4, h5⟩
theorem HR.spec (H : HR σ s w) {b : Nat} {p : Pl} {c : List AV} {e : TypeId} {ro : Bool} {lo hi : Nat} (hp : σ b = some p) (hc : s.look b = some (.cells c e ro lo hi)) (he : Stat.spec e = true) : p.sh = 0 ∧ p.n = c.length := by
  obtain ⟨o, ho, hb⟩ := H.blk b p _ hp hc
  cases o <;> simp only [BR] at hb
  obtain ⟨_, _, _, _, _, h6⟩ := hb
  exact h6 he

theorem cell_of_block {b o : Nat} {cc : Array Value} {e : TypeId} {fz : Nat × Nat} (h : w.heap[b]? = some (.cells cc e fz)) : w.cell? ⟨b, o, none⟩ = cc[o]? := by
  simp [World.cell?, h]

theorem HR.cell (H : HR σ s w) {b : Nat} {p : Pl} {c : List AV} (hp : σ b = some p) (hc : s.cells b = some c) {o : Nat} {a : AV} (ha : c[o]? = some a) :
    ∃ v, w.cell? ⟨p.b, p.sh + o, none⟩ = some v ∧ vrel σ a v := by
  obtain ⟨e, ro, lo, hi, hl, _⟩ := cells_look hc
  obtain ⟨cc, fz, h1, _, _, h4, _⟩ := H.cells hp hl
  obtain ⟨v, hv, hr⟩ := h4 o a ha
  exact ⟨v, by rw [cell_of_block h1]; exact hv, hr⟩

theorem HR.row (H : HR σ s w) {b : Nat} {p : Pl} {c : List AV} (hp : σ b = some p) (hc : s.cells b = some c) : ∀ (r : List AV) (o : Nat), (∀ i a, r[i]? = some a → c[o + i]? = some a) →
    ∃ vs : List Value, vrels σ r vs ∧ ∀ i v, vs[i]? = some v → w.cell? ⟨p.b, p.sh + o + i, none⟩ = some v
  | [], o, _ => ⟨[], by simp [vrels], by simp⟩
  | a :: r, o, h => by
    obtain ⟨v, hv, hr⟩ := H.cell hp hc (h 0 a (by simp))
    obtain ⟨vs, h1, h2⟩ := HR.row H hp hc r (o + 1) (fun i x hx => by rw [show o + 1 + i = o + (i + 1) from by omega]; exact h (i + 1) x (by simpa using hx))
    refine ⟨v :: vs, by simp only [vrels]; exact ⟨v, vs, rfl, hr, h1⟩, fun i u hu => ?_⟩
    cases i with
    | zero => simp at hu; subst hu; simpa using hv
    | succ i =>
      have := h2 i u (by simpa using hu)
      rw [show p.sh + o + (i + 1) = p.sh + (o + 1) + i from by omega]; exact this

theorem cell_of_heap {w w' : World} (h : w'.heap = w.heap) (a : Addr) : w'.cell? a = w.cell? a := by
  simp only [World.cell?, h]

theorem loadCells_run (H : HR σ s w) {b : Nat} {p : Pl} {c r : List AV} {n o : Nat} (hp : σ b = some p) (hc : s.cells b = some c) (hg : grab n o c = some r) :
    ∃ vs : List Value, (∀ w', w'.heap = w.heap → (loadCells ⟨p.b, p.sh + o, none⟩ n).run P w' = .ok vs.toArray w') ∧ vrels σ r vs := by
  obtain ⟨vs, h1, h2⟩ := H.row hp hc r o (fun i a ha => grab_get hg ha)
  refine ⟨vs, fun w' hw => ?_, h1⟩
  have := run_loadCells_list (P := P) w' ⟨p.b, p.sh + o, none⟩ vs (fun j v hv => by rw [addr_add, cell_of_heap hw]; exact h2 j v hv)
  rwa [← h1.length, (grab_spec hg).1] at this

/-- some of the values, in their order -/
theorem vrels.sub {σ : Sg} : ∀ {r c : List AV} {us : List Value} {o : Nat}, vrels σ c us → (∀ i a, r[i]? = some a → c[o + i]? = some a) → ∃ vs, vrels σ r vs ∧ ∀ i v, vs[i]? = some v → us[o + i]? = some v
  | [], _, us, o, _, _ => ⟨[], by simp [vrels], by simp⟩
  | a :: r, c, us, o, h, k => by
    obtain ⟨v, hv, hr⟩ := h.get (o + 0) a (k 0 a (by simp))
    obtain ⟨vs, h1, h2⟩ := vrels.sub (r := r) (o := o + 1) h (fun i x hx => by rw [show o + 1 + i = o + (i + 1) from by omega]; exact k (i + 1) x (by simpa using hx))
    refine ⟨v :: vs, by simp only [vrels]; exact ⟨v, vs, rfl, hr, h1⟩, fun i u hu => ?_⟩
    cases i with
    | zero => simp at hu; subst hu; exact hv
    | succ i => rw [show o + (i + 1) = o + 1 + i from by omega]; exact h2 i u (by simpa using hu)

theorem frozen_row (H : HR σ s w) {b base o n : Nat} {us : List Value} {cs r : List AV} {cc : Array Value} {e : TypeId} {fz : Nat × Nat} (hz : σ.fz b = some (.cells cc e fz)) (hr : vrels σ.bare cs us) (hc : ∀ i u, us[i]? = some u → cc[base + i]? = some u)
    (hg : grab n o cs = some r) : ∃ vs : List Value, (∀ w', w'.heap = w.heap → (loadCells ⟨b, base + o, none⟩ n).run P w' = .ok vs.toArray w') ∧ vrels σ r vs := by
  obtain ⟨vs, h1, h2⟩ := hr.sub (fun i a ha => grab_get hg ha)
  refine ⟨vs, fun w' hw => ?_, vrels.mono (Sg.bare_le σ) _ _ h1⟩
  have := run_loadCells_list (P := P) w' ⟨b, base + o, none⟩ vs (fun j v hv => by
    rw [addr_add, cell_of_heap hw, cell_of_block (H.fz _ _ hz).1, Nat.add_assoc]; exact hc _ _ (h2 j v hv))
  rwa [← h1.length, (grab_spec hg).1] at this

theorem loadA_run (hX : CxOk X P) (H : HR σ s w) {t : TypeId} {x r : AV} {u : Value} (hx : vrel σ x u) (h : loadA X t x s = some r) : PRun P w σ (Instr.loadAt t u) r := by
  unfold loadA at h
  split at h
  · rename_i b o
    obtain ⟨p, hp, rfl⟩ := vrel_ptr hx
    split at h
    · rename_i hagg
      split at h
      · rename_i n c hs hc
        split at h
        · rename_i r' hg
          cases h
          obtain ⟨vs, h1, h2⟩ := loadCells_run (P := P) H hp hc hg
          refine ⟨.agg vs.toArray, ?_, by simp only [vrel]; exact ⟨_, rfl, h2⟩⟩
          simp only [Instr.loadAt, Instr.sureAddr, loadVar, Sem.run_bind, Sem.run_pure, Result.andThen_ok, run_isAgg' hX hagg, if_true, run_size' hX hs, h1 w rfl]
        · cases h
      · cases h
    · rename_i hagg
      unfold cell at h
      split at h
      · rename_i c hc
        obtain ⟨v, hv, hr⟩ := H.cell hp hc h
        refine ⟨v, ?_, hr⟩
        simp only [Instr.loadAt, Instr.sureAddr, loadVar, Sem.run_bind, Sem.run_pure, Result.andThen_ok, run_isAgg' hX hagg, Bool.false_eq_true, if_false, run_load, hv]
      · cases h
    · cases h
  · rename_i c o
    obtain ⟨b, base, us, cc, e, fz, rfl, hz, hr, hcc⟩ := vrel_fp hx
    split at h
    · rename_i hagg
      split at h
      · rename_i n hs
        split at h
        · rename_i r' hg
          cases h
          obtain ⟨vs, h1, h2⟩ := frozen_row (P := P) H hz hr hcc hg
          refine ⟨.agg vs.toArray, ?_, by simp only [vrel]; exact ⟨_, rfl, h2⟩⟩
          simp only [Instr.loadAt, Instr.sureAddr, loadVar, Sem.run_bind, Sem.run_pure, Result.andThen_ok, run_isAgg' hX hagg, if_true, run_size' hX hs, h1 w rfl]
        · cases h
      · cases h
    · rename_i hagg
      obtain ⟨v, hv, hrel⟩ := hr.get _ _ h
      refine ⟨v, ?_, vrel.mono (Sg.bare_le σ) _ _ hrel⟩
      have hcell : w.cell? ⟨b, base + o, none⟩ = some v := by rw [cell_of_block (H.fz _ _ hz).1]; exact hcc _ _ hv
      simp only [Instr.loadAt, Instr.sureAddr, loadVar, Sem.run_bind, Sem.run_pure, Result.andThen_ok, run_isAgg' hX hagg, Bool.false_eq_true, if_false, run_load, hcell]
    · cases h
  · cases h

theorem oneCell_of_noAgg {a : AV} {v : Value} (h : vrel σ a v) (hn : noAgg a = true) : v.oneCell' = true := by
  obtain ⟨_, h1, h2⟩ := cells_of_noAgg h hn
  cases v <;> first | rfl | exact absurd rfl (h1 _) | exact absurd rfl (h2 _)

/-- stores one behind the other into one block -/
theorem storeCells_run {b : Nat} {e : TypeId} {fz : Nat × Nat} : ∀ (us : List Value) (off i : Nat) (w : World) (cc : Array Value), w.heap[b]? = some (.cells cc e fz) → (∀ v ∈ us, v.oneCell' = true) → off + i + us.length ≤ cc.size →
    (∀ j, off + i ≤ j → j < off + i + us.length → ¬ (fz.1 ≤ j ∧ j < fz.2)) →
    ∃ w' cc', (storeCells ⟨b, off, none⟩ us i).run P w = .ok () w' ∧ w'.heap.size = w.heap.size ∧ (∀ c, c ≠ b → w'.heap[c]? = w.heap[c]?) ∧ w'.heap[b]? = some (.cells cc' e fz) ∧ cc'.size = cc.size ∧
      (∀ j, cc'[j]? = if off + i ≤ j ∧ j < off + i + us.length then us[j - (off + i)]? else cc[j]?) ∧ w'.os = w.os ∧ w'.tape = w.tape ∧ (w'.output = w.output ∧ w'.drawn = w.drawn)
  | [], off, i, w, cc, hb, _, _, _ => ⟨w, cc, rfl, rfl, fun _ _ => rfl, hb, rfl, fun j => by rw [if_neg (by simp)], rfl, rfl, rfl, rfl⟩
  | u :: us, off, i, w, cc, hb, hv, hsz, hfz => by
    have hlt : off + i < cc.size := by simp at hsz; omega
    have hcell : w.cell? ⟨b, off + i, none⟩ = some cc[off + i] := by rw [cell_of_block hb]; simp [hlt]
    have hfr : w.frozen? ⟨b, off + i, none⟩ = false := by
      have := hfz (off + i) (Nat.le_refl _) (by simp)
      obtain ⟨flo, fhi⟩ := fz
      simp only [World.frozen?, hb]
      simp only at this
      rw [Bool.eq_false_iff]
      intro hh
      simp only [Bool.and_eq_true, decide_eq_true_eq] at hh
      exact this hh
    have hblt : b < w.heap.size := (Array.getElem?_eq_some_iff.1 hb).1
    have hset : (w.setCell ⟨b, off + i, none⟩ u).heap[b]? = some (.cells (cc.setIfInBounds (off + i) u) e fz) := by
      simp [World.setCell, Array.getElem?_modify, hb]
    obtain ⟨w', cc', h1, h2, h3, h4, h5, h6, h7, h8, h9⟩ := storeCells_run us off (i + 1) (w.setCell ⟨b, off + i, none⟩ u) (cc.setIfInBounds (off + i) u) hset (fun v hm => hv v (List.mem_cons_of_mem _ hm)) (by simp at hsz ⊢; omega)
      (fun j hj hj' => hfz j (by omega) (by simp; omega))
    refine ⟨w', cc', ?_, by rw [h2]; simp, ?_, h4, by rw [h5]; simp, ?_, h7, h8, h9⟩
    · simp only [storeCells, Sem.run_bind, addr_add]
      rw [run_store P w _ u .plain (hv u (List.mem_cons_self ..))]
      simp only [hcell, hfr, Bool.false_eq_true, if_false, Result.andThen_ok]
      exact h1
    · intro c hc
      rw [h3 c hc]
      simp only [World.setCell, Array.getElem?_modify]
      rw [if_neg (fun h => hc h.symm)]
    · intro j
      rw [h6 j]
      by_cases hj : off + (i + 1) ≤ j ∧ j < off + (i + 1) + us.length
      · rw [if_pos hj, if_pos (by simp; omega)]
        rw [show j - (off + i) = (j - (off + (i + 1))) + 1 from by omega]
        simp
      · rw [if_neg hj]
        by_cases he : j = off + i
        · subst he
          rw [if_pos (by simp), Nat.sub_self]
          simp [hlt]
        · rw [if_neg (by simp; omega)]
          rw [Array.getElem?_setIfInBounds_ne (by omega)]

theorem writeCells_run (H : HR σ s w) {b o : Nat} {p : Pl} {xs : List AV} {us : List Value} {s' : St} (hp : σ b = some p) (hx : vrels σ xs us) (h : writeCells s b o xs = some s') :
    ∃ w', (storeCells ⟨p.b, p.sh + o, none⟩ us).run P w = .ok () w' ∧ Good σ s w σ s' w' := by
  unfold writeCells at h
  split at h
  · rename_i c e flo fhi hg
    split at h
    · rename_i hcond
      simp only [Bool.and_eq_true, Bool.or_eq_true, decide_eq_true_eq, List.all_eq_true] at hcond
      obtain ⟨hfree, hone⟩ := hcond
      split at h
      · rename_i c' hlay
        cases h
        have hl : s.look b = some (.cells c e false flo fhi) := St.look_some hg (by simp)
        obtain ⟨cc, fz, h1, h2, h3, h4, h5⟩ := H.cells hp hl
        obtain ⟨g1, g2, g3⟩ := lay_spec hlay
        have hlen := hx.length
        have hb : o + xs.length ≤ c.length ∨ us = [] := by
          by_cases hn : xs = []
          · subst hn; simp only [vrels] at hx; exact .inr hx
          · exact .inl (g2 hn)
        rcases hb with hb | rfl
        case inr =>
          have : xs = [] := by cases xs with | nil => rfl | cons a l => simp at hlen
          subst this
          have e1 : c = c' := by cases o <;> simp [lay] at hlay <;> exact hlay
          subst e1
          refine ⟨w, rfl, ?_⟩
          exact Good.put H hp hl rfl (by simp) rfl (fun _ _ => rfl) h1 ⟨h2, h3, rfl, h4, h5, H.spec hp hl⟩ rfl rfl rfl
        case inl =>
        have hones : ∀ v ∈ us, v.oneCell' = true := by
          intro v hv
          obtain ⟨i, hi, rfl⟩ := List.mem_iff_getElem.1 hv
          have hix : i < xs.length := by omega
          obtain ⟨v', hv1, hv2⟩ := vrels.get hx i xs[i] (List.getElem?_eq_getElem hix)
          rw [List.getElem?_eq_getElem hi] at hv1; cases hv1
          exact oneCell_of_noAgg hv2 (hone _ (List.getElem_mem hix))
        obtain ⟨w', cc', k1, k2, k3, k4, k5, k6, k7, k8, k9⟩ := storeCells_run (P := P) (b := p.b) (e := e) (fz := fz) us (p.sh + o) 0 w cc h1 hones (by rw [h2]; omega)
          (fun j hj hj' hf => by
            obtain ⟨q1, q2⟩ := h5 rfl (j - p.sh) (by rw [show p.sh + (j - p.sh) = j from by omega]; exact hf.1) (by rw [show p.sh + (j - p.sh) = j from by omega]; exact hf.2) (by omega)
            rcases hfree with hfree | hfree <;> omega)
        refine ⟨w', k1, ?_⟩
        refine Good.put H hp hl rfl (by simp) k2 k3 k4 ⟨by rw [k5, h2], by rw [g1]; exact h3, rfl, ?_, ?_, by rw [g1]; exact H.spec hp hl⟩ k7 k8 k9.1 (Drw.of (Nat.le_of_eq k9.2.symm))
        · intro j a ha
          rw [g3 j] at ha
          rw [k6]
          simp only [Nat.add_zero]
          by_cases hj : o ≤ j ∧ j < o + xs.length
          · rw [if_pos hj] at ha
            rw [if_pos (by omega)]
            obtain ⟨v, hv1, hv2⟩ := vrels.get hx _ _ ha
            refine ⟨v, ?_, hv2⟩
            rw [show p.sh + j - (p.sh + o) = j - o from by omega]; exact hv1
          · rw [if_neg hj] at ha
            rw [if_neg (by omega)]
            exact h4 j a ha
        · exact h5
      · cases h
    · cases h
  · cases h

theorem storeA_run (hX : CxOk X P) (H : HR σ s w) {t : TypeId} {x y : AV} {u v : Value} {s' : St} (hx : vrel σ x u) (hy : vrel σ y v) (h : storeA X t x y s = some s') :
    ∃ w', (Instr.storeAt t u v).run P w = .ok () w' ∧ Good σ s w σ s' w' := by
  unfold storeA at h
  split at h
  · rename_i b o
    obtain ⟨p, hp, rfl⟩ := vrel_ptr hx
    split at h
    · rename_i n hs
      split at h
      · rename_i hn
        have hc := vrel_cells hy
        obtain ⟨w', h1, h2⟩ := writeCells_run (P := P) H hp hc h
        refine ⟨w', ?_, h2⟩
        have hl := hc.length
        have hsz : v.cells.size = n := by rw [← Array.length_toList]; omega
        simp only [Instr.storeAt, Instr.sureAddr, storeVar, Sem.run_bind, Sem.run_pure, Result.andThen_ok, run_size' hX hs, hsz, ne_eq, not_true_eq_false, if_false]
        exact h1
      · cases h
    · cases h
  · cases h

end

end Go.Am
set_option linter.unusedSimpArgs false
set_option linter.unusedVariables false
set_option linter.unusedSectionVars false
set_option linter.unusedVariables false
namespace Go.Am
open Go
variable [Stat]
/-- The operation yields a related value; the relation goes on. -/
def ORun (P : Program) (σ : Sg) (s : St) (w : World) (m : Sem Value) (a : AV) (s' : St) : Prop := ∃ σ' v w', m.run P w = .ok v w' ∧ vrel σ' a v ∧ Good σ s w σ' s' w'

theorem PRun.o {P : Program} {σ : Sg} {s : St} {w : World} {m : Sem Value} {a : AV} (h : PRun P w σ m a) (H : HR σ s w) : ORun P σ s w m a s := by
  obtain ⟨v, h1, h2⟩ := h
  exact ⟨σ, v, w, h1, h2, Good.refl H⟩

section
variable {X : Cx} {P : Program} {w : World} {σ : Sg} {s : St}

theorem vrels.size {x : List AV} {a : Array Value} (h : vrels σ x a.toList) : x.length = a.size := by
  have h1 := h.length
  have h2 : a.toList.length = a.size := Array.length_toList
  omega

theorem newCells_good (H : HR σ s w) (hf : σ s.next = none) {c : List AV} {vs : Array Value} (e : TypeId) (fz : Nat × Nat) (hfz : fz = (0, 0) ∨ vs.size ≤ fz.1) (hle : c.length ≤ vs.size) (hc : ∀ (j : Nat) (a : AV), c[j]? = some a → ∃ v, vs[j]? = some v ∧ vrel σ a v) (hsp : Stat.spec e = true → vs.size = c.length) :
    Good σ s w (σ.add s.next ⟨w.heap.size, 0, vs.size⟩) (s.new (.cells c e false 0 0)) (w.alloc (.cells vs e fz)) := by
  refine Good.new H hf _ (by simp) _ _ ⟨rfl, by simpa using hle, rfl, ?_, ?_, fun h => ⟨rfl, hsp h⟩⟩
  · intro j a ha
    obtain ⟨v, hv, hr⟩ := hc j a ha
    exact ⟨v, by simpa using hv, vrel.mono (Sg.le_add hf) _ _ hr⟩
  · intro _ j h1 h2 h3
    rcases hfz with rfl | hfz
    · simp at h2
    · dsimp only at h1 h2 h3; omega

theorem newCells_good' (H : HR σ s w) (hf : σ s.next = none) {c : List AV} {vs : Array Value} (e : TypeId) (hc : vrels σ c vs.toList) :
    Good σ s w (σ.add s.next ⟨w.heap.size, 0, vs.size⟩) (s.new (.cells c e false 0 0)) (w.alloc (.cells vs e)) := by
  have hl := hc.size
  refine newCells_good H hf e (0, 0) (.inl rfl) (by omega) (fun j a ha => ?_) (fun _ => by omega)
  obtain ⟨v, hv, hr⟩ := hc.get j a ha
  exact ⟨v, by rw [Array.getElem?_toList] at hv; exact hv, hr⟩

theorem newVar_run (H : HR σ s w) (hf : σ s.next = none) {c : List AV} {vs : Array Value} (e : TypeId) (hc : vrels σ c vs.toList) :
    ORun P σ s w (do pure (.pointer (some (← newRow e vs)))) (.ptr s.next 0) (s.new (.cells c e false 0 0)) := by
  refine ⟨_, .pointer (some ⟨w.heap.size, 0, none⟩), w.alloc (.cells vs e), ?_, ?_, newCells_good' H hf e hc⟩
  · simp only [newRow, Sem.run_bind, run_newObj, Result.andThen_ok, Sem.run_pure, World.alloc_eq]
  · simp only [vrel]; exact ⟨_, Sg.add_self _ _ _, by simp⟩

theorem repeatL_length : ∀ (k : Nat) (l : List AV), (repeatL k l).length = k * l.length
  | 0, l => by simp [repeatL]
  | k + 1, l => by simp [repeatL, repeatL_length k l, Nat.add_mul]; omega

theorem repeatL_get : ∀ (k : Nat) (l : List AV) (i : Nat), i < k * l.length → (repeatL k l)[i]? = l[i % l.length]?
  | 0, l, i, h => by simp at h
  | k + 1, l, i, h => by
    simp only [repeatL]
    by_cases hi : i < l.length
    · rw [List.getElem?_append_left hi, Nat.mod_eq_of_lt hi]
    · rw [List.getElem?_append_right (by omega), repeatL_get k l (i - l.length) (by rw [Nat.add_mul] at h; omega)]
      congr 1
      rw [← Nat.mod_eq_sub_mod (by omega)]

theorem repeatL_rel {zc : List AV} {zs : Array Value} (h : vrels σ zc zs.toList) (hz : zs.size ≠ 0) (k : Nat) : vrels σ (repeatL k zc) ((Array.range (k * zs.size)).map (fun i => zs[i % zs.size]!)).toList := by
  have hl := h.size
  apply vrels.of_get
  · rw [repeatL_length, hl]; simp
  · intro i hi hi'
    have hk : i < k * zc.length := by rw [repeatL_length] at hi; exact hi
    have e := repeatL_get k zc i hk
    rw [List.getElem?_eq_getElem hi] at e
    obtain ⟨v, hv, hr⟩ := h.get _ _ e.symm
    have e2 : ((Array.range (k * zs.size)).map (fun i => zs[i % zs.size]!)).toList[i] = v := by
      rw [Array.getElem?_toList] at hv
      rw [hl] at hv
      simp [getElem!_def, hv]
    rw [e2]; exact hr

theorem alloc_run (hX : CxOk X P) (H : HR σ s w) (hf : σ s.next = none) {t : TypeId} {z : AV} (h : zero X t = some z) : ORun P σ s w (Instr.alloc t true (.tuple #[])) (newCells s z.cells t).1 (newCells s z.cells t).2 := by
  obtain ⟨zv, h1, h2⟩ := zero_run (w := w) (σ := σ) hX h
  obtain ⟨σ', v, w', g1, g2, g3⟩ := newVar_run (P := P) H hf t (vrel_cells h2)
  exact ⟨σ', v, w', by simp only [Instr.alloc, Sem.run_bind, h1, Result.andThen_ok, newVar]; simpa using g1, g2, g3⟩

theorem box_run (H : HR σ s w) (hf : σ s.next = none) {t : TypeId} {x : AV} {u : Value} (hx : vrel σ x u) : ORun P σ s w (Instr.box t u) (newCells s x.cells t).1 (newCells s x.cells t).2 := by
  obtain ⟨σ', v, w', g1, g2, g3⟩ := newVar_run (P := P) H hf t (vrel_cells hx)
  exact ⟨σ', v, w', by simp only [Instr.box, newVar]; exact g1, g2, g3⟩

theorem newSlice_rel {b n len cap esz : Nat} {sz : Nat} (hn : len ≤ cap) (hz : cap * esz ≤ sz) (hr : cap < 2 ^ 63 := by omega) : vrel (σ.add b ⟨n, 0, sz⟩) (.sl b 0 len (some cap) esz) (.slice (some ⟨n, 0, none⟩) len cap) := by
  simp only [vrel]
  exact ⟨_, _, rfl, hn, ⟨_, Sg.add_self _ _ _, fun _ => by simp, fun _ => by simpa using hz⟩, fun k hk => by cases hk; rfl, hr⟩

theorem buildSliceA_run (hX : CxOk X P) (H : HR σ s w) (hf : σ s.next = none) {t : TypeId} {len : Nat} {parts : List (Nat × AV)} {ps : Array (Nat × Value)} {r : AV} {s' : St} (hq : partsRel σ parts ps.toList) (h : buildSliceA X t len parts s = some (r, s')) :
    ORun P σ s w (Instr.buildSlice t len ps) r s' := by
  unfold buildSliceA at h
  split at h
  · rename_i elem hu
    split at h
    · rename_i n z hs hz
      split at h
      · rename_i hcond
        obtain ⟨hzl, hn0, hbig⟩ := hcond
        split at h
        · rename_i c hc
          cases h
          obtain ⟨zv, h1, h2⟩ := zero_run (w := w) (σ := σ) hX hz
          have hzc := vrel_cells h2
          have hzs : zv.cells.size = n := by have := hzc.size; omega
          have hrep := repeatL_rel hzc (by omega) len
          obtain ⟨c', e1, e2, e3⟩ := fill_run (place := fun i => some (i * n, n)) (fun i x hx => hx) hc hq hrep
          have hsz : c'.size = len * n := by rw [e3, hzs]; simp
          refine ⟨_, .slice (some ⟨w.heap.size, 0, none⟩) len len, w.alloc (.cells c' elem), ?_, newSlice_rel (Nat.le_refl _) (by omega) (Nat.lt_of_le_of_lt (Nat.le_trans (Nat.le_mul_of_pos_right len (Nat.pos_of_ne_zero hn0)) hbig) (by omega)), newCells_good' H hf elem e2⟩
          have hnb : ¬ (len * n > 2 ^ 24) := by omega
          simp only [Instr.buildSlice, Sem.run_bind, run_und (hX.und _ _ hu), Result.andThen_ok, run_size' hX hs, hnb, if_false]
          by_cases h0 : len * n = 0
          · rw [hzs, h0] at e1
            simp only [h0, if_true, Sem.run_bind, Sem.run_pure, Result.andThen_ok]
            have : (Array.range 0).map (fun i => (#[] : Array Value)[i % (#[] : Array Value).size]!) = (Array.range 0).map (fun i => zv.cells[i % n]!) := by simp
            rw [this, e1]
            simp only [newRow, Sem.run_bind, run_newObj, Result.andThen_ok, Sem.run_pure, World.alloc_eq]
          · rw [hzs] at e1
            simp only [h0, if_false, Sem.run_bind, Sem.run_pure, Result.andThen_ok, h1, hzs, e1, newRow, run_newObj, World.alloc_eq]
        · cases h
      · cases h
    · cases h
  · cases h

theorem map_range_zero (f : Nat → Value) : (Array.range 0).map f = #[] := by
  have : Array.range 0 = #[] := by rw [Array.range_zero']
  rw [this]; simp

theorem makeSlice_run (hX : CxOk X P) (H : HR σ s w) (hf : σ s.next = none) {t elem : TypeId} {l c : Int} {kl kc : IntKind} {i : TypeInfo} {z : AV} (hu : X.und t = some (.slice elem)) (hi : X.inf elem = some i) (hz : zero X elem = some z)
    (hc : 0 ≤ l ∧ l ≤ c ∧ c * i.bytes ≤ 2 ^ 47 ∧ c < 2 ^ 47 ∧ z.cells.length = i.size ∧ i.size ≠ 0) :
    ORun P σ s w (Instr.makeSlice t (.int kl l) (.int kc c)) (.sl s.next 0 l.toNat (some c.toNat) i.size) (s.new (.cells (repeatL c.toNat z.cells) elem false 0 0)) := by
  obtain ⟨h0, h1, h2, h3, h4, h5⟩ := hc
  obtain ⟨zv, g1, g2⟩ := zero_run (w := w) (σ := σ) hX hz
  have hzc := vrel_cells g2
  have hzs : zv.cells.size = i.size := by have := hzc.size; omega
  have hrep := repeatL_rel hzc (by omega) c.toNat
  have hsize : X.inf elem = some i → size X elem = some i.size := fun h => by simp [size, h]
  have wl : IntKind.i64.wrap l = l := by rw [IntKind.wrap_i64]; omega
  have wc : IntKind.i64.wrap c = c := by rw [IntKind.wrap_i64]; omega
  refine ⟨_, .slice (some ⟨w.heap.size, 0, none⟩) l.toNat c.toNat, w.alloc (.cells ((Array.range (c.toNat * zv.cells.size)).map (fun i => zv.cells[i % zv.cells.size]!)) elem), ?_, newSlice_rel (by omega) (by simp [hzs]), newCells_good' H hf elem hrep⟩
  have big : ((i.bytes : Int) * c > 2 ^ 48) = False := by
    rw [eq_iff_iff, iff_false]; rw [Int.mul_comm]; omega
  simp only [Instr.makeSlice, Sem.run_bind, run_und (hX.und _ _ hu), Result.andThen_ok, asInt, asIntOf, Sem.run_pure, run_inf (hX.inf _ _ hi), wl, wc, big, run_askRoom, run_size' hX (hsize hi)]
  have n1 : ¬ (c < 0) := by omega
  have n2 : ¬ (l < 0) := by omega
  have n3 : ¬ (l > c) := by omega
  simp only [n1, n2, n3, decide_false, Bool.or_false, Bool.false_eq_true, if_false, Sem.run_pure, Result.andThen_ok, run_askRoom, newRow, Sem.run_bind, run_newObj, World.alloc_eq, run_size' hX (hsize hi)]
  by_cases h0 : c.toNat * i.size = 0
  · simp only [h0, if_true, Sem.run_bind, Sem.run_pure, Result.andThen_ok, run_newObj, World.alloc_eq, hzs]
    rw [map_range_zero, map_range_zero]
  · simp only [h0, if_false, Sem.run_bind, Sem.run_pure, Result.andThen_ok, g1, run_newObj, World.alloc_eq, hzs]

theorem makeMap_run (H : HR σ s w) (hf : σ s.next = none) {t : TypeId} : ORun P σ s w (Instr.makeMap t none) (.map s.next) (s.new (.map [] .new)) := by
  refine ⟨_, .map (some w.heap.size), w.alloc (.map #[] 0), rfl, ?_, Good.new H hf (.map [] .new) (by simp) _ 0 (by simp [BR, entriesRel, MI.new])⟩
  simp only [vrel]; exact ⟨_, Sg.add_self _ _ _, rfl⟩

theorem makeMap_run' (hX : CxOk X P) (H : HR σ s w) (hf : σ s.next = none) {t k e : TypeId} {kn : IntKind} {n : Int} (hu : X.und t = some (.map k e)) : ORun P σ s w (Instr.makeMap t (some (.int kn n))) (.map s.next) (s.new (.map [] .new)) := by
  obtain ⟨σ', v, w', g1, g2, g3⟩ := makeMap_run (P := P) H hf (t := t)
  refine ⟨σ', v, w', ?_, g2, g3⟩
  rw [← g1]
  simp [Instr.makeMap, run_und (hX.und _ _ hu), asInt, asIntOf]

theorem makeChan_run (hX : CxOk X P) (H : HR σ s w) (hf : σ s.next = none) {t el : TypeId} {d : ChanDir} {n : Int} {kn : IntKind} {i : TypeInfo} (hu : X.und t = some (.chan d el)) (hi : X.inf el = some i) (hc : 0 ≤ n ∧ n ≤ 2 ^ 20 ∧ i.bytes ≤ 2 ^ 20) :
    ORun P σ s w (Instr.makeChan t (.int kn n)) (.chan s.next) (s.new (.chan n.toNat [])) := by
  obtain ⟨h0, h1, h2⟩ := hc
  have n1 : ¬ (n < 0) := by omega
  have n2 : ¬ (9223372036854775807 < n) := by omega
  have n3 : ¬ (281474976710544 < (i.bytes : Int) * n) := by
    have : (i.bytes : Int) * n ≤ 2 ^ 20 * 2 ^ 20 := Int.mul_le_mul (by omega) h1 h0 (by omega)
    omega
  refine ⟨_, .chan (some w.heap.size), w.alloc (.chan n.toNat #[] false 0 0 false), ?_, ?_, Good.new H hf (.chan n.toNat []) (by simp) _ 0 (by simp [BR, vrels])⟩
  · simp [Instr.makeChan, asInt, asIntOf, run_und (hX.und _ _ hu), run_inf (hX.inf _ _ hi), n1, n2, n3, IntKind.max, IntKind.bits, IntKind.signed]
  · simp only [vrel]; exact ⟨_, Sg.add_self _ _ _, rfl⟩

end

end Go.Am
set_option linter.unusedSimpArgs false
set_option linter.unusedVariables false
set_option linter.unusedSectionVars false
set_option linter.unusedVariables false
namespace Go.Am
open Go
section
variable [Stat]
variable {X : Cx} {P : Program} {w : World} {σ : Sg} {s : St}

theorem run_getObj {r : Nat} {o : Obj} (h : w.heap[r]? = some o) (hc : ∀ c e f, o ≠ .cells c e f) : (getObj r).run P w = .ok o w := by
  cases o <;> first | (exact absurd rfl (hc _ _ _)) | simp [getObj, Sem.run, h]

theorem run_setObj {r : Nat} {o o' : Obj} (h : w.heap[r]? = some o) (hc : ∀ c e f, o ≠ .cells c e f) : (setObj r o').run P w = .ok () { w with heap := w.heap.setIfInBounds r o' } := by
  cases o <;> first | (exact absurd rfl (hc _ _ _)) | simp [setObj, Sem.run, h]

theorem allInts_cons {a : AV} {l : List AV} (h : allInts (a :: l) = true) : (∃ n, a = .int .i64 n) ∧ allInts l = true := by
  cases a <;> try (simp only [allInts] at h; cases h; done)
  rename_i k n
  cases k <;> simp only [allInts] at h <;> first | exact ⟨⟨n, rfl⟩, h⟩ | (cases h; done)

theorem allInts_get : ∀ {l : List AV}, allInts l = true → ∀ (i : Nat) (a : AV), l[i]? = some a → ∃ n, a = AV.int .i64 n
  | [], _, i, a, h => by simp at h
  | x :: l, h, i, a, e => by
    obtain ⟨h1, h2⟩ := allInts_cons h
    cases i with
    | zero => simp at e; rw [← e]; exact h1
    | succ i => exact allInts_get h2 i a (by simpa using e)

theorem part_plain {t : TypeId} {cs : Array Value} {off : Nat} {v : Value} (hu : P.underlying t = some (.int .i64)) (hv : cs[off]? = some v) : (part t cs off).run P w = .ok v w := by
  simp [part, isAgg, run_und hu, hv]

theorem checkKey_step {b : Bool} {d : Nat} {t : TypeId} {v : Value} {td : TypeDesc} (hu : P.underlying t = some td) (h1 : ∀ m, td ≠ .interface m) (h2 : ∀ n e, td ≠ .array n e) (h3 : ∀ f, td ≠ .struct f) : (Instr.checkKey b (d + 1) t v).run P w = .ok () w := by
  rw [Instr.checkKey]
  simp only [Sem.run_bind, run_und hu, Result.andThen_ok]
  cases td <;> first | rfl | (exact absurd rfl (h1 _)) | (exact absurd rfl (h2 _ _)) | (exact absurd rfl (h3 _))

theorem drop_cons {α : Type} {A : List α} {i : Nat} {c : α} {cs : List α} (h : A.drop i = c :: cs) : A[i]? = some c ∧ A.drop (i + 1) = cs := by
  constructor
  · have := congrArg (fun l => l[0]?) h
    simpa using this
  · have := congrArg List.tail h
    simpa using this

theorem fieldsKey_get {A : List AV} : ∀ {fs : List Field} {cs : List AV} {i : Nat}, A.drop i = cs → fieldsKey X fs cs i = true → ∀ f ∈ fs, ∃ c, A[f.offset]? = some c ∧ ¬ f.name = "_" ∧ ((∃ k n, X.und f.type = some (.int k) ∧ c = .int k n) ∨ (X.und f.type = some .string ∧ ∃ s, c = .str s))
  | [], _, _, _, _, f, hf => by cases hf
  | f0 :: fs, [], i, _, h, f, hf => by simp [fieldsKey] at h
  | f0 :: fs, c :: cs, i, hA, h, f, hf => by
    simp only [fieldsKey, Bool.and_eq_true, bne_iff_ne, ne_eq, beq_iff_eq] at h
    obtain ⟨⟨⟨h1, h2⟩, h3⟩, h4⟩ := h
    obtain ⟨hi, hA'⟩ := drop_cons hA
    rcases List.mem_cons.1 hf with rfl | hf
    · refine ⟨c, by rw [h2]; exact hi, h1, ?_⟩
      split at h3
      · rename_i k k' n hk
        simp only [decide_eq_true_eq] at h3; subst h3
        exact .inl ⟨_, _, hk, rfl⟩
      · rename_i s hk
        exact .inr ⟨hk, _, rfl⟩
      · cases h3
    · exact fieldsKey_get hA' h4 f hf

theorem checkKey_run (hX : CxOk X P) {b : Bool} {t : TypeId} {k : AV} {kv : Value} (hk : vrel σ k kv) (h : keyOk X t k = true) : (Instr.checkKey b 10000 t kv).run P w = .ok () w := by
  show (Instr.checkKey b (9999 + 1) t kv).run P w = .ok () w
  unfold keyOk at h
  split at h
  · rename_i hu; exact checkKey_step (hX.und _ _ hu) (by simp) (by simp) (by simp)
  · rename_i hu; exact checkKey_step (hX.und _ _ hu) (by simp) (by simp) (by simp)
  · rename_i hu; exact checkKey_step (hX.und _ _ hu) (by simp) (by simp) (by simp)
  · rename_i len e cs hu
    simp only [Bool.and_eq_true, beq_iff_eq] at h
    obtain ⟨⟨h1, h2⟩, h3⟩ := h
    split at h3
    · rename_i he hs
      obtain ⟨vs, rfl, hvs⟩ := vrel_agg hk
      have hsz := hvs.size
      rw [Instr.checkKey]
      simp only [Sem.run_bind, run_und (hX.und _ _ hu), Result.andThen_ok]
      rw [Std.Legacy.Range.forIn_eq_forIn_range']
      simp only [Std.Legacy.Range.size, Nat.sub_zero, Nat.add_sub_cancel, Nat.div_one]
      have key : ∀ (l : List Nat), (∀ i ∈ l, i < len) → ∀ f : Nat → PUnit → Sem (ForInStep PUnit), (∀ i, i < len → (f i PUnit.unit).run P w = .ok (ForInStep.yield PUnit.unit) w) → (forIn l PUnit.unit f).run P w = .ok PUnit.unit w := by
        intro l hl f hf
        induction l with
        | nil => rfl
        | cons i l ih =>
          simp only [List.forIn_cons, Sem.run_bind, hf i (hl i (by simp)), Result.andThen_ok]
          exact ih (fun j hj => hl j (by simp [hj]))
      rw [key (List.range' 0 len) (by intro i hi; simp at hi; omega) _ (by
        intro i hi
        have hic : i < cs.length := by omega
        obtain ⟨v, hv, hr⟩ := hvs.get i cs[i] (List.getElem?_eq_getElem hic)
        rw [Array.getElem?_toList] at hv
        obtain ⟨n, hn⟩ := allInts_get h1 i cs[i] (List.getElem?_eq_getElem hic)
        rw [hn] at hr
        have := vrel_int hr; subst this
        simp only [Sem.run_bind, run_size' hX hs, Result.andThen_ok, Nat.mul_one, part_plain (hX.und _ _ he) hv]
        rw [checkKey_step (d := 9998) (hX.und _ _ he) (by simp) (by simp) (by simp)]
        rfl)]
      rfl
    · cases h3
  · rename_i fs cs hu
    simp only [Bool.and_eq_true] at h
    obtain ⟨vs, rfl, hvs⟩ := vrel_agg hk
    rw [Instr.checkKey]
    simp only [Sem.run_bind, run_und (hX.und _ _ hu), Result.andThen_ok]
    have key : ∀ (l : List Field) (f : Field → PUnit → Sem (ForInStep PUnit)), (∀ x ∈ l, (f x PUnit.unit).run P w = .ok (ForInStep.yield PUnit.unit) w) → (forIn l PUnit.unit f).run P w = .ok PUnit.unit w := by
      intro l f hf
      induction l with
      | nil => rfl
      | cons i l ih =>
        simp only [List.forIn_cons, Sem.run_bind, hf i (by simp), Result.andThen_ok]
        exact ih (fun j hj => hf j (by simp [hj]))
    have each := fieldsKey_get (A := cs) (i := 0) rfl h.2
    rw [← Array.forIn_toList, key fs.toList _ (by
      intro x hx
      obtain ⟨c, hc, hn, hty⟩ := each x hx
      obtain ⟨v, hv, _⟩ := hvs.get _ c hc
      rw [Array.getElem?_toList] at hv
      have hp : (part x.type vs x.offset).run P w = .ok v w := by
        rcases hty with ⟨k, _, h1, _⟩ | ⟨h1, _⟩
        · simp [part, isAgg, run_und (hX.und _ _ h1), hv]
        · simp [part, isAgg, run_und (hX.und _ _ h1), hv]
      have hck : (Instr.checkKey b 9999 x.type v).run P w = .ok () w := by
        rcases hty with ⟨k, _, h1, _⟩ | ⟨h1, _⟩
        · exact checkKey_step (d := 9998) (hX.und _ _ h1) (by simp) (by simp) (by simp)
        · exact checkKey_step (d := 9998) (hX.und _ _ h1) (by simp) (by simp) (by simp)
      simp only [hn, ne_eq, not_false_eq_true, if_true, Sem.run_bind, hp, hck, Result.andThen_ok]
      rfl)]
    rfl
  · cases h

theorem flatEq_cons {x : AV} {a b : List AV} {r : Bool} (h : flatEq (x :: a) b = some r) : ∃ y c p q, b = y :: c ∧ flatEq a c = some q ∧ r = (p && q) ∧ ((∃ k n m, x = .int k n ∧ y = .int k m ∧ p = (n == m)) ∨ ∃ s t, x = .str s ∧ y = .str t ∧ p = (s == t)) := by
  cases x <;> try (simp only [flatEq] at h; cases h; done)
  · cases b with
    | nil => simp only [flatEq] at h; cases h
    | cons y c =>
      cases y <;> simp only [flatEq] at h <;> try (cases h; done)
      split at h
      · rename_i hk; subst hk
        split at h
        · rename_i q hq; cases h
          exact ⟨_, _, _, _, rfl, hq, rfl, .inl ⟨_, _, _, rfl, rfl, rfl⟩⟩
        · cases h
      · cases h
  · cases b with
    | nil => simp only [flatEq] at h; cases h
    | cons y c =>
      cases y <;> simp only [flatEq] at h <;> try (cases h; done)
      split at h
      · rename_i q hq; cases h
        exact ⟨_, _, _, _, rfl, hq, rfl, .inr ⟨_, _, rfl, rfl, rfl⟩⟩
      · cases h

theorem flatEq_nil {b : List AV} {r : Bool} (h : flatEq [] b = some r) : b = [] ∧ r = true := by
  cases b with
  | nil => simp only [flatEq] at h; cases h; exact ⟨rfl, rfl⟩
  | cons y c => simp only [flatEq] at h; cases h

theorem flatEq_eq : ∀ {a b : List AV}, flatEq a b = some true → a = b
  | [], b, h => (flatEq_nil h).1.symm
  | x :: a, b, h => by
    obtain ⟨y, c, p, q, rfl, h1, h2, h3⟩ := flatEq_cons h
    have h2 := h2.symm
    simp only [Bool.and_eq_true] at h2
    obtain ⟨rfl, rfl⟩ := h2
    rw [flatEq_eq h1]
    rcases h3 with ⟨k, n, m, rfl, rfl, e⟩ | ⟨s, t, rfl, rfl, e⟩
    · rw [eq_of_beq e.symm]
    · rw [eq_of_beq e.symm]

theorem eqElems_flat {d : Nat} {e : TypeId} (hu : X.und e = some (.int .i64)) : ∀ (k i : Nat) (a b : List AV) (r : Bool), allInts a = true → a.length = i + k → flatEq (a.drop i) (b.drop i) = some r →
    eqElems (eqT X (d + 1) e) (fun o l => partA X e l o) 1 k i a b = some r
  | 0, i, a, b, r, _, h1, h => by
    rw [List.drop_eq_nil_of_le (by omega)] at h
    obtain ⟨_, rfl⟩ := flatEq_nil h
    simp only [eqElems]
  | k + 1, i, a, b, r, ha, h1, h => by
    have hi : i < a.length := by omega
    obtain ⟨n, hn⟩ := allInts_get ha i a[i] (List.getElem?_eq_getElem hi)
    rw [List.drop_eq_getElem_cons hi, hn] at h
    obtain ⟨y, c, p, q, e1, e2, rfl, e3⟩ := flatEq_cons h
    rcases e3 with ⟨k', n', m, e4, rfl, rfl⟩ | ⟨s, t, e4, _⟩
    · cases e4
      obtain ⟨f1, f2⟩ := drop_cons e1
      have hagg : isAggT X e = some false := by simp [isAggT, hu]
      have g1 : partA X e a (i * 1) = some (.int .i64 n) := by
        simp only [partA, hagg, Nat.mul_one]; rw [List.getElem?_eq_getElem hi, hn]
      have g2 : partA X e b (i * 1) = some (.int .i64 m) := by
        simp only [partA, hagg, Nat.mul_one]; exact f1
      have g3 : eqT X (d + 1) e (.int .i64 n) (.int .i64 m) = some (n == m) := by simp [eqT, hu]
      simp only [eqElems, g1, g2, g3]
      have ih := eqElems_flat hu (d := d) k (i + 1) a b q ha (by omega) (by rw [f2]; exact e2)
      cases hnm : (n == m)
      · simp
      · simp only [ih, Bool.true_and]
    · cases e4

theorem eqFields_flat {d : Nat} {A B : List AV} : ∀ {fs : List Field} {cs bs : List AV} {i : Nat} {r : Bool}, A.drop i = cs → B.drop i = bs → fieldsKey X fs cs i = true → flatEq cs bs = some r →
    eqFieldsA (eqT X (d + 1)) (fun t o l => partA X t l o) fs A B = some r
  | [], cs, bs, i, r, _, _, hk, h => by
    cases cs with
    | nil =>
      obtain ⟨_, rfl⟩ := flatEq_nil h
      simp only [eqFieldsA]
    | cons c cs => simp [fieldsKey] at hk
  | f :: fs, [], bs, i, r, _, _, hk, h => by simp [fieldsKey] at hk
  | f :: fs, c :: cs, bs, i, r, hA, hB, hk, h => by
    obtain ⟨y, bs', p, q, rfl, e2, rfl, e3⟩ := flatEq_cons h
    obtain ⟨a1, a2⟩ := drop_cons hA
    obtain ⟨b1, b2⟩ := drop_cons hB
    simp only [fieldsKey, Bool.and_eq_true, bne_iff_ne, ne_eq, beq_iff_eq] at hk
    obtain ⟨⟨⟨h1, h2⟩, h3⟩, h4⟩ := hk
    have ih := eqFields_flat (d := d) a2 b2 h4 e2
    have hp : isAggT X f.type = some false ∧ eqT X (d + 1) f.type c y = some p := by
      split at h3
      · rename_i k k' n hu
        simp only [decide_eq_true_eq] at h3; subst h3
        rcases e3 with ⟨k2, n2, m, e4, rfl, rfl⟩ | ⟨s, t, e4, _⟩
        · cases e4
          exact ⟨by simp [isAggT, hu], by simp [eqT, hu]⟩
        · cases e4
      · rename_i s hu
        rcases e3 with ⟨k2, n2, m, e4, _⟩ | ⟨s2, t, e4, rfl, rfl⟩
        · cases e4
        · cases e4
          exact ⟨by simp [isAggT, hu], by simp [eqT, hu]⟩
      · cases h3
    have g1 : partA X f.type A f.offset = some c := by simp only [partA, hp.1, h2]; exact a1
    have g2 : partA X f.type B f.offset = some y := by simp only [partA, hp.1, h2]; exact b1
    simp only [eqFieldsA, h1, if_false, g1, g2, hp.2]
    cases p
    · simp
    · simp only [ih, Bool.true_and]

/-- two keys of a kind, compared as the map does -/
theorem keyEq_run (hX : CxOk X P) {t : TypeId} {a b : List AV} {u v : Value} {r : Bool} (ha : vrel σ (.agg a) u) (hb : vrel σ (.agg b) v) (hk : keyOk X t (.agg a) = true) (h : keyEq (.agg a) (.agg b) = some r) :
    (Op.equal t u v).run P w = .ok r w := by
  have h : flatEq a b = some r := h
  unfold keyOk at hk
  split at hk
  · rename_i e; cases e
  · rename_i e; cases e
  · rename_i e; cases e
  · rename_i len e cs hu ha'
    cases ha'
    simp only [Bool.and_eq_true, beq_iff_eq] at hk
    obtain ⟨⟨h1, h2⟩, h3⟩ := hk
    split at h3
    · rename_i he hs
      have : eqT X 3 t (.agg a) (.agg b) = some r := by
        have := eqElems_flat (X := X) (d := 1) he len 0 a b r h1 (by omega) (by simpa using h)
        unfold eqT
        rw [hu]
        simp only [hs]
        exact this
      exact eqT_run hX 3 t _ _ _ this u v ha hb 10000 (by omega) w
    · cases h3
  · rename_i fs cs hu ha'
    cases ha'
    simp only [Bool.and_eq_true] at hk
    have : eqT X 3 t (.agg a) (.agg b) = some r := by
      have := eqFields_flat (X := X) (d := 1) (A := a) (B := b) (i := 0) rfl rfl hk.2 (by simpa using h)
      unfold eqT
      rw [hu]
      simp only [hk.1, if_true]
      exact this
    exact eqT_run hX 3 t _ _ _ this u v ha hb 10000 (by omega) w
  · cases hk

/-- what the search finds, on both sides -/
def foundRel (σ : Sg) : Option AV → Option (Nat × Value) → Prop
  | none, none => True
  | some a, some (_, v) => vrel σ a v
  | _, _ => False

theorem findNow_rel {k : AV} {kv : Value} {d : TypeDesc} (hk : vrel σ k kv) (hd : match d, k with | .int _, .int _ _ => True | .string, .str _ => True | .bool, .bool _ => True | _, _ => False) :
    ∀ {es : List (AV × AV)} {ces : List MapEntry} {r : Option AV} (n : Nat), entriesRel σ es ces → findA k es = some r → ∃ q, Instr.findNow d kv ces n = some q ∧ foundRel σ r q
  | [], ces, r, n, he, h => by
    simp only [entriesRel] at he; subst he
    simp only [findA] at h; cases h
    exact ⟨none, rfl, trivial⟩
  | (k', v) :: es, ces, r, n, he, h => by
    simp only [entriesRel] at he
    obtain ⟨m, y, rfl, h1, h2, h3⟩ := he
    simp only [findA] at h
    have key : ∀ b, keyEq k k' = some b → Instr.sameNow d kv m.key = some b := by
      intro b hb
      cases k <;> try (simp only [keyEq] at hb; cases hb; done)
      all_goals (cases d <;> try (exact hd.elim))
      all_goals (cases k' <;> simp only [keyEq] at hb <;> try (cases hb; done))
      · cases hb
        rw [vrel_bool hk, vrel_bool h1]; rfl
      · rename_i k1 n1 _ k2 n2
        split at hb
        · rename_i hkk; subst hkk
          cases hb
          rw [vrel_int hk, vrel_int h1]
          simp [Instr.sameNow]
        · cases hb
      · cases hb
        obtain ⟨p, e1, e2⟩ := vrel_str hk
        obtain ⟨q, e3, e4⟩ := vrel_str h1
        rw [e1, e3, ← e2, ← e4]
        simp only [Instr.sameNow, bytes_beq]
    split at h
    · rename_i hb
      cases h
      exact ⟨some (n, m.val), by simp [Instr.findNow, key _ hb], h2⟩
    · rename_i hb
      obtain ⟨q, h4, h5⟩ := findNow_rel hk hd (n + 1) h3 h
      exact ⟨q, by simp only [Instr.findNow, key _ hb]; exact h4, h5⟩
    · cases h

theorem findAsking_rel (hX : CxOk X P) {t : TypeId} {a : List AV} {kv : Value} (hk : vrel σ (.agg a) kv) (hok : keyOk X t (.agg a) = true) :
    ∀ {es : List (AV × AV)} {ces : List MapEntry} {r : Option AV} (n : Nat), entriesRel σ es ces → findA (.agg a) es = some r → ∃ q, (Instr.findAsking t kv ces n).run P w = .ok q w ∧ foundRel σ r q
  | [], ces, r, n, he, h => by
    simp only [entriesRel] at he; subst he
    simp only [findA] at h; cases h
    exact ⟨none, rfl, trivial⟩
  | (k', v) :: es, ces, r, n, he, h => by
    simp only [entriesRel] at he
    obtain ⟨m, y, rfl, h1, h2, h3⟩ := he
    simp only [findA] at h
    have key : ∀ b, keyEq (.agg a) k' = some b → (Op.equal t kv m.key).run P w = .ok b w := by
      intro b hb
      cases k' <;> try (simp only [keyEq] at hb; cases hb; done)
      exact keyEq_run hX hk h1 hok hb
    split at h
    · rename_i hb
      cases h
      exact ⟨some (n, m.val), by simp [Instr.findAsking, key _ hb], h2⟩
    · rename_i hb
      obtain ⟨q, h4, h5⟩ := findAsking_rel hX hk hok (n + 1) h3 h
      exact ⟨q, by simp only [Instr.findAsking, Sem.run_bind, key _ hb, Result.andThen_ok, Bool.false_eq_true, if_false]; exact h4, h5⟩
    · cases h

theorem findKey_run (hX : CxOk X P) {t : TypeId} {k : AV} {kv : Value} (hk : vrel σ k kv) (hok : keyOk X t k = true) {es : List (AV × AV)} {ces : List MapEntry} {r : Option AV} (he : entriesRel σ es ces) (h : findA k es = some r) :
    ∃ q, (Instr.findKey t kv ces).run P w = .ok q w ∧ foundRel σ r q := by
  have hok0 := hok
  unfold keyOk at hok
  split at hok
  · rename_i kk k' n hu
    obtain ⟨q, h1, h2⟩ := findNow_rel (d := .int kk) hk trivial 0 he h
    exact ⟨q, by simp only [Instr.findKey, Sem.run_bind, run_und (hX.und _ _ hu), Result.andThen_ok, h1, Sem.run_pure], h2⟩
  · rename_i b hu
    obtain ⟨q, h1, h2⟩ := findNow_rel (d := .string) hk trivial 0 he h
    exact ⟨q, by simp only [Instr.findKey, Sem.run_bind, run_und (hX.und _ _ hu), Result.andThen_ok, h1, Sem.run_pure], h2⟩
  · rename_i b hu
    obtain ⟨q, h1, h2⟩ := findNow_rel (d := .bool) hk trivial 0 he h
    exact ⟨q, by simp only [Instr.findKey, Sem.run_bind, run_und (hX.und _ _ hu), Result.andThen_ok, h1, Sem.run_pure], h2⟩
  · rename_i len e cs hu
    obtain ⟨q, h1, h2⟩ := findAsking_rel (P := P) (w := w) hX hk hok0 0 he h
    refine ⟨q, ?_, h2⟩
    simp only [Instr.findKey, Sem.run_bind, run_und (hX.und _ _ hu), Result.andThen_ok]
    obtain ⟨vs, rfl, _⟩ := vrel_agg hk
    cases ces with
    | nil => simp only [Instr.findNow, Sem.run_pure]; simpa [Instr.findAsking] using h1
    | cons m y => simp only [Instr.findNow, Instr.sameNow]; exact h1
  · rename_i fs cs hu
    obtain ⟨q, h1, h2⟩ := findAsking_rel (P := P) (w := w) hX hk hok0 0 he h
    refine ⟨q, ?_, h2⟩
    simp only [Instr.findKey, Sem.run_bind, run_und (hX.und _ _ hu), Result.andThen_ok]
    obtain ⟨vs, rfl, _⟩ := vrel_agg hk
    cases ces with
    | nil => simp only [Instr.findNow, Sem.run_pure]; simpa [Instr.findAsking] using h1
    | cons m y => simp only [Instr.findNow, Instr.sameNow]; exact h1
  · cases hok

theorem HR.map (H : HR σ s w) {r : Nat} {p : Pl} {es : List (AV × AV)} {mi : MI} (hp : σ r = some p) (hg : s.get r = some (.map es mi)) : ∃ ces clock, w.heap[p.b]? = some (.map ces clock) ∧ entriesRel σ es ces.toList ∧ ces.toList.map MapEntry.born = mi.bs ∧ clock = mi.ck := by
  obtain ⟨o, ho, hb⟩ := H.blk r p _ hp (St.look_some hg (by simp))
  cases o <;> simp only [BR] at hb
  exact ⟨_, _, ho, hb⟩

theorem lookup_eq {t key elem : TypeId} {kv : Value} {ok : Bool} {q : Option (Nat × Value)} {mv : Value} {ces : Array MapEntry} (hu : P.underlying t = some (.map key elem))
    (hm : (mv = .map none ∧ ces = #[]) ∨ ∃ r clock, mv = .map (some r) ∧ w.heap[r]? = some (.map ces clock))
    (hck : ∀ b, (Instr.checkKey b 10000 key kv).run P w = .ok () w) (hf : (Instr.findKey key kv ces.toList).run P w = .ok q w) :
    (Instr.lookup t mv kv ok).run P w = match q with
      | some (_, v) => .ok (if ok then .tuple #[v, .bool true] else v) w
      | none => ((zeroValue elem).run P w).andThen fun z w => .ok (if ok then .tuple #[z, .bool false] else z) w := by
  rcases hm with ⟨rfl, rfl⟩ | ⟨r, clock, rfl, hr⟩
  · simp only [Instr.lookup, Sem.run_bind, run_und hu, Result.andThen_ok, Sem.run_pure, hck, hf]
    cases q with
    | none => simp only [Sem.run_bind, Sem.run_pure, Result.andThen_ok]
    | some q => obtain ⟨i, v⟩ := q; simp only [Sem.run_bind, Sem.run_pure, Result.andThen_ok]
  · simp only [Instr.lookup, Sem.run_bind, run_und hu, Result.andThen_ok, Sem.run_pure, run_getObj hr (by simp), hck, hf]
    cases q with
    | none => simp only [Sem.run_bind, Sem.run_pure, Result.andThen_ok]
    | some q => obtain ⟨i, v⟩ := q; simp only [Sem.run_bind, Sem.run_pure, Result.andThen_ok]

theorem lookup_fin (hX : CxOk X P) {t key elem : TypeId} {k : AV} {kv : Value} {ok : Bool} {mv : Value} {ces : Array MapEntry} {es : List (AV × AV)} {q0 : Option AV} {r : AV} (hu : X.und t = some (.map key elem)) (hk : vrel σ k kv) (hok : keyOk X key k = true)
    (hm : (mv = .map none ∧ ces = #[]) ∨ ∃ r clock, mv = .map (some r) ∧ w.heap[r]? = some (.map ces clock))
    (he : entriesRel σ es ces.toList) (hf : findA k es = some q0)
    (hr : (match q0 with
      | some v => some (if ok = true then AV.tup [v, .bool true] else v)
      | none => match zero X elem with
        | some z => some (if ok = true then AV.tup [z, .bool false] else z)
        | none => none) = some r) : PRun P w σ (Instr.lookup t mv kv ok) r := by
  obtain ⟨q, h1, h2⟩ := findKey_run (P := P) (w := w) hX hk hok he hf
  unfold PRun
  rw [lookup_eq (hX.und _ _ hu) hm (fun b => checkKey_run hX hk hok) h1]
  cases q0 with
  | some a =>
    cases q with
    | none => exact h2.elim
    | some q =>
      obtain ⟨i, v⟩ := q
      cases hr
      refine ⟨if ok then .tuple #[v, .bool true] else v, rfl, ?_⟩
      cases ok
      · exact h2
      · simp only [if_true, vrel]
        exact ⟨_, rfl, by simp only [vrels]; exact ⟨_, _, rfl, h2, _, _, rfl, by simp [vrel], rfl⟩⟩
  | none =>
    cases q with
    | some q => exact h2.elim
    | none =>
      simp only at hr
      split at hr
      · rename_i z hz
        cases hr
        obtain ⟨zv, hz1, hz2⟩ := zero_run (w := w) (σ := σ) hX hz
        refine ⟨if ok then .tuple #[zv, .bool false] else zv, by simp only [hz1, Result.andThen_ok], ?_⟩
        cases ok
        · exact hz2
        · simp only [if_true, vrel]
          exact ⟨_, rfl, by simp only [vrels]; exact ⟨_, _, rfl, hz2, _, _, rfl, by simp [vrel], rfl⟩⟩
      · cases hr

theorem vrel_fm {ks vs : List AV} {v : Value} (h : vrel σ (.fm ks vs) v) : ∃ r ces clock, v = .map (some r) ∧ σ.fz r = some (.map ces clock) ∧ vrels σ.bare ks (ces.toList.map MapEntry.key) ∧ vrels σ.bare vs (ces.toList.map MapEntry.val) := by simpa only [vrel] using h

theorem entries_zip {σ : Sg} : ∀ {ks vs : List AV} {l : List MapEntry}, vrels σ ks (l.map MapEntry.key) → vrels σ vs (l.map MapEntry.val) → entriesRel σ (ks.zip vs) l
  | [], vs, l, h, k => by
    simp only [vrels, List.map_eq_nil_iff] at h
    subst h; simp [entriesRel]
  | a :: ks, [], l, h, k => by
    simp only [vrels, List.map_eq_nil_iff] at k
    subst k; simp [vrels] at h
  | a :: ks, b :: vs, l, h, k => by
    cases l with
    | nil => simp [vrels] at h
    | cons m l =>
      simp only [List.map_cons, vrels] at h k
      obtain ⟨v, y, e, h1, h2⟩ := h
      obtain ⟨v', y', e', k1, k2⟩ := k
      cases e; cases e'
      simp only [List.zip_cons_cons, entriesRel]
      exact ⟨m, l, rfl, h1, k1, entries_zip h2 k2⟩

theorem lookupA_run (hX : CxOk X P) (H : HR σ s w) {t : TypeId} {m k r : AV} {mv kv : Value} {ok : Bool} (hm : vrel σ m mv) (hk : vrel σ k kv) (h : lookupA X t m k ok s = some r) : PRun P w σ (Instr.lookup t mv kv ok) r := by
  unfold lookupA at h
  split at h
  · rename_i key elem hu
    split at h
    · rename_i hok
      cases m <;> simp only at h <;> try (cases h; done)
      · -- nil
        simp only [vrel] at hm; subst hm
        exact lookup_fin hX hu hk hok (.inl ⟨rfl, rfl⟩) (es := []) (q0 := none) (by simp [entriesRel]) rfl h
      · rename_i b
        obtain ⟨p, hp, rfl⟩ := vrel_map hm
        cases hg : s.get b with
        | none => rw [hg] at h; cases h
        | some blk =>
          rw [hg] at h
          cases blk <;> simp only at h <;> try (cases h; done)
          rename_i es ro
          cases hf : findA k es with
          | none => rw [hf] at h; cases h
          | some q0 =>
            rw [hf] at h
            obtain ⟨ces, clock, g1, g2, _⟩ := H.map hp hg
            refine lookup_fin hX hu hk hok (.inr ⟨p.b, clock, rfl, g1⟩) g2 hf ?_
            cases q0 <;> exact h
      · rename_i ks vs
        obtain ⟨b, ces, clock, rfl, g1, g2, g3⟩ := vrel_fm hm
        cases hf : findA k (ks.zip vs) with
        | none => rw [hf] at h; cases h
        | some q0 =>
          rw [hf] at h
          refine lookup_fin hX hu hk hok (.inr ⟨b, clock, rfl, (H.fz _ _ g1).1⟩) ((entries_zip g2 g3).mono (Sg.bare_le σ)) hf ?_
          cases q0 <;> exact h
    · cases h
  · cases h

end

end Go.Am
set_option linter.unusedSimpArgs false
set_option linter.unusedVariables false
set_option linter.unusedSectionVars false
set_option linter.unusedVariables false
namespace Go.Am
open Go
section
variable [Stat]
variable {X : Cx} {P : Program} {w : World} {σ : Sg} {s : St}

theorem putA_ix {k v : AV} : ∀ {es es' : List (AV × AV)}, putA k v es = some es' → ∃ o, ixOf k es = some o ∧ es' = (match o with | none => es ++ [(k, v)] | some i => es.set i (k, v)) ∧ (∀ i, o = some i → i < es.length)
  | [], es', h => by
    simp only [putA] at h; cases h
    exact ⟨none, rfl, rfl, by simp⟩
  | (k', v') :: es, es', h => by
    simp only [putA] at h
    split at h
    · rename_i hb
      cases h
      exact ⟨some 0, by simp only [ixOf, hb], rfl, by simp⟩
    · rename_i hb
      split at h
      · rename_i r hr
        cases h
        obtain ⟨o, h1, h2, h3⟩ := putA_ix hr
        cases o with
        | none => exact ⟨none, by simp only [ixOf, hb, h1], by simp [h2], by simp⟩
        | some i => exact ⟨some (i + 1), by simp only [ixOf, hb, h1], by simp [h2], fun j hj => by cases hj; have := h3 i rfl; simp; omega⟩
      · cases h
    · cases h

theorem findNow_ix {k : AV} {kv : Value} {d : TypeDesc} (hk : vrel σ k kv) (hd : match d, k with | .int _, .int _ _ => True | .string, .str _ => True | .bool, .bool _ => True | _, _ => False) :
    ∀ {es : List (AV × AV)} {ces : List MapEntry} {o : Option Nat} (n : Nat), entriesRel σ es ces → ixOf k es = some o → ∃ q, Instr.findNow d kv ces n = some q ∧ (o = none → q = none) ∧ (∀ i, o = some i → ∃ m, ces[i]? = some m ∧ q = some (n + i, m.val))
  | [], ces, o, n, he, h => by
    simp only [entriesRel] at he; subst he
    simp only [ixOf] at h; cases h
    exact ⟨none, rfl, fun _ => rfl, by simp⟩
  | (k', v) :: es, ces, o, n, he, h => by
    simp only [entriesRel] at he
    obtain ⟨m, y, rfl, h1, h2, h3⟩ := he
    simp only [ixOf] at h
    have key : ∀ b, keyEq k k' = some b → Instr.sameNow d kv m.key = some b := by
      intro b hb
      cases k <;> try (simp only [keyEq] at hb; cases hb; done)
      all_goals (cases d <;> try (exact hd.elim))
      all_goals (cases k' <;> simp only [keyEq] at hb <;> try (cases hb; done))
      · cases hb
        rw [vrel_bool hk, vrel_bool h1]; rfl
      · rename_i k1 n1 _ k2 n2
        split at hb
        · rename_i hkk; subst hkk
          cases hb
          rw [vrel_int hk, vrel_int h1]
          simp [Instr.sameNow]
        · cases hb
      · cases hb
        obtain ⟨p, e1, e2⟩ := vrel_str hk
        obtain ⟨q, e3, e4⟩ := vrel_str h1
        rw [e1, e3, ← e2, ← e4]
        simp only [Instr.sameNow, bytes_beq]
    split at h
    · rename_i hb
      cases h
      exact ⟨some (n, m.val), by simp [Instr.findNow, key _ hb], by simp, fun i hi => by cases hi; exact ⟨m, rfl, rfl⟩⟩
    · rename_i hb
      split at h
      · rename_i i hi
        cases h
        obtain ⟨q, h4, h5, h6⟩ := findNow_ix hk hd (n + 1) h3 hi
        refine ⟨q, by simp only [Instr.findNow, key _ hb]; exact h4, by simp, fun j hj => ?_⟩
        cases hj
        obtain ⟨v, hm, hv⟩ := h6 i rfl
        exact ⟨v, by simpa using hm, by rw [hv]; congr 2; omega⟩
      · rename_i hi
        cases h
        obtain ⟨q, h4, h5, h6⟩ := findNow_ix hk hd (n + 1) h3 hi
        exact ⟨q, by simp only [Instr.findNow, key _ hb]; exact h4, fun _ => h5 rfl, by simp⟩
      · cases h
    · cases h

theorem findAsking_ix (hX : CxOk X P) {t : TypeId} {a : List AV} {kv : Value} (hk : vrel σ (.agg a) kv) (hok : keyOk X t (.agg a) = true) :
    ∀ {es : List (AV × AV)} {ces : List MapEntry} {o : Option Nat} (n : Nat), entriesRel σ es ces → ixOf (.agg a) es = some o → ∃ q, (Instr.findAsking t kv ces n).run P w = .ok q w ∧ (o = none → q = none) ∧ (∀ i, o = some i → ∃ m, ces[i]? = some m ∧ q = some (n + i, m.val))
  | [], ces, o, n, he, h => by
    simp only [entriesRel] at he; subst he
    simp only [ixOf] at h; cases h
    exact ⟨none, rfl, fun _ => rfl, by simp⟩
  | (k', v) :: es, ces, o, n, he, h => by
    simp only [entriesRel] at he
    obtain ⟨m, y, rfl, h1, h2, h3⟩ := he
    simp only [ixOf] at h
    have key : ∀ b, keyEq (.agg a) k' = some b → (Op.equal t kv m.key).run P w = .ok b w := by
      intro b hb
      cases k' <;> try (simp only [keyEq] at hb; cases hb; done)
      exact keyEq_run hX hk h1 hok hb
    split at h
    · rename_i hb
      cases h
      exact ⟨some (n, m.val), by simp [Instr.findAsking, key _ hb], by simp, fun i hi => by cases hi; exact ⟨m, rfl, rfl⟩⟩
    · rename_i hb
      split at h
      · rename_i i hi
        cases h
        obtain ⟨q, h4, h5, h6⟩ := findAsking_ix hX hk hok (n + 1) h3 hi
        refine ⟨q, by simp only [Instr.findAsking, Sem.run_bind, key _ hb, Result.andThen_ok, Bool.false_eq_true, if_false]; exact h4, by simp, fun j hj => ?_⟩
        cases hj
        obtain ⟨v, hm, hv⟩ := h6 i rfl
        exact ⟨v, by simpa using hm, by rw [hv]; congr 2; omega⟩
      · rename_i hi
        cases h
        obtain ⟨q, h4, h5, h6⟩ := findAsking_ix hX hk hok (n + 1) h3 hi
        exact ⟨q, by simp only [Instr.findAsking, Sem.run_bind, key _ hb, Result.andThen_ok, Bool.false_eq_true, if_false]; exact h4, fun _ => h5 rfl, by simp⟩
      · cases h
    · cases h

theorem findKey_ix (hX : CxOk X P) {t : TypeId} {k : AV} {kv : Value} (hk : vrel σ k kv) (hok : keyOk X t k = true) {es : List (AV × AV)} {ces : List MapEntry} {o : Option Nat} (he : entriesRel σ es ces) (h : ixOf k es = some o) :
    ∃ q, (Instr.findKey t kv ces).run P w = .ok q w ∧ (o = none → q = none) ∧ (∀ i, o = some i → ∃ m, ces[i]? = some m ∧ q = some (i, m.val)) := by
  have hok0 := hok
  unfold keyOk at hok
  split at hok
  · rename_i kk k' n hu
    obtain ⟨q, h1, h2, h3⟩ := findNow_ix (d := .int kk) hk trivial 0 he h
    exact ⟨q, by simp only [Instr.findKey, Sem.run_bind, run_und (hX.und _ _ hu), Result.andThen_ok, h1, Sem.run_pure], h2, by simpa using h3⟩
  · rename_i b hu
    obtain ⟨q, h1, h2, h3⟩ := findNow_ix (d := .string) hk trivial 0 he h
    exact ⟨q, by simp only [Instr.findKey, Sem.run_bind, run_und (hX.und _ _ hu), Result.andThen_ok, h1, Sem.run_pure], h2, by simpa using h3⟩
  · rename_i b hu
    obtain ⟨q, h1, h2, h3⟩ := findNow_ix (d := .bool) hk trivial 0 he h
    exact ⟨q, by simp only [Instr.findKey, Sem.run_bind, run_und (hX.und _ _ hu), Result.andThen_ok, h1, Sem.run_pure], h2, by simpa using h3⟩
  · rename_i len e cs hu
    obtain ⟨q, h1, h2, h3⟩ := findAsking_ix (P := P) (w := w) hX hk hok0 0 he h
    refine ⟨q, ?_, h2, by simpa using h3⟩
    simp only [Instr.findKey, Sem.run_bind, run_und (hX.und _ _ hu), Result.andThen_ok]
    obtain ⟨vs, rfl, _⟩ := vrel_agg hk
    cases ces with
    | nil => simp only [Instr.findNow, Sem.run_pure]; simpa [Instr.findAsking] using h1
    | cons m y => simp only [Instr.findNow, Instr.sameNow]; exact h1
  · rename_i fs cs hu
    obtain ⟨q, h1, h2, h3⟩ := findAsking_ix (P := P) (w := w) hX hk hok0 0 he h
    refine ⟨q, ?_, h2, by simpa using h3⟩
    simp only [Instr.findKey, Sem.run_bind, run_und (hX.und _ _ hu), Result.andThen_ok]
    obtain ⟨vs, rfl, _⟩ := vrel_agg hk
    cases ces with
    | nil => simp only [Instr.findNow, Sem.run_pure]; simpa [Instr.findAsking] using h1
    | cons m y => simp only [Instr.findNow, Instr.sameNow]; exact h1
  · cases hok

theorem flat_same : ∀ {a b : List AV} {r : Bool} {u v : List Value}, flatEq a b = some r → vrels σ a u → vrels σ a v → u = v
  | [], _, _, u, v, _, h1, h2 => by simp only [vrels] at h1 h2; rw [h1, h2]
  | x :: a, b, r, u, v, h, h1, h2 => by
    obtain ⟨y, c, p, q, rfl, h3, _, h4⟩ := flatEq_cons h
    simp only [vrels] at h1 h2
    obtain ⟨p1, y1, rfl, e1, e2⟩ := h1
    obtain ⟨p2, y2, rfl, e3, e4⟩ := h2
    rw [flat_same h3 e2 e4]
    rcases h4 with ⟨k, n, m, rfl, _⟩ | ⟨s, t, rfl, _⟩
    · rw [vrel_int e1, vrel_int e3]
    · obtain ⟨q1, rfl, g1⟩ := vrel_str e1
      obtain ⟨q2, rfl, g2⟩ := vrel_str e3
      have : q1 = q2 := by
        cases q1; cases q2
        congr 1
        apply Array.toList_inj.1
        simp only at g1 g2
        rw [g1, g2]
      rw [this]

theorem sameBits_self_flat : ∀ {a b : List AV} {r : Bool} {u : List Value}, flatEq a b = some r → vrels σ a u → (u.zip u).all (fun (x, y) => Instr.sameBits 9999 x y) = true
  | [], _, _, u, _, h1 => by simp only [vrels] at h1; subst h1; rfl
  | x :: a, b, r, u, h, h1 => by
    obtain ⟨y, c, p, q, rfl, h3, _, h4⟩ := flatEq_cons h
    simp only [vrels] at h1
    obtain ⟨p1, y1, rfl, e1, e2⟩ := h1
    simp only [List.zip_cons_cons, List.all_cons, Bool.and_eq_true]
    refine ⟨?_, sameBits_self_flat h3 e2⟩
    show Instr.sameBits (9998 + 1) _ _ = true
    rcases h4 with ⟨k, n, m, rfl, _⟩ | ⟨s, t, rfl, _⟩
    · rw [vrel_int e1, Instr.sameBits]; simp
    · obtain ⟨q1, rfl, g1⟩ := vrel_str e1
      rw [Instr.sameBits, bytes_beq]; simp

theorem sameBits_of_keyEq {k k' : AV} {kv mk : Value} (hk : vrel σ k kv) (hm : vrel σ k' mk) (h : keyEq k k' = some true) : Instr.sameBits 10000 mk kv = true := by
  show Instr.sameBits (9999 + 1) mk kv = true
  cases k <;> try (simp only [keyEq] at h; cases h; done)
  all_goals (cases k' <;> simp only [keyEq] at h <;> try (cases h; done))
  · rw [vrel_bool hk, vrel_bool hm, Instr.sameBits]
    simp at h; simp [h]
  · split at h
    · rename_i hkk; subst hkk
      rw [vrel_int hk, vrel_int hm, Instr.sameBits]
      simp at h; simp [h]
    · cases h
  · obtain ⟨p, e1, e2⟩ := vrel_str hk
    obtain ⟨q, e3, e4⟩ := vrel_str hm
    rw [e1, e3, Instr.sameBits, bytes_beq]
    simp at h; simp [e2, e4, h]
  · have e := flatEq_eq h
    subst e
    obtain ⟨us, rfl, hus⟩ := vrel_agg hk
    obtain ⟨vs, rfl, hvs⟩ := vrel_agg hm
    have e := flat_same h hus hvs
    have e' : us = vs := by cases us; cases vs; simpa using e
    subst e'
    rw [Instr.sameBits]
    simp only [beq_self_eq_true, Bool.true_and]
    exact sameBits_self_flat h hus

theorem ixOf_get {k : AV} : ∀ {es : List (AV × AV)} {i : Nat}, ixOf k es = some (some i) → ∃ k' v', es[i]? = some (k', v') ∧ keyEq k k' = some true
  | [], i, h => by simp only [ixOf] at h; cases h
  | (k', v') :: es, i, h => by
    simp only [ixOf] at h
    split at h
    · rename_i hb; cases h; exact ⟨k', v', rfl, hb⟩
    · split at h
      · rename_i j hj; cases h
        obtain ⟨a, b, h1, h2⟩ := ixOf_get hj
        exact ⟨a, b, by simpa using h1, h2⟩
      · cases h
      · cases h
    · cases h

theorem entriesRel_get : ∀ {es : List (AV × AV)} {ces : List MapEntry}, entriesRel σ es ces → ∀ (i : Nat) (k v : AV), es[i]? = some (k, v) → ∃ m, ces[i]? = some m ∧ vrel σ k m.key ∧ vrel σ v m.val
  | [], ces, _, i, k, v, h => by simp at h
  | (k', v') :: es, ces, he, i, k, v, h => by
    simp only [entriesRel] at he
    obtain ⟨m, y, rfl, h1, h2, h3⟩ := he
    cases i with
    | zero => simp at h; exact ⟨m, rfl, h.1 ▸ h1, h.2 ▸ h2⟩
    | succ i => simpa using entriesRel_get h3 i k v (by simpa using h)

theorem entriesRel_set {k v : AV} {kv vv : Value} (hk : vrel σ k kv) (hv : vrel σ v vv) : ∀ {es : List (AV × AV)} {ces : List MapEntry} (i : Nat), entriesRel σ es ces → entriesRel σ (es.set i (k, v)) (ces.modify i fun e => { e with key := kv, val := vv })
  | [], ces, i, h => by simp only [entriesRel] at h; subst h; simp [entriesRel]
  | (k', v') :: es, ces, i, h => by
    simp only [entriesRel] at h
    obtain ⟨m, y, rfl, h1, h2, h3⟩ := h
    cases i with
    | zero => simp only [List.set_cons_zero, List.modify_zero_cons, entriesRel]; exact ⟨_, _, rfl, hk, hv, h3⟩
    | succ i => simp only [List.set_cons_succ, List.modify_succ_cons, entriesRel]; exact ⟨_, _, rfl, h1, h2, entriesRel_set hk hv i h3⟩

theorem entriesRel_setKey {k k0 v : AV} {kv : Value} (hk : vrel σ k kv) {es0 : List (AV × AV)} {i0 : Nat} (_h0 : es0[i0]? = some (k0, v)) : ∀ {es : List (AV × AV)} {ces : List MapEntry} (i : Nat), entriesRel σ es ces → es[i]? = some (k0, v) → entriesRel σ (es.set i (k, v)) (ces.modify i fun e => { e with key := kv })
  | [], ces, i, h, e => by simp at e
  | (k', v') :: es, ces, i, h, e => by
    simp only [entriesRel] at h
    obtain ⟨m, y, rfl, h1, h2, h3⟩ := h
    cases i with
    | zero => simp at e; simp only [List.set_cons_zero, List.modify_zero_cons, entriesRel]; exact ⟨_, _, rfl, hk, e.2 ▸ h2, h3⟩
    | succ i => simp only [List.set_cons_succ, List.modify_succ_cons, entriesRel]; exact ⟨_, _, rfl, h1, h2, entriesRel_setKey hk _h0 i h3 (by simpa using e)⟩

theorem entriesRel_setVal {k v0 v : AV} {vv : Value} (hv : vrel σ v vv) : ∀ {es : List (AV × AV)} {ces : List MapEntry} (i : Nat), entriesRel σ es ces → es[i]? = some (k, v0) → entriesRel σ (es.set i (k, v)) (ces.modify i fun e => { e with val := vv })
  | [], ces, i, h, e => by simp at e
  | (k', v') :: es, ces, i, h, e => by
    simp only [entriesRel] at h
    obtain ⟨m, y, rfl, h1, h2, h3⟩ := h
    cases i with
    | zero => simp at e; simp only [List.set_cons_zero, List.modify_zero_cons, entriesRel]; exact ⟨_, _, rfl, e.1 ▸ h1, hv, h3⟩
    | succ i => simp only [List.set_cons_succ, List.modify_succ_cons, entriesRel]; exact ⟨_, _, rfl, h1, h2, entriesRel_setVal hv i h3 (by simpa using e)⟩

theorem entriesRel_push {k v : AV} {m : MapEntry} (hk : vrel σ k m.key) (hv : vrel σ v m.val) : ∀ {es : List (AV × AV)} {ces : List MapEntry}, entriesRel σ es ces → entriesRel σ (es ++ [(k, v)]) (ces ++ [m])
  | [], ces, h => by simp only [entriesRel] at h; subst h; simp only [List.nil_append, entriesRel]; exact ⟨_, _, rfl, hk, hv, rfl⟩
  | (k', v') :: es, ces, h => by
    simp only [entriesRel] at h
    obtain ⟨m', y, rfl, h1, h2, h3⟩ := h
    simp only [List.cons_append, entriesRel]
    exact ⟨_, _, rfl, h1, h2, entriesRel_push hk hv h3⟩

theorem born_modify (f : MapEntry → MapEntry) (hf : ∀ e, (f e).born = e.born) : ∀ (l : List MapEntry) (i : Nat), (l.modify i f).map MapEntry.born = l.map MapEntry.born
  | [], i => by simp
  | e :: l, 0 => by simp [hf]
  | e :: l, i + 1 => by simpa using born_modify f hf l i

/-- another map in its place -/
theorem put_map (H : HR σ s w) {b : Nat} {p : Pl} {es es' : List (AV × AV)} {mi mi' : MI} (hp : σ b = some p) (hg : s.get b = some (.map es mi)) (hro : mi.ro = false) (hro' : mi'.ro = false) {ces' : Array MapEntry} (h1 : entriesRel σ es' ces'.toList) (h2 : ces'.toList.map MapEntry.born = mi'.bs) :
    Good σ s w σ (s.put b (.map es' mi')) { w with heap := w.heap.setIfInBounds p.b (.map ces' mi'.ck) } := by
  have hlt : p.b < w.heap.size := H.lt _ _ hp
  refine Good.put H hp (St.look_some hg (by simp)) (by simp [Blk.own, hro]) (by simp) (by simp) ?_ (o := .map ces' mi'.ck) ?_ ⟨h1, h2, rfl⟩ rfl rfl rfl
  · intro c hc
    simp only
    rw [Array.getElem?_setIfInBounds_ne (fun e => hc e.symm)]
  · simp [hlt]

theorem updateA_run (hX : CxOk X P) (H : HR σ s w) {t : TypeId} {m k v : AV} {mv kv vv : Value} {s' : St} (hm : vrel σ m mv) (hk : vrel σ k kv) (hv : vrel σ v vv) (h : updateA X t m k v s = some s') :
    ∃ w', (Instr.mapUpdate t mv kv vv).run P w = .ok () w' ∧ Good σ s w σ s' w' := by
  unfold updateA at h
  split at h
  · rename_i key elem b hu
    split at h
    · rename_i hok
      split at h
      · rename_i es mi hg
        split at h
        · cases h
        · rename_i hro
          have hro : mi.ro = false := by simpa using hro
          split at h
          · rename_i es' hput
            cases h
            obtain ⟨p, hp, rfl⟩ := vrel_map hm
            obtain ⟨ces, clock, g1, g2, g3, rfl⟩ := H.map hp hg
            obtain ⟨o, h1, h2, h3⟩ := putA_ix hput
            obtain ⟨q, f1, f2, f3⟩ := findKey_ix (P := P) (w := w) hX hk hok g2 h1
            cases o with
            | none =>
              rw [f2 rfl] at f1
              have hgr : mi.grow es.length es'.length = { mi with bs := mi.bs ++ [mi.ck], ck := mi.ck + 1 } := by
                simp only at h2; rw [h2]; simp [MI.grow]
              rw [hgr]
              refine ⟨_, ?_, put_map (mi' := { mi with bs := mi.bs ++ [mi.ck], ck := mi.ck + 1 }) H hp hg hro hro (ces' := ces.push { key := kv, val := vv, born := mi.ck }) (by simp only at h2; rw [h2, Array.toList_push]; exact entriesRel_push hk hv g2) (by simp [g3])⟩
              simp only [Instr.mapUpdate, Sem.run_bind, run_und (hX.und _ _ hu), Result.andThen_ok, run_getObj g1 (by simp), checkKey_run hX hk hok, f1, run_setObj g1 (by simp)]
            | some i =>
              obtain ⟨om, hom, hq⟩ := f3 i rfl
              rw [hq] at f1
              obtain ⟨k', v', e1, e2⟩ := ixOf_get h1
              obtain ⟨m, e3, e4, e5⟩ := entriesRel_get g2 i k' v' e1
              rw [Array.getElem?_toList] at e3
              have hgr : mi.grow es.length es'.length = mi := by
                simp only at h2; rw [h2]; simp [MI.grow]
              rw [hgr]
              refine ⟨_, ?_, put_map H hp hg hro hro (ces' := ces.modify i fun e => { e with key := kv, val := vv }) (by simp only at h2; rw [h2, Array.toList_modify]; exact entriesRel_set hk hv i g2) (by rw [Array.toList_modify]; refine (born_modify _ ?_ _ _).trans g3; intro e; rfl)⟩
              simp only [Instr.mapUpdate, Sem.run_bind, run_und (hX.und _ _ hu), Result.andThen_ok, run_getObj g1 (by simp), checkKey_run hX hk hok, f1, e3, Option.map_some, Option.getD_some]
              simp only [Instr.keyThatStays, sameBits_of_keyEq hk e4 e2, if_true, Sem.run_pure, Result.andThen_ok, run_setObj g1 (by simp)]
          · cases h
      · cases h
    · cases h
  · cases h

theorem setIfInBounds_same {α : Type} {a : Array α} {i : Nat} {x : α} (h : a[i]? = some x) : a.setIfInBounds i x = a := by
  apply Array.ext_getElem?
  intro j
  rw [Array.getElem?_setIfInBounds]
  split
  · rename_i e; subst e
    have : i < a.size := (Array.getElem?_eq_some_iff.1 h).1
    simp [this, ← h]
  · rfl

theorem entriesRel_erase : ∀ {es : List (AV × AV)} {ces : List MapEntry} (i : Nat), entriesRel σ es ces → entriesRel σ (es.eraseIdx i) (ces.eraseIdx i)
  | [], ces, i, h => by simp only [entriesRel] at h; subst h; simp [entriesRel]
  | (k', v') :: es, ces, i, h => by
    simp only [entriesRel] at h
    obtain ⟨m, y, rfl, h1, h2, h3⟩ := h
    cases i with
    | zero => simpa using h3
    | succ i => simp only [List.eraseIdx_cons_succ, entriesRel]; exact ⟨_, _, rfl, h1, h2, entriesRel_erase i h3⟩

theorem map_eraseIdx {α β : Type} (f : α → β) : ∀ (l : List α) (i : Nat), (l.eraseIdx i).map f = (l.map f).eraseIdx i
  | [], i => by simp
  | a :: l, 0 => by simp
  | a :: l, i + 1 => by simp [map_eraseIdx f l i]

theorem deleteA_run (hX : CxOk X P) (H : HR σ s w) {ts : Array TypeId} {t ty : TypeId} {m k v : AV} {mv kv : Value} {s' : St} (ht : ts[0]? = some t) (hm : vrel σ m mv) (hk : vrel σ k kv) (h : deleteA X t m k s = some (v, s')) :
    ORun P σ s w (Builtin.delete_ ts ty #[mv, kv]) v s' := by
  unfold deleteA at h
  split at h
  · rename_i key elem hu
    split at h
    · rename_i hok
      split at h
      · cases h
        simp only [vrel] at hm; subst hm
        refine ⟨σ, .tuple #[], w, ?_, by simp [vrel, vrels], Good.refl H⟩
        simp only [Builtin.delete_, ht, Sem.run_bind, Sem.run_pure, Result.andThen_ok, run_und (hX.und _ _ hu), checkKey_run hX hk hok, List.getElem?_toArray, List.getElem?_cons_zero, List.getElem?_cons_succ]
      · rename_i b
        split at h
        · rename_i es mi hg
          split at h
          · cases h
          · rename_i hro
            have hro : mi.ro = false := by simpa using hro
            obtain ⟨p, hp, rfl⟩ := vrel_map hm
            obtain ⟨ces, clock, g1, g2, g3, rfl⟩ := H.map hp hg
            split at h
            · rename_i i hix
              cases h
              obtain ⟨q, f1, f2, f3⟩ := findKey_ix (P := P) (w := w) hX hk hok g2 hix
              obtain ⟨om, hom, hq⟩ := f3 i rfl
              rw [hq] at f1
              refine ⟨σ, .tuple #[], _, ?_, by simp [vrel, vrels], put_map (mi' := { mi with bs := mi.bs.eraseIdx i }) H hp hg hro hro (ces' := ces.eraseIdxIfInBounds i) ?_ ?_⟩
              · simp only [Builtin.delete_, ht, Sem.run_bind, Sem.run_pure, Result.andThen_ok, run_und (hX.und _ _ hu), run_getObj g1 (by simp), checkKey_run hX hk hok, f1, run_setObj g1 (by simp), List.getElem?_toArray, List.getElem?_cons_zero, List.getElem?_cons_succ]
              · rw [Array.toList_eraseIdxIfInBounds]; exact entriesRel_erase i g2
              · rw [Array.toList_eraseIdxIfInBounds, map_eraseIdx, g3]
            · rename_i hix
              cases h
              obtain ⟨q, f1, f2, f3⟩ := findKey_ix (P := P) (w := w) hX hk hok g2 hix
              rw [f2 rfl] at f1
              refine ⟨σ, .tuple #[], w, ?_, by simp [vrel, vrels], Good.refl H⟩
              simp only [Builtin.delete_, ht, Sem.run_bind, Sem.run_pure, Result.andThen_ok, run_und (hX.und _ _ hu), run_getObj g1 (by simp), checkKey_run hX hk hok, f1, run_setObj g1 (by simp), List.getElem?_toArray, List.getElem?_cons_zero, List.getElem?_cons_succ, setIfInBounds_same g1]
            · cases h
        · cases h
      · cases h
    · cases h
  · cases h

theorem entryA_run (hX : CxOk X P) (H : HR σ s w) {t : TypeId} {m k v : AV} {mv kv : Value} {s' : St} (hm : vrel σ m mv) (hk : vrel σ k kv) (h : entryA X t m k s = some (v, s')) :
    ORun P σ s w (Instr.mapEntry t mv kv) v s' := by
  unfold entryA at h
  split at h
  · rename_i key elem b hu
    split at h
    · rename_i hok
      split at h
      · rename_i es mi hg
        split at h
        · cases h
        · rename_i hro
          have hro : mi.ro = false := by simpa using hro
          obtain ⟨p, hp, rfl⟩ := vrel_map hm
          obtain ⟨ces, clock, g1, g2, g3, rfl⟩ := H.map hp hg
          split at h
          · rename_i i hix
            split at h
            · rename_i k0 v0 n hes hbs
              cases h
              obtain ⟨q, f1, f2, f3⟩ := findKey_ix (P := P) (w := w) hX hk hok g2 hix
              obtain ⟨om, hom, hq⟩ := f3 i rfl
              rw [hq] at f1
              obtain ⟨k', v', e1, e2⟩ := ixOf_get hix
              rw [hes] at e1; cases e1
              obtain ⟨m, e3, e4, e5⟩ := entriesRel_get g2 i k0 v0 hes
              have hmm : m = om := by rw [e3] at hom; exact Option.some.inj hom
              subst hmm
              have hbn : m.born = n := by
                rw [← g3, List.getElem?_map, e3] at hbs
                simpa using hbs
              rw [Array.getElem?_toList] at e3
              refine ⟨σ, .tuple #[m.val, goInt m.born], _, ?_, ?_, put_map H hp hg hro hro (ces' := ces.modify i fun e => { e with key := kv }) ?_ (by rw [Array.toList_modify]; refine (born_modify _ ?_ _ _).trans g3; intro e; rfl)⟩
              · simp only [Instr.mapEntry, Sem.run_bind, run_und (hX.und _ _ hu), Result.andThen_ok, run_getObj g1 (by simp), checkKey_run hX hk hok, f1, e3, Option.map_some, Option.getD_some]
                simp only [Instr.keyThatStays, sameBits_of_keyEq hk e4 e2, if_true, Sem.run_pure, Sem.run_bind, Result.andThen_ok, run_setObj g1 (by simp)]
              · simp only [vrel, vrels]
                exact ⟨_, rfl, _, _, rfl, e5, _, _, rfl, by rw [hbn]; rfl, rfl⟩
              · rw [Array.toList_modify]
                exact entriesRel_setKey hk hes i g2 hes
            · cases h
          · rename_i hix
            split at h
            · rename_i z hz
              cases h
              obtain ⟨q, f1, f2, f3⟩ := findKey_ix (P := P) (w := w) hX hk hok g2 hix
              rw [f2 rfl] at f1
              obtain ⟨zv, hz1, hz2⟩ := zero_run (P := P) (w := w) (σ := σ) hX hz
              refine ⟨σ, .tuple #[zv, goInt mi.ck], _, ?_, ?_, put_map (mi' := { mi with bs := mi.bs ++ [mi.ck], ck := mi.ck + 1 }) H hp hg hro hro (ces' := ces.push { key := kv, val := zv, born := mi.ck }) (by rw [Array.toList_push]; exact entriesRel_push hk hz2 g2) (by simp [g3])⟩
              · simp only [Instr.mapEntry, Sem.run_bind, run_und (hX.und _ _ hu), Result.andThen_ok, run_getObj g1 (by simp), checkKey_run hX hk hok, f1, hz1, run_setObj g1 (by simp), Sem.run_pure]
              · simp only [vrel, vrels]
                exact ⟨_, rfl, _, _, rfl, hz2, _, _, rfl, rfl, rfl⟩
            · cases h
          · cases h
      · cases h
    · cases h
  · cases h

theorem stampIx_find {n : Int} : ∀ {bs : List Nat} {l : List MapEntry} {i : Nat}, l.map MapEntry.born = bs → stampIx n bs = some i → l.findIdx? (fun e => (e.born : Int) == n) = some i
  | bs, [], i, h, k => by simp at h; subst h; simp [stampIx] at k
  | bs, e :: l, i, h, k => by
    simp at h; subst h
    simp only [stampIx] at k
    split at k
    · rename_i hb; cases k
      simp [List.findIdx?_cons, hb]
    · rename_i hb
      split at k
      · rename_i j hj; cases k
        rw [List.findIdx?_cons, stampIx_find rfl hj]
        simp [hb]
      · cases k

theorem entryStoreA_run (hX : CxOk X P) (H : HR σ s w) {t : TypeId} {m i x : AV} {mv iv xv : Value} {s' : St} (hm : vrel σ m mv) (hi : vrel σ i iv) (hx : vrel σ x xv) (h : entryStoreA m i x s = some s') :
    ∃ w', (Instr.entryStore t mv iv xv).run P w = .ok () w' ∧ Good σ s w σ s' w' := by
  unfold entryStoreA at h
  split at h
  · rename_i b kk n
    split at h
    · rename_i es mi hg
      split at h
      · cases h
      · rename_i hro
        have hro : mi.ro = false := by simpa using hro
        obtain ⟨p, hp, rfl⟩ := vrel_map hm
        obtain ⟨ces, clock, g1, g2, g3, rfl⟩ := H.map hp hg
        split at h
        · rename_i j hj
          split at h
          · rename_i k0 v0 hes
            cases h
            have hf := stampIx_find g3 hj
            have hf' : ces.findIdx? (fun e => (e.born : Int) == n) = some j := by
              rw [← hf]; cases ces; simp
            refine ⟨_, ?_, put_map H hp hg hro hro (ces' := ces.modify j fun e => { e with val := xv }) ?_ (by rw [Array.toList_modify]; refine (born_modify _ ?_ _ _).trans g3; intro e; rfl)⟩
            · rw [vrel_int hi]
              simp only [Instr.entryStore, Sem.run_bind, Sem.run_pure, Result.andThen_ok, run_getObj g1 (by simp), asInt, asIntOf, hf', run_setObj g1 (by simp)]
            · rw [Array.toList_modify]
              exact entriesRel_setVal hx j g2 hes
          · cases h
        · cases h
    · cases h
  · cases h

theorem rangeMap_run (hX : CxOk X P) (H : HR σ s w) (hf : σ s.next = none) {t k e : TypeId} {m : Nat} {es : List (AV × AV)} {mi : MI} {v : Value} (hu : X.und t = some (.map k e)) (hv : vrel σ (.map m) v) (hg : s.get m = some (.map es mi)) :
    ORun P σ s w (Instr.range t v) (.ptr s.next 0) (s.new (.miter (some m) mi.ck [] mi.ck)) := by
  obtain ⟨p, hp, rfl⟩ := vrel_map hv
  obtain ⟨ces, clock, g1, g2, g3, rfl⟩ := H.map hp hg
  have hne : m ≠ s.next := fun e => by rw [e, hf] at hp; cases hp
  refine ⟨_, .pointer (some ⟨w.heap.size, 0, none⟩), w.alloc (.mapIter (some p.b) mi.ck #[] mi.ck), run_range_map w t k e p.b ces mi.ck (hX.und _ _ hu) g1, ?_, Good.new H hf (.miter (some m) mi.ck [] mi.ck) (by simp) _ 0 ⟨rfl, rfl, rfl, rfl, p, by rw [Sg.add_ne _ _ hne]; exact hp, rfl⟩⟩
  simp only [vrel]; exact ⟨_, Sg.add_self _ _ _, by simp⟩

theorem rangeNil_run (hX : CxOk X P) (H : HR σ s w) (hf : σ s.next = none) {t k e : TypeId} {v : Value} (hu : X.und t = some (.map k e)) (hv : vrel σ .nilm v) :
    ORun P σ s w (Instr.range t v) (.ptr s.next 0) (s.new (.miter none 0 [] 0)) := by
  simp only [vrel] at hv; subst hv
  refine ⟨_, .pointer (some ⟨w.heap.size, 0, none⟩), w.alloc (.mapIter none 0 #[] 0), run_range_nilMap w t k e (hX.und _ _ hu), ?_, Good.new H hf (.miter none 0 [] 0) (by simp) _ 0 ⟨rfl, rfl, rfl, rfl, trivial⟩⟩
  simp only [vrel]; exact ⟨_, Sg.add_self _ _ _, by simp⟩

theorem left_rel : ∀ {es : List (AV × AV)} {ces : List MapEntry} {bs seen : List Nat}, entriesRel σ es ces → ces.map MapEntry.born = bs →
    ((ces.filter fun e => !seen.contains e.born) = [] ↔ leftA es bs seen = []) ∧ ∀ e ∈ ces.filter (fun e => !seen.contains e.born), ∃ x ∈ leftA es bs seen, vrel σ x.1.1 e.key ∧ vrel σ x.1.2 e.val ∧ x.2 = e.born
  | [], ces, bs, seen, h, hb => by
    simp only [entriesRel] at h; subst h
    simp at hb; subst hb
    simp [leftA]
  | (k', v') :: es, ces, bs, seen, h, hb => by
    simp only [entriesRel] at h
    obtain ⟨m, y, rfl, h1, h2, h3⟩ := h
    simp only [List.map_cons] at hb; subst hb
    obtain ⟨i1, i2⟩ := left_rel (seen := seen) h3 rfl
    have e1 : leftA ((k', v') :: es) (m.born :: y.map MapEntry.born) seen = if !seen.contains m.born then ((k', v'), m.born) :: leftA es (y.map MapEntry.born) seen else leftA es (y.map MapEntry.born) seen := by
      simp only [leftA, List.zip_cons_cons, List.filter_cons]
    rw [e1, List.filter_cons]
    cases hs : seen.contains m.born
    · simp only [Bool.not_false, if_true]
      refine ⟨by simp, fun e he => ?_⟩
      rcases List.mem_cons.1 he with rfl | he
      · exact ⟨_, List.mem_cons_self .., h1, h2, rfl⟩
      · obtain ⟨x, hx, r⟩ := i2 e he
        exact ⟨x, List.mem_cons_of_mem _ hx, r⟩
    · simp only [Bool.not_true, Bool.false_eq_true, if_false]
      exact ⟨i1, i2⟩

/-- a step over a map comes to one of the outcomes -/
theorem nextA_run (H : HR σ s w) {r : Nat} {v : Value} {ty : TypeId} (hv : vrel σ (.ptr r 0) v) (hn : nextA r s ≠ []) :
    ∃ x ∈ nextA r s, ORun P σ s w (Instr.next v false ty) x.1 x.2 := by
  obtain ⟨p, hp, rfl⟩ := vrel_ptr hv
  unfold nextA at hn ⊢
  split at hn
  · rename_i a b c hg
    obtain ⟨o, ho, hb⟩ := H.blk r p _ hp (St.look_some hg (by simp))
    cases o <;> simp only [BR] at hb
    rename_i m' a' b' c'
    obtain ⟨h0, h1, h2, h3, h4⟩ := hb
    cases m' with
    | some b => exact h4.elim
    | none =>
      rw [h0]
      refine ⟨_, List.mem_singleton.2 rfl, σ, .tuple #[.bool false], w, ?_, by simp [vrel, vrels], Good.refl H⟩
      simp only [Instr.next, getObj, Sem.run_bind, Sem.run, ho, Result.andThen]
      rfl
  · rename_i m since seen stepped hg
    obtain ⟨o, ho, hb⟩ := H.blk r p _ hp (St.look_some hg (by simp))
    cases o <;> simp only [BR] at hb
    rename_i m' since' seen' stepped'
    obtain ⟨h0, rfl, rfl, rfl, h4⟩ := hb
    cases m' with
    | none => exact h4.elim
    | some bm =>
      obtain ⟨q, hq, rfl⟩ := h4
      split at hn
      · rename_i es mi hgm
        obtain ⟨ces, clock, g1, g2, g3, rfl⟩ := H.map hq hgm
        split at hn
        · rename_i hc
          simp only [Bool.and_eq_true, List.all_eq_true, decide_eq_true_eq] at hc
          have hold : ∀ x ∈ ces.toList, x.born < since' := fun x hx => hc.1 _ (by rw [← g3]; exact List.mem_map_of_mem hx)
          obtain ⟨l1, l2⟩ := left_rel (σ := σ) (seen := seen'.toList) g2 g3
          have hleft : (leftOf ces seen').toList = ces.toList.filter fun e => !seen'.toList.contains e.born := by
            unfold leftOf
            rw [Array.toList_filter]
            congr 1
            funext e
            rw [Array.contains_toList]
          rw [h0]
          have hcc : ((mi.bs.all fun b => decide (b < since')) && decide (since' ≤ stepped')) = true := by
            simp only [Bool.and_eq_true, List.all_eq_true, decide_eq_true_eq]; exact hc
          simp only [hcc, if_true]
          rcases run_next_at (P := P) w ty p.b q.b since' stepped' seen' ces mi.ck ho g1 hold hc.2 with ⟨z1, z2⟩ | ⟨e, he, w1, hw1, z2⟩
          · have : leftA es mi.bs seen'.toList = [] := by
              rw [← l1, ← hleft]
              exact List.eq_nil_of_length_eq_zero (by simpa using z1)
            rw [this]
            refine ⟨_, List.mem_singleton.2 rfl, σ, .tuple #[.bool false], w, z2, by simp [vrel, vrels], Good.refl H⟩
          · rw [hleft] at he
            obtain ⟨x, hx, x1, x2, x3⟩ := l2 e he
            have hlt : p.b < w.heap.size := H.lt _ _ hp
            have hgood : Good σ s w σ (s.put r (.miter (some m) since' (seen'.toList ++ [x.2]) mi.ck)) (ChangeMaps.setBlock w1 p.b (.mapIter (some q.b) since' (seen'.push e.born) mi.ck)) := by
              have hh : (ChangeMaps.setBlock w1 p.b (.mapIter (some q.b) since' (seen'.push e.born) mi.ck)).heap = w.heap.setIfInBounds p.b (.mapIter (some q.b) since' (seen'.push e.born) mi.ck) := by
                rcases hw1 with rfl | rfl <;> rfl
              have hos : w1.os = w.os ∧ w1.tape = w.tape ∧ w1.output = w.output := by rcases hw1 with rfl | rfl <;> exact ⟨rfl, rfl, rfl⟩
              refine Good.put H hp (St.look_some hg (by simp)) rfl (by simp) (by rw [hh]; simp) (fun c hne => ?_) (o := .mapIter (some q.b) since' (seen'.push e.born) mi.ck) ?_ ⟨h0, rfl, by simp [x3], rfl, q, hq, rfl⟩ hos.1 hos.2.1 hos.2.2 (Drw.of (show w.drawn ≤ w1.drawn from by rcases hw1 with rfl | rfl <;> first | exact Nat.le_refl _ | exact Nat.le_succ _))
              · rw [hh, Array.getElem?_setIfInBounds_ne (fun e => hne e.symm)]
              · rw [hh, Array.getElem?_setIfInBounds_self]; simp [hlt]
            have hne : leftA es mi.bs seen'.toList ≠ [] := fun h => by rw [h] at hx; cases hx
            refine ⟨(.tup [.bool true, x.1.1, x.1.2], s.put r (.miter (some m) since' (seen'.toList ++ [x.2]) mi.ck)), ?_, σ, _, _, z2, ?_, hgood⟩
            · cases hl : leftA es mi.bs seen'.toList with
              | nil => exact absurd hl hne
              | cons a l =>
                rw [hl] at hx
                simp only
                exact List.mem_map_of_mem (f := fun x : (AV × AV) × Nat => ((.tup [.bool true, x.1.1, x.1.2] : AV), s.put r (.miter (some m) since' (seen'.toList ++ [x.2]) mi.ck))) hx
            · simp only [vrel, vrels]
              exact ⟨_, rfl, _, _, rfl, rfl, _, _, rfl, x1, _, _, rfl, x2, rfl⟩
        · exact absurd rfl hn
      · exact absurd rfl hn
  · exact absurd rfl hn

theorem one_some {α : Type} {l : List α} {x : α} (h : one l = some x) : l = [x] := by
  unfold one at h
  split at h
  · cases h; rfl
  · cases h

theorem lastL_back {l : List Nat} {b : Nat} (h : lastL l = some b) : l.getLast? = some b := by
  induction l with
  | nil => cases h
  | cons x l ih =>
    cases l with
    | nil => simpa [lastL] using h
    | cons y l =>
      simp only [lastL] at h
      rw [List.getLast?_cons_cons]
      exact ih h

theorem entryL_find : ∀ {es : List (AV × AV)} {ces : List MapEntry} {b : Nat} {x : AV × AV}, entriesRel σ es ces → entryL b es (ces.map MapEntry.born) = some x → ∃ e, ces.find? (fun e => e.born == b) = some e ∧ vrel σ x.1 e.key ∧ vrel σ x.2 e.val
  | [], ces, b, x, h, k => by simp [entryL] at k
  | (k', v') :: es, ces, b, x, h, k => by
    simp only [entriesRel] at h
    obtain ⟨m, y, rfl, h1, h2, h3⟩ := h
    simp only [List.map_cons, entryL] at k
    split at k
    · rename_i hb
      cases k
      exact ⟨m, by simp [hb], h1, h2⟩
    · rename_i hb
      obtain ⟨e, e1, e2⟩ := entryL_find h3 k
      exact ⟨e, by rw [List.find?_cons_of_neg (by simpa using hb)]; exact e1, e2⟩

theorem roundA_run (H : HR σ s w) {r : Nat} {v : Value} {a : AV} (hv : vrel σ (.ptr r 0) v) (h : roundA r s = some a) : PRun P w σ (Instr.entry v) a := by
  obtain ⟨p, hp, rfl⟩ := vrel_ptr hv
  unfold roundA at h
  split at h
  · rename_i m since seen stepped hg
    obtain ⟨o, ho, hb⟩ := H.blk r p _ hp (St.look_some hg (by simp))
    cases o <;> simp only [BR] at hb
    rename_i m' since' seen' stepped'
    obtain ⟨h0, rfl, rfl, rfl, h4⟩ := hb
    cases m' with
    | none => exact h4.elim
    | some bm =>
      obtain ⟨q, hq, rfl⟩ := h4
      split at h
      · rename_i es mi b hgm hl
        obtain ⟨ces, clock, g1, g2, g3, rfl⟩ := H.map hq hgm
        split at h
        · rename_i hck
          split at h
          · rename_i k x hx
            cases h
            rw [← g3] at hx
            obtain ⟨e, e1, e2, e3⟩ := entryL_find g2 hx
            have hback : seen'.back? = some b := by
              have := lastL_back hl
              rw [← Array.getLast?_toList]; exact this
            refine ⟨.tuple #[e.key, e.val], ?_, by simp only [vrel, vrels]; exact ⟨_, rfl, _, _, rfl, e2, _, _, rfl, e3, rfl⟩⟩
            have hf : ces.find? (fun x => x.born == b) = some e := by rw [← Array.find?_toList]; exact e1
            rw [h0]
            simp only [Instr.entry, getObj, Sem.run_bind, Sem.run, ho, g1, Result.andThen, hback, hck, bne_self_eq_false, Bool.false_eq_true, if_false, hf]
            rfl
          · cases h
        · cases h
      · cases h
  · cases h

theorem typeAssert_run (hX : CxOk X P) {xt a t : TypeId} {d : TypeDesc} {x : AV} {v : Value} {ok : Bool} (hu : X.und a = some d) (hd : notIface d = true) (hv : vrel σ (.iface t x) v) (ht : t = a) :
    PRun P w σ (Instr.typeAssert v xt a ok) (if ok then .tup [x, .bool true] else x) := by
  subst ht
  simp only [vrel] at hv
  obtain ⟨y, rfl, hy⟩ := hv
  refine ⟨if ok then .tuple #[y, .bool true] else y, ?_, ?_⟩
  · cases d <;> first | (cases hd; done) | (simp only [Instr.typeAssert, Sem.run_bind, run_und (hX.und _ _ hu), Result.andThen_ok, if_true, Sem.run_pure])
  · cases ok
    · exact hy
    · simp only [if_true, vrel, vrels]
      exact ⟨_, rfl, _, _, rfl, hy, _, _, rfl, rfl, rfl⟩

end

end Go.Am
