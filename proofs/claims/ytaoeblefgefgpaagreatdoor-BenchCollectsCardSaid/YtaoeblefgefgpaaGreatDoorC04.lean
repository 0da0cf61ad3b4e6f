/- A part of the proof of a statement of this seat: the machine on which the program is read, and what it computes; for every input. -/
import Derived.Test.YtaoeblefgefgpaaGreatDoorC00
import Derived.Test.YtaoeblefgefgpaaGreatDoorC03
import Derived.Lib.Bytealg
set_option linter.all false
set_option linter.all false
namespace Go.Am
open Go
/-! # What the functions do that the machine does not run by itself -/
abbrev Str := List UInt8
/-- the numeral, by steps that the kernel can count -/
def itoF : Nat → Nat → Str → Str
  | 0, _, acc => acc
  | f + 1, n, acc => bif Nat.blt n 10 then UInt8.ofNat (48 + n) :: acc else itoF f (n / 10) (UInt8.ofNat (48 + n % 10) :: acc)
def itoE (n : Int) : Str := bif decide (n < 0) then 45 :: itoF 20 n.natAbs [] else itoF 20 n.toNat []
def extItoa (args : List AV) (s : St) : Option (AV × St) := match args with
  | [.int .i64 n] => bif decide (-2 ^ 63 ≤ n) && decide (n < 2 ^ 63) then some (.str (itoE n), s) else none
  | _ => none
def extIndexByte (args : List AV) (s : St) : Option (AV × St) := match args with
  | [.str l, .int .u8 c] => some (.int .i64 (Lib.indexByte l c.toNat.toUInt8), s)
  | _ => none
def cntB (c : UInt8) : Str → Nat
  | [] => 0
  | x :: l => bif x == c then cntB c l + 1 else cntB c l
def extCount (args : List AV) (s : St) : Option (AV × St) := match args with
  | [.str l, .int .u8 c] => some (.int .i64 (cntB c.toNat.toUInt8 l : Nat), s)
  | _ => none
/-- maps.clone -/
def extClone (args : List AV) (s : St) : Option (AV × St) := match args with
  | [.iface t (.map r)] => match s.get r with
    | some (.map es mi) => some (.iface t (.map s.next), s.new (.map es { mi with ro := false }))
    | _ => none
  | _ => none
def strL : List AV → Option (List Str)
  | [] => some []
  | .str a :: l => match strL l with
    | some r => some (a :: r)
    | none => none
  | _ => none
def strsOf (v : AV) (s : St) : Option (List Str) := match v with
  | .nils => some []
  | .fz es => strL es
  | .sl b o len _ 1 => match s.cells b with
    | some c => match grab len o c with
      | some r => strL r
      | none => none
    | none => none
  | _ => none
def joinL (sep : Str) : List Str → Str
  | [] => []
  | [x] => x
  | x :: l => x ++ sep ++ joinL sep l
def extJoin (args : List AV) (s : St) : Option (AV × St) := match args with
  | [v, .str sep] => match strsOf v s with
    | some l => bif Nat.ble (joinL sep l).length 1000000 && Nat.ble l.length 1000000 then some (.str (joinL sep l), s) else none
    | none => none
  | _ => none
def isPtr : AV → Bool
  | .ptr .. => true
  | .nilp => true
  | _ => false
/-- slices.Delete at pointers -/
def extDelete (args : List AV) (s : St) : Option (AV × St) := match args with
  | [.sl b o len cp 1, .int .i64 i, .int .i64 j] => match s.cells b with
    | some cs => match grab len o cs with
      | some r => bif decide (0 ≤ i) && decide (i ≤ j) && decide (j ≤ (len : Int)) && !Nat.beq len 0 && r.all isPtr then
          match writeCells s b o (r.take i.toNat ++ r.drop j.toNat ++ List.replicate (j.toNat - i.toNat) .nilp) with
          | some s' => some (.sl b o (len - (j.toNat - i.toNat)) cp 1, s')
          | none => none
        else none
      | none => none
    | none => none
  | _ => none

/-! ### Shots -/
structure Shot where
  i : Str
  n : Int
  t : Int
  f : Int
  o : Int
  deriving DecidableEq
def Shot.cells (x : Shot) : List AV := [.str x.i, .int .i64 x.n, .int .i64 x.t, .int .i64 x.f, .int .i64 x.o]
def Shot.av (x : Shot) : AV := .agg x.cells
def shotC : List AV → Option Shot
  | [.str i, .int .i64 n, .int .i64 t, .int .i64 f, .int .i64 o] => some ⟨i, n, t, f, o⟩
  | _ => none
/-- the shots that lie in n times five cells -/
def shotsC : Nat → List AV → Option (List Shot)
  | 0, [] => some []
  | n + 1, a :: b :: c :: d :: e :: l => match shotC [a, b, c, d, e], shotsC n l with
    | some x, some r => some (x :: r)
    | _, _ => none
  | _, _ => none
def shotsF : List AV → Option (List Shot)
  | [] => some []
  | .agg c :: l => match shotC c, shotsF l with
    | some x, some r => some (x :: r)
    | _, _ => none
  | _ => none
def shotsCells (l : List Shot) : List AV := l.flatMap Shot.cells
def cmpI (x y : Int) : Int := bif decide (x < y) then -1 else bif decide (y < x) then 1 else 0
def cmpB : Str → Str → Int
  | [], [] => 0
  | [], _ :: _ => -1
  | _ :: _, [] => 1
  | a :: x, b :: y => bif Nat.blt a.toNat b.toNat then -1 else bif Nat.blt b.toNat a.toNat then 1 else cmpB x y
def orI (x y : Int) : Int := bif x == 0 then y else x
/-- by instrument and number; by time, instrument and number -/
def cmpK (x y : Shot) : Int := orI (cmpB x.i y.i) (cmpI x.n y.n)
def cmpT (x y : Shot) : Int := orI (cmpI x.t y.t) (cmpK x y)
def insS (cf : Shot → Shot → Int) (x : Shot) : List Shot → List Shot
  | [] => [x]
  | y :: l => bif decide (cf x y < 0) then x :: y :: l else y :: insS cf x l
def sortS (cf : Shot → Shot → Int) : List Shot → List Shot
  | [] => []
  | x :: l => insS cf x (sortS cf l)
def awayS (cf : Shot → Shot → Int) (x : Shot) : List Shot → Bool
  | [] => true
  | y :: l => !(cf x y == 0) && awayS cf x l
def distS (cf : Shot → Shot → Int) : List Shot → Bool
  | [] => true
  | x :: l => awayS cf x l && distS cf l
def cmpOf (c : FuncId) : Option (Shot → Shot → Int) := match c with
  | 39 => some cmpK
  | 93 => some cmpT
  | _ => none
/-- slices.SortFunc at shots no two of which are alike to the comparison -/
def extSort (args : List AV) (s : St) : Option (AV × St) := match args with
  | [.nils, .fn (.func c) [] []] => match cmpOf c with
    | some _ => some (.tup [], s)
    | none => none
  | [.sl b o len _ 5, .fn (.func c) [] []] => match cmpOf c, s.cells b with
    | some cf, some cs => match grab (len * 5) o cs with
      | some r => match shotsC len r with
        | some l => if distS cf l && Nat.ble l.length 1000000 then match writeCells s b o (shotsCells (sortS cf l)) with
            | some s' => some (.tup [], s')
            | none => none
          else none
        | none => none
      | none => none
    | _, _ => none
  | _ => none
/-! ### collect -/
def letterB (c : UInt8) : Bool := (Nat.ble 97 c.toNat && Nat.ble c.toNat 122) || (Nat.ble 65 c.toNat && Nat.ble c.toNat 90)
def laterB (c : UInt8) : Bool := letterB c || c == 95 || (Nat.ble 48 c.toNat && Nat.ble c.toNat 57)
/-- a name: a letter, then letters, digits and underlines -/
def nameB (s : Str) : Bool := match s with
  | [] => false
  | c :: l => letterB c && l.all laterB && Nat.ble s.length 24
def inB (n lo hi : Int) : Bool := decide (lo ≤ n) && decide (n ≤ hi)
/-- the error of a shot -/
def badS (x : Shot) : Int := bif nameB x.i then
    (bif inB x.n 1 1000 && inB x.t 0 999999999 && inB x.f (-999999999) 1999999998 && inB x.o (-999999999) 1999999998 then 0 else 3) else 8
def badL : List Shot → Int
  | [] => 0
  | x :: l => bif badS x == 0 then badL l else badS x
/-- each shot once, in the order of their coming; none: two that conflict -/
def foundL : List Shot → List Shot → Option (List Shot)
  | acc, [] => some acc
  | acc, x :: l => match acc.find? fun y => y.i == x.i && y.n == x.n with
    | some y => bif decide (y = x) then foundL acc l else none
    | none => foundL (acc ++ [x]) l
inductive RowC where
  | err (e : Int)
  | got (l : List Shot)
def collectC (l : List Shot) : RowC := bif Nat.blt 1000 l.length then .err 5 else bif badL l == 0 then match foundL [] l with
    | some r => .got (sortS cmpT r)
    | none => .err 29
  else .err (badL l)
/-- bench.collect -/
def shortS (x : Shot) : Bool := Nat.ble x.i.length 1000000
def collectG (args : List AV) : Option RowR := match (match args with | [.nils] => some [] | [.fz es] => shotsF es | _ => none) with
  | some l => bif l.all shortS then (match collectC l with
    | .err e => some (.flat (.tup [.nils, .int .i64 e]))
    | .got [] => some (.flat (.tup [.nils, .int .i64 0]))
    | .got (x :: r) => some (.row (r.length + 1) none 5 (.int .i64 0) (shotsCells (x :: r)) 42)) else none
  | none => none
end Go.Am
