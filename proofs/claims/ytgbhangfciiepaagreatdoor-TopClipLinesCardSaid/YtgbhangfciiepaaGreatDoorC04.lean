/- A part of the proof of a statement of this seat: the machine on which the program is read, and what it computes; for every input. -/
import Derived.Test.YtgbhangfciiepaaGreatDoorC01
import Derived.Test.YtgbhangfciiepaaGreatDoorC03
import Derived.Test.YtgbhangfciiepaaGreatDoorProg
import Derived.KernelRfl
import Derived.Lib.Bytealg
set_option linter.all false
set_option linter.all false
namespace Go.Am
open Go Go.Proofs
/-- (no package variable is read here) -/
class MaxLen where
  val : Int
variable [MaxLen]
/-- functions that may write what they are handed, or hand out what is not to be written out -/
def keeps : List Nat := [26, 29, 30, 31, 32, 33, 38, 39, 60, 61, 62, 145, 169]
def gbU (g : Nat) : Option Blk := none
/-- a float32 that is a number -/
def fin32 (w : Nat) : Bool := Nat.blt (w % 2 ^ 31) (255 * 2 ^ 23)
def extFin (args : List AV) (s : St) : Option (AV × St) := match args with
  | [.flt .f32 w] => some (.bool (fin32 w), s)
  | _ => none
def extBits (args : List AV) (s : St) : Option (AV × St) := match args with
  | [.flt .f64 b] => some (.int .u64 (b : Nat), s)
  | _ => none
def extFrom (args : List AV) (s : St) : Option (AV × St) := match args with
  | [.int .u64 n] => some (.flt .f64 n.toNat, s)
  | _ => none
def extAdd (args : List AV) (s : St) : Option (AV × St) := match args with
  | [.int .u64 x, .int .u64 y, .int .u64 c] => bif Nat.ble c.toNat 1 then some (.tup [.int .u64 (((x.toNat + y.toNat + c.toNat) % 2 ^ 64 : Nat) : Int), .int .u64 (((x.toNat + y.toNat + c.toNat) / 2 ^ 64 : Nat) : Int)], s) else none
  | _ => none
def extSub (args : List AV) (s : St) : Option (AV × St) := match args with
  | [.int .u64 x, .int .u64 y, .int .u64 c] => bif Nat.ble c.toNat 1 then some (.tup [.int .u64 (((x.toNat + 2 ^ 64 - y.toNat - c.toNat) % 2 ^ 64 : Nat) : Int), .int .u64 (bif Nat.blt x.toNat (y.toNat + c.toNat) then 1 else 0)], s) else none
  | _ => none
def extIndexByte (args : List AV) (s : St) : Option (AV × St) := match args with
  | [.str l, .int .u8 c] => some (.int .i64 (Lib.indexByte l c.toNat.toUInt8), s)
  | _ => none
def extU (f : FuncId) : Option (List AV → St → Option (AV × St)) := match f with
  | 18 => some extFin
  | 111 => some extBits
  | 114 => some extFrom
  | 131 => some extAdd
  | 151 => some extSub
  | 152 => some extIndexByte
  | _ => none
noncomputable def U : Cx :=
  { und := fun t => Tryz.prog.underlying t, inf := fun t => Tryz.prog.info? t, fn := fun f => Tryz.prog.funcs[f]?, glob := 11, eqOk := fun t => !Tryz.prog.eqGuardType Tryz.prog.depth t && !Tryz.prog.stoodInHeld t,
    gbase := gbU,
    pure := fun f => !keeps.contains f, ext := extU, spec := fun t => false }
set_option maxRecDepth 100000
noncomputable def okAt (fn : Func) : Bool := match fn.body with
  | some c => okC U fn.ntmps c
  | none => true
theorem U_ok : (Tryz.prog.funcs.toList.all okAt) = true := by kernel_rfl
theorem U_nm : (Tryz.prog.funcs.toList.all fun fn => !(fn.name == "runtime.NumGoroutine")) = true := by kernel_rfl
theorem U_mixed : Tryz.prog.follows .mixedOrders = true := by kernel_rfl
end Go.Am
