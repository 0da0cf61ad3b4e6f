/- A part of the proof of a statement of this seat: the machine on which the program is read, and what it computes; for every input. -/
import Derived.Test.YtkmaeondbkpajaaGreatDoorT01
import Derived.Test.YtkmaeondbkpajaaGreatDoorT02
import Derived.Test.YtkmaeondbkpajaaGreatDoorT03
import Derived.Test.YtkmaeondbkpajaaGreatDoorProg
import Derived.KernelRfl
import Derived.Lib.Bytealg
import Derived.Lib.AtoiAll
set_option linter.all false
set_option linter.all false
namespace Go.Am
open Go Go.Proofs
/-- what the one package variable holds that the statements leave open -/
class MaxLen where
  val : Int
variable [MaxLen]
/-- functions that may write what they are handed, or hand out what is not to be written out -/
def keeps : List Nat := [45, 46, 49, 50, 51, 52, 67, 78, 79, 80, 81, 86, 87, 88, 90, 95, 98, 99, 100, 104, 106, 107, 108, 109, 110, 113, 115, 122, 123, 127, 131, 132, 140, 141, 147, 148, 149, 150, 157, 158, 159, 161, 163, 166, 167, 169, 170, 171, 172, 196, 197, 198, 199, 200, 201, 202, 203, 204, 211, 212, 213, 220, 226, 228, 229, 230, 243, 244, 245, 246, 247, 248, 249, 250, 258, 291, 296, 297, 298, 299, 300, 301, 302, 303, 304, 305]
/-- the package's variables, as they stand from the start -/
def gcell : Nat → Option (List AV × TypeId)
  | 0 => some ([.int .i64 MaxLen.val], 3)
  | 1 => some ([.int .u64 1, .int .u64 10, .int .u64 100, .int .u64 1000, .int .u64 10000, .int .u64 100000, .int .u64 1000000, .int .u64 10000000, .int .u64 100000000, .int .u64 1000000000, .int .u64 10000000000, .int .u64 100000000000, .int .u64 1000000000000, .int .u64 10000000000000, .int .u64 100000000000000, .int .u64 1000000000000000, .int .u64 10000000000000000, .int .u64 100000000000000000, .int .u64 1000000000000000000, .int .u64 10000000000000000000], 313)
  | 2 => some ([.iface 332 (.fp [.str [105, 110, 118, 97, 108, 105, 100, 32, 115, 121, 110, 116, 97, 120]] 0)], 153)
  | 3 => some ([.iface 332 (.fp [.str [118, 97, 108, 117, 101, 32, 111, 117, 116, 32, 111, 102, 32, 114, 97, 110, 103, 101]] 0)], 153)
  | _ => none
def gbU (g : Nat) : Option Blk := match gcell g with
  | some (c, t) => some (.cells c t true 0 0)
  | none => none
def extCopy (args : List AV) (s : St) : Option (AV × St) := match args with
  | [.ptr b 0] => match s.get b with
    | some (.cells [p, buf] t false 0 0) => if t = 150 then match p with
        | .nilp => some (.tup [], s.put b (.cells [.ptr b 0, buf] t false 0 0))
        | .ptr b' 0 => if b' = b then some (.tup [], s) else none
        | _ => none
      else none
    | _ => none
  | _ => none
def extIndexByte (args : List AV) (s : St) : Option (AV × St) := match args with
  | [.str l, .int .u8 c] => some (.int .i64 (Lib.indexByte l c.toNat.toUInt8), s)
  | _ => none
/-- bytealg.IndexString, where the second string begins with a byte that the first one has not -/
def extIndexStr (args : List AV) (s : St) : Option (AV × St) := match args with
  | [.str l, .str (c :: m)] => if !l.contains c && decide (l.length ≤ 64) && decide (1 ≤ m.length) && decide (((m.length + 1 : Nat) : Int) ≤ MaxLen.val) then some (.int .i64 (-1), s) else none
  | _ => none
/-- strconv.Atoi at any string -/
def errS : AV := .iface 332 (.fp [.str [105, 110, 118, 97, 108, 105, 100, 32, 115, 121, 110, 116, 97, 120]] 0)
def errR : AV := .iface 332 (.fp [.str [118, 97, 108, 117, 101, 32, 111, 117, 116, 32, 111, 102, 32, 114, 97, 110, 103, 101]] 0)
def atoiV (l : List UInt8) : AV := match Lib.atoiAll l with
  | .ok v => .tup [.int .i64 v, .nili]
  | .range => .tup [.int .i64 (Lib.atoiSat l), .iface 308 (.fp [.str [65, 116, 111, 105], .str l, errR] 0)]
  | _ => .tup [.int .i64 0, .iface 308 (.fp [.str [65, 116, 111, 105], .str l, errS] 0)]
def extAtoi (args : List AV) (s : St) : Option (AV × St) := match args with
  | [.str l] => bif Nat.ble l.length 5000 then some (atoiV l, s) else none
  | _ => none
/-- strconv.Itoa -/
def extItoa (args : List AV) (s : St) : Option (AV × St) := match args with
  | [.int .i64 n] => bif decide (-2 ^ 63 ≤ n) && decide (n < 2 ^ 63) then some (.str (itoE n), s) else none
  | _ => none
def extU (f : FuncId) : Option (List AV → St → Option (AV × St)) := match f with
  | 75 => some extItoa
  | 147 => some extCopy
  | 160 => some extAtoi
  | 223 => some extIndexStr
  | 256 => some extIndexByte
  | _ => none
noncomputable def U : Cx :=
  { und := fun t => Tryz.prog.underlying t, inf := fun t => Tryz.prog.info? t, fn := fun f => bif Nat.beq f 36 then none else Tryz.prog.funcs[f]?, glob := 8, eqOk := fun t => !Tryz.prog.eqGuardType Tryz.prog.depth t && !Tryz.prog.stoodInHeld t,
    gbase := gbU,
    pure := fun f => !keeps.contains f, ext := extU, spec := fun t => Nat.beq t 150 || Nat.beq t 313 }
set_option maxRecDepth 100000
noncomputable def okAt (fn : Func) : Bool := fn.name == Tryz.f36.name || match fn.body with
  | some c => okC U fn.ntmps c
  | none => true
theorem U_ok : (Tryz.prog.funcs.toList.all okAt) = true := by kernel_rfl
theorem U_nm : (Tryz.prog.funcs.toList.all fun fn => !(fn.name == "runtime.NumGoroutine")) = true := by kernel_rfl
theorem U_mixed : Tryz.prog.follows .mixedOrders = true := by kernel_rfl
end Go.Am
