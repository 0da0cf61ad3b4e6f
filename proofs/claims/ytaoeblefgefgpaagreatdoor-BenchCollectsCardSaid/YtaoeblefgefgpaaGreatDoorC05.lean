/- A part of the proof of a statement of this seat: the machine on which the program is read, and what it computes; for every input. -/
import Derived.Test.YtaoeblefgefgpaaGreatDoorC02
import Derived.Test.YtaoeblefgefgpaaGreatDoorC03
import Derived.Test.YtaoeblefgefgpaaGreatDoorC04
import Derived.Test.YtaoeblefgefgpaaGreatDoorProg
import Derived.KernelRfl
set_option linter.all false
set_option linter.all false
namespace Go.Am
open Go Go.Proofs
/-- functions that are run in a state of their own -/
def pures : List Nat := [3, 4, 5, 6, 7, 8, 9, 10, 11, 12, 13, 14, 15, 16, 17, 18, 19, 20, 21, 22, 23, 29, 30, 31, 33, 35, 39, 40, 41, 42, 43, 44, 45, 46, 47, 49, 50, 51, 52, 55, 56, 58, 59, 61, 62, 65, 66, 68, 75, 78, 79, 80, 81, 83, 84, 85, 88, 89, 90, 91, 92, 93, 94, 95, 96, 97, 98, 99, 100, 101, 102, 103, 105, 106, 107, 108, 109, 110, 111, 112, 115, 116, 119, 120, 121, 122, 126, 131, 133, 134, 135, 136, 137, 138, 140, 142, 143, 148, 149, 150, 156, 157, 158, 159, 160, 161, 162, 163, 165, 166, 167, 168, 169, 170, 171, 172, 173, 174, 175, 176, 177, 178, 179, 180, 181, 182, 183, 184, 185, 186, 187, 188, 189, 190, 191, 192, 193, 194, 195, 196, 197, 198, 199, 200, 201, 202, 207, 213, 214, 215, 216, 217, 219, 220, 222, 223, 224, 225, 226, 227, 228, 229, 230, 231, 232, 233, 234, 235, 236, 237, 238, 239, 240, 241, 242, 243, 244, 246, 247, 248, 249, 250, 251, 252, 254, 255, 256, 257, 259, 260, 261, 262, 263, 264, 265, 266, 267, 268, 269, 270, 271, 272, 273, 274, 275, 276, 277, 278, 279, 280, 281, 282, 283, 284, 286, 287, 288, 289, 290, 291, 292, 293, 294, 295, 296, 297, 298, 299, 300]
def tab10 : List Nat := [1, 10, 100, 1000, 10000, 100000, 1000000, 10000000, 100000000, 1000000000, 10000000000, 100000000000, 1000000000000, 10000000000000, 100000000000000, 1000000000000000, 10000000000000000, 100000000000000000, 1000000000000000000, 10000000000000000000]
/-- the one variable of the packages that is read: a table -/
def gcell : Nat → Option (List AV × TypeId)
  | 1 => some (tab10.map fun n => .int .u64 (n : Nat), 354)
  | _ => none
def gbU (g : Nat) : Option Blk := match gcell g with
  | some (c, t) => some (.cells c t true 0 0)
  | none => none
noncomputable def mkU (gb : Nat → Option Blk) (ps : FuncId → Bool) (ext : FuncId → Option (List AV → St → Option (AV × St))) : Cx :=
  { und := fun t => Tryz.prog.underlying t, inf := fun t => Tryz.prog.info? t, fn := fun f => Tryz.prog.funcs[f]?, glob := 10, eqOk := fun t => !Tryz.prog.eqGuardType Tryz.prog.depth t && !Tryz.prog.stoodInHeld t,
    gbase := gb, pure := ps, ext := ext, spec := fun t => Nat.beq t 354 }
/-- the machine for which the code is looked at; the one without the functions that are told from outside -/
noncomputable def W0 : Cx := mkU (fun _ => none) (fun _ => false) (fun _ => none)
noncomputable def U0 : Cx := mkU (fun _ => none) (fun f => pures.contains f) (fun _ => none)
noncomputable def extU0 (f : FuncId) : Option (List AV → St → Option (AV × St)) := match f with
  | 38 => some extSort
  | _ => none
/-- the machine in which collect is shown -/
noncomputable def UC : Cx := mkU gbU (fun f => pures.contains f) extU0
noncomputable def extU1 (f : FuncId) : Option (List AV → St → Option (AV × St)) := match f with
  | 48 => some extItoa
  | 37 => some (rowG (X := UC) collectG)
  | 38 => some extSort
  | 60 => some extJoin
  | 73 => some extDelete
  | 212 => some extClone
  | 245 => some extIndexByte
  | 253 => some extCount
  | _ => none
noncomputable def U1 : Cx := mkU gbU (fun f => pures.contains f) extU1

/-! ### What the fixed examples call -/
def a78a : List AV := [(.str [97, 114, 109, 32, 97, 59, 32, 114, 101, 112, 101, 97, 116, 32, 50, 59, 32, 119, 97, 105, 116, 32, 51, 59, 32, 116, 114, 105, 103, 103, 101, 114, 59, 32, 101, 110, 100, 59, 32, 100, 105, 115, 97, 114, 109, 32, 97])]
def v78a : AV := (.tup [(.fz [(.agg [(.str [97, 114, 109]), (.str [97]), (.int .i64 0)]), (.agg [(.str [114, 101, 112, 101, 97, 116]), (.str []), (.int .i64 2)]), (.agg [(.str [119, 97, 105, 116]), (.str []), (.int .i64 3)]), (.agg [(.str [116, 114, 105, 103, 103, 101, 114]), (.str []), (.int .i64 0)]), (.agg [(.str [101, 110, 100]), (.str []), (.int .i64 0)]), (.agg [(.str [100, 105, 115, 97, 114, 109]), (.str [97]), (.int .i64 0)])]), (.int .i64 0), (.int .i64 0)])
def a78b : List AV := [(.str [97, 114, 109, 32, 97, 59, 32, 116, 114, 105, 103, 103, 101, 114])]
def v78b : AV := (.tup [(.fz [(.agg [(.str [97, 114, 109]), (.str [97]), (.int .i64 0)]), (.agg [(.str [116, 114, 105, 103, 103, 101, 114]), (.str []), (.int .i64 0)])]), (.int .i64 0), (.int .i64 0)])
def a77a : List AV := [(.fz [(.agg [(.str [97, 114, 109]), (.str [97]), (.int .i64 0)]), (.agg [(.str [114, 101, 112, 101, 97, 116]), (.str []), (.int .i64 2)]), (.agg [(.str [119, 97, 105, 116]), (.str []), (.int .i64 3)]), (.agg [(.str [116, 114, 105, 103, 103, 101, 114]), (.str []), (.int .i64 0)]), (.agg [(.str [101, 110, 100]), (.str []), (.int .i64 0)]), (.agg [(.str [100, 105, 115, 97, 114, 109]), (.str [97]), (.int .i64 0)])])]
def v77a : AV := (.tup [(.str [97, 114, 109, 32, 97, 59, 32, 114, 101, 112, 101, 97, 116, 32, 50, 59, 32, 119, 97, 105, 116, 32, 51, 59, 32, 116, 114, 105, 103, 103, 101, 114, 59, 32, 101, 110, 100, 59, 32, 100, 105, 115, 97, 114, 109, 32, 97]), (.int .i64 0)])
def a77b : List AV := [(.fz [(.agg [(.str [97, 114, 109]), (.str [97]), (.int .i64 0)]), (.agg [(.str [116, 114, 105, 103, 103, 101, 114]), (.str []), (.int .i64 0)])])]
def v77b : AV := (.tup [(.str [97, 114, 109, 32, 97, 59, 32, 116, 114, 105, 103, 103, 101, 114]), (.int .i64 0)])
def a27a : List AV := [(.agg [(.str [115]), (.fz [(.agg [(.str [97]), (.int .i64 5)])]), (.int .i64 2), (.int .i64 4), (.str [49, 47, 50])]), (.fz [(.agg [(.str [97, 114, 109]), (.str [97]), (.int .i64 0)]), (.agg [(.str [114, 101, 112, 101, 97, 116]), (.str []), (.int .i64 2)]), (.agg [(.str [119, 97, 105, 116]), (.str []), (.int .i64 3)]), (.agg [(.str [116, 114, 105, 103, 103, 101, 114]), (.str []), (.int .i64 0)]), (.agg [(.str [101, 110, 100]), (.str []), (.int .i64 0)]), (.agg [(.str [100, 105, 115, 97, 114, 109]), (.str [97]), (.int .i64 0)])])]
def v27a : AV := (.tup [(.fz [(.agg [(.str [97]), (.int .i64 1), (.int .i64 3), (.int .i64 6), (.int .i64 12)]), (.agg [(.str [97]), (.int .i64 2), (.int .i64 6), (.int .i64 9), (.int .i64 15)])]), (.int .i64 0)])
def a27b : List AV := [(.agg [(.str [115]), (.fz [(.agg [(.str [97]), (.int .i64 7)])]), (.int .i64 2), (.int .i64 4), (.str [48])]), (.fz [(.agg [(.str [97, 114, 109]), (.str [97]), (.int .i64 0)]), (.agg [(.str [116, 114, 105, 103, 103, 101, 114]), (.str []), (.int .i64 0)])])]
def v27b : AV := (.tup [(.fz [(.agg [(.str [97]), (.int .i64 1), (.int .i64 0), (.int .i64 5), (.int .i64 11)])]), (.int .i64 0)])
def a18 : List AV := [(.agg [(.str [115]), (.fz [(.agg [(.str [97]), (.int .i64 5)])]), (.int .i64 2), (.int .i64 4), (.str [49, 47, 50])])]
def v18 : AV := (.tup [(.str [115, 101, 116, 117, 112, 32, 115, 10, 105, 110, 115, 116, 114, 117, 109, 101, 110, 116, 32, 97, 32, 53, 10, 119, 105, 110, 100, 111, 119, 32, 50, 32, 52, 10, 108, 101, 118, 101, 108, 32, 49, 47, 50, 10, 115, 117, 109, 32, 57, 52, 56, 50, 53, 57, 49, 10]), (.int .i64 0)])
def a23 : List AV := [(.agg [(.str [115]), (.fz [(.agg [(.str [97]), (.int .i64 5)])]), (.int .i64 2), (.int .i64 4), (.str [49, 47, 50])])]
def v23 : AV := (.int .i64 0)
def a19 : List AV := [(.str [115, 101, 116, 117, 112, 32, 115, 10, 105, 110, 115, 116, 114, 117, 109, 101, 110, 116, 32, 97, 32, 53, 10, 119, 105, 110, 100, 111, 119, 32, 50, 32, 52, 10, 108, 101, 118, 101, 108, 32, 49, 47, 50, 10, 115, 117, 109, 32, 57, 52, 56, 50, 53, 57, 49, 10])]
def v19 : AV := (.tup [(.agg [(.str [115]), (.fz [(.agg [(.str [97]), (.int .i64 5)])]), (.int .i64 2), (.int .i64 4), (.str [49, 47, 50])]), (.int .i64 0), (.int .i64 0)])
def a108 : List AV := [(.fz [(.agg [(.str [97, 114, 109]), (.str [97]), (.int .i64 0)]), (.agg [(.str [114, 101, 112, 101, 97, 116]), (.str []), (.int .i64 2)]), (.agg [(.str [119, 97, 105, 116]), (.str []), (.int .i64 3)]), (.agg [(.str [116, 114, 105, 103, 103, 101, 114]), (.str []), (.int .i64 0)]), (.agg [(.str [101, 110, 100]), (.str []), (.int .i64 0)]), (.agg [(.str [100, 105, 115, 97, 114, 109]), (.str [97]), (.int .i64 0)])])]
def v108 : AV := (.int .i64 0)
def a84 : List AV := [(.fz [(.str [97, 100, 100, 32, 97, 32, 49, 32, 53]), (.str [102, 114, 97, 109, 101, 32, 115, 32, 49, 32, 50, 32, 52]), (.str [99, 97, 108, 32, 97, 32, 57, 32, 55]), (.str [114, 117, 110, 32, 115, 32, 57, 32, 97, 114, 109, 32, 97, 59, 32, 116, 114, 105, 103, 103, 101, 114])])]
def v84 : AV := (.fz [(.agg [(.int .i64 1), (.str [97, 100, 100]), (.fz [(.str [97])]), (.fz [(.int .i64 1), (.int .i64 5)]), (.str [])]), (.agg [(.int .i64 2), (.str [102, 114, 97, 109, 101]), (.fz [(.str [115])]), (.fz [(.int .i64 1), (.int .i64 2), (.int .i64 4)]), (.str [])]), (.agg [(.int .i64 3), (.str [99, 97, 108]), (.fz [(.str [97])]), (.fz [(.int .i64 9), (.int .i64 7)]), (.str [])]), (.agg [(.int .i64 4), (.str [114, 117, 110]), (.fz [(.str [115])]), (.fz [(.int .i64 9)]), (.str [97, 114, 109, 32, 97, 59, 32, 116, 114, 105, 103, 103, 101, 114])])])
def a66b : List AV := [(.str [])]
def v66b : AV := (.tup [.nils, (.int .i64 0), (.int .i64 0)])
def a66 : List AV := [(.str [49, 32, 97, 100, 100, 32, 97, 32, 49, 32, 53, 35, 54, 48, 51, 53, 56, 56, 55, 10, 50, 32, 102, 114, 97, 109, 101, 32, 115, 32, 49, 32, 50, 32, 52, 35, 52, 52, 49, 56, 55, 52, 53, 10, 51, 32, 99, 97, 108, 32, 97, 32, 57, 32, 55, 35, 55, 55, 48, 54, 49, 53, 57, 10, 52, 32, 114, 117, 110, 32, 115, 32, 57, 32, 97, 114, 109, 32, 97, 59, 32, 116, 114, 105, 103, 103, 101, 114, 35, 55, 55, 48, 49, 49, 52, 50, 10, 53])]
def v66 : AV := (.tup [(.fz [(.agg [(.int .i64 1), (.str [97, 100, 100]), (.fz [(.str [97])]), (.fz [(.int .i64 1), (.int .i64 5)]), (.str [])]), (.agg [(.int .i64 2), (.str [102, 114, 97, 109, 101]), (.fz [(.str [115])]), (.fz [(.int .i64 1), (.int .i64 2), (.int .i64 4)]), (.str [])]), (.agg [(.int .i64 3), (.str [99, 97, 108]), (.fz [(.str [97])]), (.fz [(.int .i64 9), (.int .i64 7)]), (.str [])]), (.agg [(.int .i64 4), (.str [114, 117, 110]), (.fz [(.str [115])]), (.fz [(.int .i64 9)]), (.str [97, 114, 109, 32, 97, 59, 32, 116, 114, 105, 103, 103, 101, 114])])]), (.int .i64 97), (.int .i64 28)])
def a41a : List AV := [(.fz [(.agg [(.int .i64 1), (.str [97, 100, 100]), (.fz [(.str [97])]), (.fz [(.int .i64 1), (.int .i64 5)]), (.str [])]), (.agg [(.int .i64 2), (.str [102, 114, 97, 109, 101]), (.fz [(.str [115])]), (.fz [(.int .i64 1), (.int .i64 2), (.int .i64 4)]), (.str [])]), (.agg [(.int .i64 3), (.str [99, 97, 108]), (.fz [(.str [97])]), (.fz [(.int .i64 9), (.int .i64 7)]), (.str [])]), (.agg [(.int .i64 4), (.str [114, 117, 110]), (.fz [(.str [115])]), (.fz [(.int .i64 9)]), (.str [97, 114, 109, 32, 97, 59, 32, 116, 114, 105, 103, 103, 101, 114])])]), (.str [97]), (.int .i64 8)]
def v41a : AV := (.tup [(.int .i64 5), (.int .i64 0)])
def a41b : List AV := [(.fz [(.agg [(.int .i64 1), (.str [97, 100, 100]), (.fz [(.str [97])]), (.fz [(.int .i64 1), (.int .i64 5)]), (.str [])]), (.agg [(.int .i64 2), (.str [102, 114, 97, 109, 101]), (.fz [(.str [115])]), (.fz [(.int .i64 1), (.int .i64 2), (.int .i64 4)]), (.str [])]), (.agg [(.int .i64 3), (.str [99, 97, 108]), (.fz [(.str [97])]), (.fz [(.int .i64 9), (.int .i64 7)]), (.str [])]), (.agg [(.int .i64 4), (.str [114, 117, 110]), (.fz [(.str [115])]), (.fz [(.int .i64 9)]), (.str [97, 114, 109, 32, 97, 59, 32, 116, 114, 105, 103, 103, 101, 114])])]), (.str [97]), (.int .i64 9)]
def v41b : AV := (.tup [(.int .i64 7), (.int .i64 0)])

noncomputable def extM1 (f : FuncId) : Option (List AV → St → Option (AV × St)) := match f with
  | 15 => some (memoA U0 [(a18, some v18, none)])
  | 17 => some (memoA U0 [(a19, some v19, none)])
  | 46 => some (memoA U0 [(a23, some v23, none)])
  | 20 => some (memoA U0 [(a27a, some v27a, none), (a27b, none, some v27b)])
  | 19 => some (memoA U0 [(a77a, some v77a, none), (a77b, some v77b, none)])
  | 18 => some (memoA U0 [(a78a, some v78a, none), (a78b, some v78b, none)])
  | 30 => some (memoA U0 [(a84, some v84, none)])
  | 59 => some (memoA U0 [(a108, some v108, none)])
  | f => extU1 f
noncomputable def M1 : Cx := mkU gbU (fun f => pures.contains f) extM1
noncomputable def extM2 (f : FuncId) : Option (List AV → St → Option (AV × St)) := match f with
  | 29 => some (memoA U0 [(a41a, some v41a, none), (a41b, some v41b, none)])
  | 35 => some (memoA U0 [(a66, some v66, none), (a66b, some v66b, none)])
  | f => extM1 f
noncomputable def M2 : Cx := mkU gbU (fun f => pures.contains f) extM2
/-- the fixed examples -/
def extAwake (args : List AV) (s : St) : Option (AV × St) := match args with
  | [] => some (.bool true, s)
  | _ => none
noncomputable def extU (f : FuncId) : Option (List AV → St → Option (AV × St)) := match f with
  | 6 => some extAwake
  | f => extU1 f
noncomputable def U : Cx := mkU gbU (fun f => pures.contains f) extU
set_option maxRecDepth 100000
noncomputable def okAt (fn : Func) : Bool := match fn.body with
  | some c => okC W0 fn.ntmps c
  | none => true
theorem U_ok : (Tryz.prog.funcs.toList.all okAt) = true := by kernel_rfl
theorem U_nm : (Tryz.prog.funcs.toList.all fun fn => !(fn.name == "runtime.NumGoroutine")) = true := by kernel_rfl
theorem U_mixed : Tryz.prog.follows .mixedOrders = true := by kernel_rfl
end Go.Am
