/- A part of the proof of a statement of this seat: the machine on which the program is read, and what it computes; for every input. -/
import Derived.Test.YtikiipfbkfgmbaaGreatDoorZ01
import Derived.Test.YtikiipfbkfgmbaaGreatDoorZ02
import Derived.Test.YtikiipfbkfgmbaaGreatDoorProg
import Derived.KernelRfl
import Derived.Lib.Bytealg
set_option linter.all false
namespace Go.Am
open Go Go.Proofs
class Z4 where
 val:Int
variable [Z4]
def keeps:List Nat:=[77,78,80,81,82,83,92,114,115,117,118,130,131,132,133,138,139,141,145,146,148,149,150,151,152,154,155,161,162,173,174,177,178,182,183,184,188,189,191,214,215,216,217,221,222,223,224,225,226,227,228,229,247,253,255,256,257,274,302,307,308,309,310,311,312,313,314,315,316]
def nE:Nat->Option (List AV×TypeId)
 |0=>some ([.int .i64 Z4.val],3)
 |1=>some ([.int .u64 1,.int .u64 10,.int .u64 100,.int .u64 1000,.int .u64 10000,.int .u64 100000,.int .u64 1000000,.int .u64 10000000,.int .u64 100000000,.int .u64 1000000000,.int .u64 10000000000,.int .u64 100000000000,.int .u64 1000000000000,.int .u64 10000000000000,.int .u64 100000000000000,.int .u64 1000000000000000,.int .u64 10000000000000000,.int .u64 100000000000000000,.int .u64 1000000000000000000,.int .u64 10000000000000000000],332)
 |2=>some ([.iface 347 (.fp [.str [105,110,118,97,108,105,100,32,115,121,110,116,97,120]] 0)],210)
 |3=>some ([.iface 347 (.fp [.str [118,97,108,117,101,32,111,117,116,32,111,102,32,114,97,110,103,101]] 0)],210)
 |_=>none
def aJ (g:Nat):Option Uy:=match nE g with
 |some (c,t)=>some (.cells c t true 0 0)
 |none=>none
def Nq (args:List AV)(s:St):Option (AV×St):=match args with
 |[.ptr b 0]=>match s.get b with
  |some (.cells [p,buf] t false 0 0)=>if t=207 then match p with
    |.Vk=>some (.XU [],s.put b (.cells [.ptr b 0,buf] t false 0 0))
    |.ptr b' 0=>if b'=b then some (.XU [],s) else none
    |_=>none
   else none
  |_=>none
 |_=>none
def Pr (args:List AV)(s:St):Option (AV×St):=match args with
 |[.str l,.int .u8 c]=>some (.int .i64 (Lib.indexByte l c.toNat.toUInt8),s)
 |_=>none
def Ob (args:List AV)(s:St):Option (AV×St):=match args with
 |[.str l,.str (c::m)]=>if !l.contains c&&decide (l.length<=64)&&decide (1<=m.length)&&decide (((m.length+1:Nat):Int)<=Z4.val) then some (.int .i64 (-1),s) else none
 |_=>none
def lg (f:FuncId):Option (List AV->St->Option (AV×St)):=match f with
 |182=>some Nq
 |250=>some Ob
 |272=>some Pr
 |_=>none
noncomputable def U:Cx :=
 { Zd:=fun t=>Tryz.prog.underlying t,inf:=fun t=>Tryz.prog.info? t,fn:=fun f=>bif Nat.beq f 75 then none else Tryz.prog.funcs[f]?,glob:=8,Ay:=fun t=>!Tryz.prog.eqGuardType Tryz.prog.depth t&&!Tryz.prog.stoodInHeld t,LK:=aJ,pure:=fun f=>!keeps.contains f,ext:=lg,spec:=fun t=>Nat.beq t 207 }
set_option maxRecDepth 100000
noncomputable def afi (fn:Func):Bool:=fn.name==Tryz.f75.name||match fn.body with
 |some c=>HK U fn.ntmps c
 |none=>true
theorem ai0:(Tryz.prog.funcs.toList.all afi)=true:=by kernel_rfl
theorem ai1:(Tryz.prog.funcs.toList.all fun fn=>!(fn.name == "runtime.NumGoroutine"))=true:=by kernel_rfl
theorem dP:Tryz.prog.follows .mixedOrders=true:=by kernel_rfl
end Go.Am
