/- A part of the proof. -/
import Derived.Test.YtkmaeondbkpajaaGreatDoorE02
import Derived.Test.YtkmaeondbkpajaaGreatDoorProg
import Derived.KernelRfl
import Derived.Lib.Bytealg
set_option linter.all false
set_option maxRecDepth 100000
namespace Go.Am
open Go Go.Proofs
class Z8 where
 val:Int
variable [Z8]
def keeps:List Nat:=[45,46,49,50,51,52,67,78,79,80,81,86,87,88,90,95,98,99,100,104,106,107,108,109,110,113,115,122,123,127,131,132,140,141,147,148,149,150,157,158,159,161,163,166,167,169,170,171,172,196,197,198,199,200,201,202,203,204,211,212,213,220,226,228,229,230,243,244,245,246,247,248,249,250,258,291,296,297,298,299,300,301,302,303,304,305]
def ik:Nat->Option (List AV×TypeId)
 |0=>some ([.int .i64 Z8.val],3)
 |1=>some ([.int .u64 1,.int .u64 10,.int .u64 100,.int .u64 1000,.int .u64 10000,.int .u64 100000,.int .u64 1000000,.int .u64 10000000,.int .u64 100000000,.int .u64 1000000000,.int .u64 10000000000,.int .u64 100000000000,.int .u64 1000000000000,.int .u64 10000000000000,.int .u64 100000000000000,.int .u64 1000000000000000,.int .u64 10000000000000000,.int .u64 100000000000000000,.int .u64 1000000000000000000,.int .u64 10000000000000000000],313)
 |2=>some ([.iface 332 (.fp [.str [105,110,118,97,108,105,100,32,115,121,110,116,97,120]] 0)],153)
 |3=>some ([.iface 332 (.fp [.str [118,97,108,117,101,32,111,117,116,32,111,102,32,114,97,110,103,101]] 0)],153)
 |_=>none
def gbU (g:Nat):Option Uf:=match ik g with
 |some (c,t)=>some (.cells c t true 0 0)
 |none=>none
def MG (args:List AV)(s:St):Option (AV×St):=match args with
 |[.ptr b 0]=>match s.get b with
  |some (.cells [p,buf] t false 0 0)=>if t=150 then match p with
    |.U4=>some (.XQ [],s.put b (.cells [.ptr b 0,buf] t false 0 0))
    |.ptr b' 0=>if b'=b then some (.XQ [],s) else none
    |_=>none
   else none
  |_=>none
 |_=>none
def OX (args:List AV)(s:St):Option (AV×St):=match args with
 |[.str l,.int .u8 c]=>some (.int .i64 (Lib.indexByte l c.toNat.toUInt8),s)
 |_=>none
def Ns (args:List AV)(s:St):Option (AV×St):=match args with
 |[.str l,.str (c::m)]=>if !l.contains c&&decide (l.length<=64)&&decide (1<=m.length)&&decide (((m.length+1:Nat):Int)<=Z8.val) then some (.int .i64 (-1),s) else none
 |_=>none
def eN (f:FuncId):Option (List AV->St->Option (AV×St)):=match f with
 |147=>some MG
 |223=>some Ns
 |256=>some OX
 |_=>none
noncomputable def U:Cx :=
 { Zd:=λt=>Tryz.prog.underlying t,inf:=λt=>Tryz.prog.info? t,fn:=λf=>bif Nat.beq f 36 then none else Tryz.prog.funcs[f]?,glob:=8,AN:=λt=>!Tryz.prog.eqGuardType Tryz.prog.depth t&&!Tryz.prog.stoodInHeld t,K0:=gbU,pure:=λf=>!keeps.contains f,ext:=eN,spec:=λt=>Nat.beq t 150 }
noncomputable def aiN (fn:Func):Bool:=fn.name==Tryz.f36.name||match fn.body with
 |some c=>GQ U fn.ntmps c
 |none=>true
def amV:(Tryz.prog.funcs.toList.all aiN)=true:=by kernel_rfl
def amW:(Tryz.prog.funcs.toList.all λfn=>!(fn.name == "runtime.NumGoroutine"))=true:=by kernel_rfl
def abo:Tryz.prog.follows .mixedOrders=true:=by kernel_rfl
end Go.Am
