/- A part of the proof. -/
import Derived.Test.YtkmaeondbkpajaaGreatDoorE16
set_option linter.all false
set_option maxHeartbeats 8000000
set_option maxRecDepth 100000
namespace Go.Am
open Go
variable [Z8]
def eQ (k b:Nat)(s:St)(L:List Nat)(s':St):Prop:=s'.get b=some (.cells (RT k L) 55 false 0 0)/\(∀j,j<s.next->j≠b->s'.get j=s.get j)/\s.next<=s'.next/\Fr s'
def eQ.trans {k b:Nat}{s s1 s2:St}{L L':List Nat}(h:eQ k b s L s1)(h':eQ k b s1 L' s2):eQ k b s L' s2 :=
 ⟨h'.1,λj h1 h2=>(h'.2.1 j (by have:=h.2.2.1;omega) h2).trans (h.2.1 j h1 h2),by have:=h.2.2.1;have:=h'.2.2.1;omega,h'.2.2.2⟩
end Go.Am
namespace Go.Am
open Go
end Go.Am
namespace Go.Am
open Go
variable [Z8]
def Sq {a:Int}{n:Nat}(h:a=(n:Int))(hn:n<2^62):IntKind.i64.wrap a=(n:Int):=by
 subst h;rw[wrap_i64] <;> omega
def g_ (X:Cx)(t:TypeId)(c:Bool){n d:Nat}(h:n<2^62)(hd:0<d):Xj X .quo t c (.int .i64 (n:Int)) (.int .i64 (d:Int))=some (.int .i64 ((n / d:Nat):Int)):=by
 have hle:n / d<=n:=Nat.div_le_self n d;have e:((n:Int).tdiv (d:Int))=((n / d:Nat):Int):=rfl;have nr:¬(d:Int)=0:=J;simp only[Xj,Oj,e,if_true];rw[O3 nr,Sq rfl (by exact aqJ hle h)]
end Go.Am
