/- A part of the proof of a statement of this seat: the machine on which the program is read, and what it computes; for every input. -/
import Derived.Test.YtkmaeondbkpajaaGreatDoorN06
set_option linter.all false
namespace Go.Am
open Go
variable [Z3]
def S5 (S n:Nat):Nat:=if n=0 then S else if n=S then 0 else n
theorem Av (S n:Nat):S5 S (S5 S n)=n:=by
 unfold S5;by_cases h0:n=0
 ·subst h0;by_cases hS:S=0
  ·simp[hS]
  ·simp[hS]
 ·by_cases h1:n=S
  ·simp[h0,h1]
  ·simp[h0,h1]
theorem Se {S n N:Nat}(hS:S<N)(hn:n<N):S5 S n<N:=by
 unfold S5
 split
 ·exact hS
 ·split <;> omega
def DS (m:ZN)(S k x:Nat):List Nat:=(List.range x).map fun z=>S5 S (m.fa.nx k z)
theorem xF (m:ZN)(S k x:Nat):ZO (DS m S k x)++[.int .i64 ((S5 S (m.fa.nx k x):Nat):Int)]=ZO (DS m S k (x+1)):=by
 unfold DS;rw[List.range_succ,afX];simp[ZO,Mv,ints]
theorem AJ (m:ZN)(S k x:Nat):(DS m S k x).length=x:=by simp[DS]
def MY (m:ZN)(S i:Nat):List Bool:=(m.Z4.getD (S5 S i) (true,[])).2
def Zs (m:ZN)(S:Nat):ZN:={ lines:=m.lines,YC:=true,next:=(List.range m.next.length).map fun i=>(false,Mv (DS m S (S5 S i) (2^m.lines.toNat))),Yx:=true,Z4:=(List.range m.next.length).map fun i=>(false,MY m S i) }
theorem EY {m:ZN}(hm:m.ok){S i:Nat}(hS:S<m.next.length)(hi:i<m.next.length):(MY m S i).length=2^m.lines.toNat:=by
 have xP:S5 S i<m.Z4.length:=by rw[hm.fl];exact Se hS hi
 unfold MY;rw[ae4,aaa xP];exact hm.XJ _ xP
theorem Oy {m:ZN}(hm:m.ok){S:Nat}(hS:S<m.next.length):(Zs m S).ok:=by
 have hl:(Zs m S).next.length=m.next.length:=by simp[Zs]
 have hf:(Zs m S).Z4.length=m.next.length:=by simp[Zs]
 refine⟨hm.lines,by rw[hl];exact hm.pos,by rw[hl];exact hm.few,by rw[hl,hf],fun i hi=>?_,fun i hi=>?_⟩
 ·have Uz:i<m.next.length:=by rw[hl] at hi;exact hi
  rw[hl];simp only[Zs,List.getElem_map,List.getElem_range];refine⟨by rw[Sh,AJ],fun x hx=>?_⟩;simp only[Mv,DS,List.map_map,afe,afh,Function.comp] at hx;obtain⟨z,hz,rfl⟩:=hx;have:=Se hS (hm.VK.lt (S5 S i) z (Se hS Uz) hz);have e:m.fa.n=m.next.length:=rfl;omega
 ·have Uz:i<m.next.length:=by rw[hf] at hi;exact hi
  simp only[Zs,List.getElem_map,List.getElem_range];exact EY hm hS Uz
theorem Er {m:ZN}{S i x:Nat}(hi:i<m.next.length)(hx:x<2^m.lines.toNat):(Zs m S).fa.nx i x=S5 S (m.fa.nx (S5 S i) x):=by
 have hl:i<(Zs m S).next.length:=by simp[Zs,hi]
 show (((Zs m S).next.getD i (true,[])).2.getD x 0).toNat=_;have e:(Zs m S).next.getD i (true,[])=(false,Mv (DS m S (S5 S i) (2^m.lines.toNat))):=by
  rw[ae4,aaa hl];simp[Zs]
 rw[e];simp[Mv,DS,hx]
theorem Ep {m:ZN}{S i x:Nat}(hi:i<m.next.length):(Zs m S).fa.fr i x=m.fa.fr (S5 S i) x:=by
 have hl:i<(Zs m S).Z4.length:=by simp[Zs,hi]
 show ((Zs m S).Z4.getD i (true,[])).2.getD x false=_;have e:(Zs m S).Z4.getD i (true,[])=(false,MY m S i):=by
  rw[ae4,aaa hl];simp[Zs]
 rw[e];rfl
end Go.Am
