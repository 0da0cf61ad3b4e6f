/- A part of the proof of a statement of this seat: the machine on which the program is read, and what it computes; for every input. -/
import Derived.Test.YtkmaeondbkpajaaGreatDoorG29
set_option linter.all false
namespace Go.Am
open Go
variable [ZZ]
set_option maxRecDepth 100000
set_option maxHeartbeats 8000000
theorem Hw {m:Nat}{n:Int}:∀(l:List (Bool×List Int)) (f:List (Bool×List Bool)),l.length=f.length->(∀r∈l,r.2.length=m/\∀x∈r.2,0<=x/\x<n)->(∀r∈f,r.2.length=m)->Ud (m:Nat) n l f=0
 |[],_,_,_,_=>rfl
 |r::l,[],h,_,_=>by simp at h
 |r::l,g::f,h,h1,h2=>by
  obtain⟨e1,e2⟩:=h1 r (aba ..);have e3:=h2 g (aba ..);have b1:((r.2.length:Int) != (m:Nat)||((((g::f).headD (true,[])).2.length:Int) != (m:Nat)))=false:=by simp[e1,e3]
  have b2:(r.2.any fun x=>outside x 0 (n-1))=false:=by
   rw[List.any_eq_false];intro x hx;have:=e2 x hx;simp[outside];omega
  rw[Ud,b1,b2,YU,YU];exact Hw l f (by simpa using h) (fun r hr=>h1 r (aab _ hr)) fun r hr=>h2 r (aab _ hr)
theorem f_ {a:YY}(h:a.ok)(h256:a.next.length<=256):Jy a=0:=by
 have hl:=h.lines;have hp:=h.pos;have b1:outside a.lines 1 4=false:=by simp[outside];omega
 have b2:((a.next.length:Int)==0)=false:=by simp;intro e;rw[e] at hp;simp at hp
 have b3:decide ((a.next.length:Int)>256)=false:=by simp;omega
 have b4:((a.ZC.length:Int) != a.next.length)=false:=by simp[h.fl]
 rw[Jy,b1,b2,b3,b4,YU,YU,YU,YU,Ov];refine Hw _ _ h.fl.symm (fun r hr=>?_) fun r hr=>?_
 ·obtain⟨i,hi,rfl⟩:=ajw.1 hr;exact h.row i hi
 ·obtain⟨i,hi,rfl⟩:=ajw.1 hr;exact h.Wg i hi
section
variable {nl:Bool}{l T:List Int}(hl:EV l)(hT:T.length<=4096)
include hT
include hl
end
end Go.Am
