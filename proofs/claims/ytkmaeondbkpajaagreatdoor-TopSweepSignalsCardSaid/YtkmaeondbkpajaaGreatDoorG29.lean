/- A part of the proof of a statement of this seat: the machine on which the program is read, and what it computes; for every input. -/
import Derived.Test.YtkmaeondbkpajaaGreatDoorG25
import Derived.Test.YtkmaeondbkpajaaGreatDoorG28
import Derived.Test.YtkmaeondbkpajaaGreatDoorG20
set_option linter.all false
namespace Go.Am
open Go
variable [ZZ]
set_option maxRecDepth 100000
set_option maxHeartbeats 8000000
theorem oY {nl:Bool}{l:List Int}{k:Nat}(h:k<=l.length):Ht 1 (ZG nl (ints l)) none (some (.int .i64 (k:Int)))=some (ZG (nl&&l.isEmpty) (ints (l.take k))):=by
 cases l with
 |nil =>
  have:k=0:=by simpa using h
  subst this
  cases nl <;> rfl
 |cons x l =>
  have e0:ZG nl (ints (x::l))=.fz (ints (x::l)):=YF (by simp[ints]);have e1:YR (some (.int .i64 (k:Int))) (ints (x::l)).length (ints (x::l)).length=some k:=by
   rw[Zl];simp[YR];simp at h;omega
  have e2:YR none 0 k=some 0:=by simp[YR]
  have e3:(ints (x::l)).all (fun x=>x.cells.length==1)=true:=by simp[ints,AV.cells]
  rw[e0];simp only[Ht,e1,e2,e3,if_true,ajS];rw[show (nl&&(x::l).isEmpty)=false by cases nl <;> rfl];rw[show ZG false (ints ((x::l).take k))=.fz (ints ((x::l).take k)) from rfl];simp[ints]
end Go.Am
