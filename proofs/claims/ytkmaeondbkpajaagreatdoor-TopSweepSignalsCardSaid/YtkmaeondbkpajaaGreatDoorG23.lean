/- A part of the proof of a statement of this seat: the machine on which the program is read, and what it computes; for every input. -/
import Derived.Test.YtkmaeondbkpajaaGreatDoorG22
set_option linter.all false
namespace Go.Am
open Go
variable [ZZ]
set_option maxRecDepth 100000
def Ui (n:Nat):X6:=bif Nat.blt n 10 then [UInt8.ofNat (48+n)] else bif Nat.blt n 100 then [UInt8.ofNat (48+n / 10),UInt8.ofNat (48+n%10)] else [UInt8.ofNat (48+n / 100),UInt8.ofNat (48+n / 10%10),UInt8.ofNat (48+n%10)]
theorem ct {n m:Nat}(h:n<m):Nat.blt n m=true:=by rw[Nat.blt_eq];exact h
theorem cr {n m:Nat}(h:¬n<m):Nat.blt n m=false:=by rw[Bool.eq_false_iff,ne_eq,Nat.blt_eq];exact h
theorem zN (n:Nat)(h:n<1000):AS n=Ui n:=by
 unfold Ui;by_cases h1:n<10
 ·rw[Ns h1,ct h1];rfl
 ·rw[cr h1,cond_false,AQ h1];by_cases h2:n<100
  ·rw[ct h2,Ns (by omega)];rfl
  ·rw[cr h2,AQ (n:=n / 10) (by omega),Ns (n:=n / 10 / 10) (by omega),Nat.div_div_eq_div_mul];rfl
def isS (x:Option AV)(s:X6):Bool:=match x with
 |some (.str t)=>t==s
 |_=>false
theorem kE {x:Option AV}{s:X6}(h:isS x s=true):x=some (.str s):=by
 unfold isS at h
 split at h
 ·rw[eq_of_beq h]
 ·cases h
theorem kD:((List.range 256).all fun n=>isS (UN U (exec U 100000) 75 [.int .i64 (Int.ofNat n)] true) (Ui n))=true:=by kernel_rfl
theorem ah0 (n:Int)(h0:0<=n)(h1:n<=255):Zw U 75 [.int .i64 n]=some (.str (dg n)):=by
 obtain⟨k,rfl⟩:=Int.eq_ofNat_of_zero_le h0;have hk:k<256:=by omega
 have h:=kE (ajq.1 kD k (ajE.2 hk));rw[<-zN k (by omega)] at h;exact I9 (by kernel_rfl) rfl (RQ U (n:=100000) h)
end Go.Am
