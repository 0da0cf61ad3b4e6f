/- A part of the proof of a statement of this seat: the machine on which the program is read, and what it computes; for every input. -/
import Derived.Test.YtikiipfbkfgmbaaGreatDoorZ29
set_option linter.all false
namespace Go.Am
open Go
variable [Z4]
set_option maxRecDepth 100000
def TJ (n:Nat):XV:=bif Nat.blt n 10 then [UInt8.ofNat (48+n)] else bif Nat.blt n 100 then [UInt8.ofNat (48+n / 10),UInt8.ofNat (48+n%10)] else [UInt8.ofNat (48+n / 100),UInt8.ofNat (48+n / 10%10),UInt8.ofNat (48+n%10)]
theorem aaB {n m:Nat}(h:n<m):Nat.blt n m=true:=by rw[Nat.blt_eq];exact h
theorem aaC {n m:Nat}(h:¬n<m):Nat.blt n m=false:=by rw[Bool.eq_false_iff,ne_eq,Nat.blt_eq];exact h
theorem yg (n:Nat)(h:n<1000):zt n=TJ n:=by
 unfold TJ;by_cases h1:n<10
 ·rw[L9 h1,aaB h1];rfl
 ·rw[aaC h1,cond_false,zr h1];by_cases h2:n<100
  ·rw[aaB h2,L9 (by omega)];rfl
  ·rw[aaC h2,zr (n:=n / 10) (by omega),L9 (n:=n / 10 / 10) (by omega),Nat.div_div_eq_div_mul];rfl
def isS (x:Option AV)(s:XV):Bool:=match x with
 |some (.str t)=>t==s
 |_=>false
theorem iq {x:Option AV}{s:XV}(h:isS x s=true):x=some (.str s):=by
 unfold isS at h
 split at h
 ·rw[eq_of_beq h]
 ·cases h
theorem il:((List.range 256).all fun n=>isS (Yg U (exec U 100000) 127 [.int .i64 (Int.ofNat n)] true) (TJ n))=true:=by kernel_rfl
theorem akk (n:Int)(h0:0<=n)(h1:n<=255):ZE U 127 [.int .i64 n]=some (.str (dg n)):=by
 obtain⟨k,rfl⟩:=Int.eq_ofNat_of_zero_le h0;have hk:k<256:=by omega
 have h:=iq (alK.1 il k (al4.2 hk));rw[<-yg k (by omega)] at h;exact VL (by kernel_rfl) rfl (Za U (n:=100000) h)
end Go.Am
