/- A part of the proof. -/
import Derived.Test.YtkmaeondbkpajaaGreatDoorE29
set_option linter.all false
set_option maxHeartbeats 8000000
set_option maxRecDepth 100000
namespace Go.Am
open Go
variable [Z8]
def Ts (n:Nat):XJ:=bif Nat.blt n 10 then [UInt8.ofNat (48+n)] else bif Nat.blt n 100 then [UInt8.ofNat (48+n / 10),UInt8.ofNat (48+n%10)] else [UInt8.ofNat (48+n / 100),UInt8.ofNat (48+n / 10%10),UInt8.ofNat (48+n%10)]
def adC {n m:Nat}(h:n<m):Nat.blt n m=true:=by rw[Nat.blt_eq];exact h
def adD {n m:Nat}(h:¬n<m):Nat.blt n m=false:=by rw[Bool.eq_false_iff,ne_eq,Nat.blt_eq];exact h
def vk (n:Nat)(h:n<1000):wY n=Ts n:=by
 unfold Ts;by_cases h1:n<10
 ·rw[Lr h1,adC h1];rfl
 ·rw[adD h1,cond_false,wX h1];by_cases h2:n<100
  ·rw[adC h2,Lr J];rfl
  ·rw[adD h2,wX (n:=n / 10) J,Lr (n:=n / 10 / 10) J,Nat.div_div_eq_div_mul];rfl
def isS (x:Option AV)(s:XJ):Bool:=match x with
 |some (.str t)=>t==s
 |_=>false
def aW {x:Option AV}{s:XJ}(h:isS x s=true):x=some (.str s):=by
 unfold isS at h
 split at h
 ·rw[eq_of_beq h]
 ·cases h
def aV:((List.range 256).all λn=>isS (X7 U (exec U 100000) 75 [.int .i64 (Int.ofNat n)] true) (Ts n))=true:=It
def aoz (n:Int)(h0:0<=n)(h1:n<=255):ZE U 75 [.int .i64 n]=some (.str (dg n)):=by
 obtain⟨k,rfl⟩:=Int.eq_ofNat_of_zero_le h0;have hk:k<256:=J;have h:=aW (ap8.1 aV k (aqg.2 hk));rw[<-vk k J] at h;exact U6 It rfl (YZ U (n:=100000) h)
end Go.Am
