/- A part of the proof. -/
import Derived.Test.YtkmaeondbkpajaaGreatDoorE17
set_option linter.all false
set_option maxHeartbeats 8000000
set_option maxRecDepth 100000
namespace Go.Am
open Go
variable [Z8]
variable {L:List Nat}
def pQ (P M:List Nat):Prop:=P.length=0\/∀x∈M,gt P (P.length-1)<x
def pQ.perm {P M M':List Nat}(h:pQ P M)(hp:M'.Perm M):pQ P M':=by
 rcases h with h|h
 ·exact .inl h
 ·exact .inr λx hx=>h x (hp.mem_iff.1 hx)
structure aie (k b:Nat)(s0:St)(P M S A N B:List Nat)(s:St):Prop where
 perm:(A++N++B).Perm M
 nd:M.Nodup
 sA:A.Pairwise (·<=·)
 sB:B.Pairwise (·<=·)
 lA:∀a∈A,∀x∈N++B,a<x
 lN:∀x∈N,∀y∈B,x<y
 ab:pQ P M
 mem:eQ k b s0 ((P++A)++N++(B++S)) s
def aie.len {k b:Nat}{s0 s:St}{P M S A N B:List Nat}(h:aie k b s0 P M S A N B s):A.length+N.length+B.length=M.length:=by
 have:=h.perm.length_eq;rw[ann,ann] at this;omega
def amT (x y:Int):ZE U 89 [.agg [.int .i64 x,.int .i64 y]]=some (.agg [.int .i64 x,.int .i64 y]):=by
 refine ZP am2 It rfl ?_;simp only[go_sem,aiX]
def Dj (k:Nat){i:Nat}(h:i<L.length):RT k (L.take (i+1))=RT k (L.take i)++[.int .i64 ((L[i] / k:Nat):Int),.int .i64 ((L[i]%k:Nat):Int)]:=by
 rw[ap7 h,oE]
def amR {k N:Nat}{pv:AV}(hn:L.length<=2^20)(h0:L≠[]){s:St}(hp:Jr s N 164 L.length (RT k L) pv)(fr:Fr s) :
  ∃s' b,UN U 88 [pv,.fn (.func 89) [] []] s=some (.sl b 0 L.length none 2,s')/\s'.get b=some (.cells (RT k L) 55 false 0 0)/\s.next<=b/\b<s'.next/\(∀j,j<s.next->s'.get j=s.get j)/\s.next<=s'.next/\Fr s':=by
 suffices K':∃x b,go U (Us U [.tmp 4]) [] aeN (Zr 0 [pv,.fn (.func 89) [] []] .nil) s=some x/\x.1=.sl b 0 L.length none 2/\x.2.get b=some (.cells (RT k L) 55 false 0 0)/\s.next<=b/\b<x.2.next/\(∀j,j<s.next->x.2.get j=s.get j)/\s.next<=x.2.next/\Fr x.2 by
  obtain⟨⟨v,s'⟩,b,h1,h2,h3⟩:=K';simp only at h2;subst h2;exact⟨s',b,Yi amS It h1,h3⟩
 obtain⟨bp,cap,rfl,h2,h3,h4,h5,h6⟩:=hp;simp only[go_sem,aeN];refine YT (ZC:=λ(o:Option (AV×St))=>∃x b,o=some x/\x.1=.sl b 0 L.length none 2/\x.2.get b=some (.cells (RT k L) 55 false 0 0)/\s.next<=b/\b<x.2.next/\(∀j,j<s.next->x.2.get j=s.get j)/\s.next<=x.2.next/\Fr x.2) (σ:=Nat) (λi=>L.length-i) (λi e' s'=>i<=L.length/\e'.get 1=.fn (.func 89) [] []/\e'.get 8=.sl bp 0 L.length cap 2/\e'.get 9=.int .i64 (L.length:Nat)/\e'.get 10=.int .i64 (i:Nat)/\(∀j,j<s.next->s'.get j=s.get j)/\s.next<=s'.next/\Fr s' /\
   ∃v,e'.get 5=v/\ZD s' s.next 55 2 i (RT k (L.take i)) v) 0 ?_
  ⟨apW _,?_,?_,?_,?_,λ_ _=>rfl,api _,fr,.ZQ,?_,ZD.nil _ _ _ _⟩
 ·rintro Lp i e1 s1 ⟨hi,q1,q8,q9,HX,hs,Vq,tf,v,q5,hv⟩ IH;have ub:=(hs bp h6).trans h3;by_cases hd:i<L.length
  ·have hw:=ZI hd J;have gr:=TE k L i hd;unfold Yr at gr;have c:=amT ((L[i] / k:Nat):Int) ((L[i]%k:Nat):Int);have hl:=hv.WV;have TV:(i+1)*16<=1099511627776:=J;have U5:i+1<=1099511627776:=J;simp only[go_sem,zY,q1,q5,q8,q9,HX,Z9,hd,ub,gr,c,hl,aqP,Zx,Nat.reducePow,TV,U5,ap4];obtain⟨S2,hS2⟩:∃S2,S2=((s1.new (.cells [.int .i64 0,.int .i64 0] 164 false 0 0)).put s1.next (.cells [.int .i64 ((L[i] / k:Nat):Int),.int .i64 ((L[i]%k:Nat):Int)] 164 false 0 0)).new (.cells [.int .i64 ((L[i] / k:Nat):Int),.int .i64 ((L[i]%k:Nat):Int)] 55 false 0 0):=⟨_,rfl⟩;rw[<-hS2];have DX:S2.next=s1.next+2:=by rw[hS2,Z',Z_,Z']
   have kS:∀j,j<s1.next->S2.get j=s1.get j:=λj h=>by rw[hS2,Z5,Z_,Z',O3 J,Z7,O3 J,Z5,O3 J]
   have Jh:Fr S2:=by rw[hS2];exact ((tf.new _).put O0 _).new _
   have F7:ZD S2 s.next 55 2 i (RT k (L.take i)) v:=by
    rcases hv with h|⟨a0,a1,c,a2,a3,a4,a5⟩
    ·exact .inl h
    ·exact .inr ⟨a0,a1,c,a2,J,a4,by rw[kS c a3];exact a5⟩
   obtain⟨s4,d1,d2,d3,d4,d5⟩:=F7.FA J (m:=1) (new:=[.int .i64 ((L[i] / k:Nat):Int),.int .i64 ((L[i]%k:Nat):Int)]) J rfl rfl;rw[d1];simp only[go_sem,HX,hw];refine IH (i+1) _ _ J ⟨J,?_,?_,?_,?_,λj h=>?_,J,d5 Jh,.sl S2.next 0 (i+1) none 2,?_,by rw[Dj k hd];exact d3⟩
   case refine_5=>rw[d4 j J (F7.xQ (.inr h)),kS j J];exact hs j h
   all_goals simp only[go_sem,q1,q8,q9]
  ·have G5:i=L.length:=J;subst G5;simp only[go_sem,zY,q9,HX,Z9,ap5,q5];rcases hv with⟨h,_⟩|⟨_,_,b,a1,a2,a3,a4⟩
   ·exact absurd (aqo.1 h) h0
   ·rw[aqN] at a4;exact⟨_,b,rfl,a3,a4,a1,a2,hs,Vq,tf⟩
 all_goals simp only[go_sem]
 all_goals rfl
end Go.Am
