/- A part of the proof. -/
import Derived.Test.YtkmaeondbkpajaaGreatDoorE25
set_option linter.all false
set_option maxHeartbeats 8000000
set_option maxRecDepth 100000
namespace Go.Am
open Go
variable [Z8]
variable {s:St}
theorem am7 (args:List AV)(s:St):Yx U (ZE U 258 args) 258 args s=UN U 258 args s:=(YJ ..).symm
theorem ae3 (args:List AV)(s:St):Yx U (ZE U 230 args) 230 args s=UN U 230 args s:=(YJ ..).symm
theorem am8 (args:List AV)(s:St):Yx U (ZE U 229 args) 229 args s=UN U 229 args s:=(YJ ..).symm
theorem am9 (args:List AV)(s:St):Yx U (ZE U 197 args) 197 args s=UN U 197 args s:=(YJ ..).symm
theorem am_ (args:List AV)(s:St):Yx U (ZE U 200 args) 200 args s=UN U 200 args s:=(YJ ..).symm
theorem am' (args:List AV)(s:St):Yx U (ZE U 202 args) 202 args s=UN U 202 args s:=(YJ ..).symm
theorem ana (args:List AV)(s:St):Yx U (ZE U 150 args) 150 args s=UN U 150 args s:=(YJ ..).symm
def Qu (s s':St):Prop:=(∀q,q<s.next->s'.get q=s.get q)/\s.next<=s'.next/\Fr s'
theorem Qu.trans {s s1 s2:St}(h:Qu s s1)(h':Qu s1 s2):Qu s s2:=⟨λq hq=>(h'.1 q (by have:=h.2.1;omega)).trans (h.1 q hq),aqM h.2.1 h'.2.1,h'.2.2⟩
section
variable {k n b:Nat}{cap:Option Nat}{L:List Nat}(Jz:0<k)(hL:L.length=n)(hn:n<=150)(hs:∀i j (_:i<j) (hj:j<L.length),L[i]<L[j])
include Jz hL hn hs
theorem ae4 {w i j:Nat}(Ox:i<j)(hj:j<n)(gb:s.get b=some (.cells (RT k L) 55 false 0 0))(fr:Fr s) :
  ∃s',UN U 258 [.sl b 0 n cap 2,.int .i64 (i:Nat),.int .i64 (j:Nat),.ptr w 0,.fn (.func 91) [] []] s=some (.XQ [.int .i64 (i:Nat),.int .i64 (j:Nat)],s')/\Qu s s':=by
 have bi:i<n:=J;have ri:=TE k L i J;have rj:=TE k L j J;have c1:=aam ((L[j] / k:Nat):Int) ((L[j]%k:Nat):Int) ((L[i] / k:Nat):Int) ((L[i]%k:Nat):Int);have o1:=(EH (k:=k) (c:=L[j]) (d:=L[i]) Jz).1;have YA:=hs i j Ox J;rw[decide_eq_false (show ¬L[j]<L[i] by omega)] at o1
 suffices K':∃o,go U (Us U [.tmp 10,.tmp 11]) [] ae5 (Zr 0 [.sl b 0 n cap 2,.int .i64 (i:Nat),.int .i64 (j:Nat),.ptr w 0,.fn (.func 91) [] []] .nil) s=some o/\o.1=.XQ [.int .i64 (i:Nat),.int .i64 (j:Nat)]/\Qu s o.2 by
  obtain⟨⟨v,s'⟩,h1,h2,h3⟩:=K';simp only at h2;subst h2;exact⟨s',Yi anb It h1,h3⟩
 unfold Yr at ri rj;simp only[go_sem,ae5,gb,bi,hj,ri,rj,c1,o1,ap4];exact⟨_,rfl,rfl,λq _=>by rw[ZR],O0,fr.upto J⟩
theorem ae6 {w i j l:Nat}(Ox:i<j)(hjl:j<l)(hl:l<n)(gb:s.get b=some (.cells (RT k L) 55 false 0 0))(hb:b<s.next)(fr:Fr s) :
  ∃s',UN U 230 [.sl b 0 n cap 2,.int .i64 (i:Nat),.int .i64 (j:Nat),.int .i64 (l:Nat),.ptr w 0,.fn (.func 91) [] []] s=some (.int .i64 (j:Nat),s')/\Qu s s':=by
 obtain⟨s1,e1,R1⟩:=ae4 (cap:=cap) Jz hL hn hs (w:=w) Ox J gb fr;obtain⟨s2,e2,R2⟩:=ae4 (cap:=cap) Jz hL hn hs (w:=w) hjl hl ((R1.1 b hb).trans gb) R1.2.2;have R12:=R1.trans R2;obtain⟨s3,e3,R3⟩:=ae4 (cap:=cap) Jz hL hn hs (w:=w) Ox J ((R12.1 b hb).trans gb) R12.2.2;refine⟨s3,Yi anc It ?_,R12.trans R3⟩;simp only[go_sem,ai2,am7,e1,e2,e3]
theorem ae7 {w i:Nat}(hi1:1<=i)(hi:i+1<n)(gb:s.get b=some (.cells (RT k L) 55 false 0 0))(hb:b<s.next)(fr:Fr s) :
  ∃s',UN U 229 [.sl b 0 n cap 2,.int .i64 (i:Nat),.ptr w 0,.fn (.func 91) [] []] s=some (.int .i64 (i:Nat),s')/\Qu s s':=by
 have w1:IntKind.i64.wrap (((i:Nat):Int)-1)=((i-1:Nat):Int):=Sq J J;have w2:IntKind.i64.wrap (((i:Nat):Int)+1)=((i+1:Nat):Int):=Sq J J;obtain⟨s',e,R⟩:=ae6 (cap:=cap) Jz hL hn hs (w:=w) (i:=i-1) (j:=i) (l:=i+1) J J hi gb hb fr;refine⟨s',Yi ane It ?_,R⟩;simp only[go_sem,ai3,w1,w2,ae3,e]
theorem anf (h13:13<=n)(gb:s.get b=some (.cells (RT k L) 55 false 0 0))(hb:b<s.next)(fr:Fr s) :
  ∃(x:Nat) (s':St),UN U 200 [.sl b 0 n cap 2,.int .i64 0,.int .i64 (n:Nat),.fn (.func 91) [] []] s=some (.XQ [.int .i64 (x:Nat),.int .i64 1],s')/\Qu s s':=by
 have w1:IntKind.i64.wrap (((n:Nat):Int)-0)=((n:Nat):Int):=Sq J J;have qd:Xj U .quo 3 true (.int .i64 ((n:Nat):Int)) (.int .i64 4)=some (.int .i64 ((n / 4:Nat):Int)):=g_ U 3 true (d:=4) J J;have hq4:4*(n / 4)<=n:=Nat.mul_div_le n 4;have hq2:3<=n / 4:=J;have v1:IntKind.i64.wrap (((n / 4:Nat):Int)*1)=((n / 4*1:Nat):Int):=Sq J J;have v2:IntKind.i64.wrap (((n / 4:Nat):Int)*2)=((n / 4*2:Nat):Int):=Sq J J;have v3:IntKind.i64.wrap (((n / 4:Nat):Int)*3)=((n / 4*3:Nat):Int):=Sq J J;generalize n / 4=Q at *;have u1:IntKind.i64.wrap (0+((Q*1:Nat):Int))=((Q*1:Nat):Int):=Sq J J;have u2:IntKind.i64.wrap (0+((Q*2:Nat):Int))=((Q*2:Nat):Int):=Sq J J;have u3:IntKind.i64.wrap (0+((Q*3:Nat):Int))=((Q*3:Nat):Int):=Sq J J;have h8:decide (((n:Nat):Int)>=8)=true:=decide_eq_true J;have z0:((0:Int)==0)=true:=rfl;obtain⟨S0,Mu⟩:∃S0,S0=s.new (.cells [.int .i64 0] 3 false 0 0):=⟨_,rfl⟩;have R0:Qu s S0:=by rw[Mu];exact⟨λq hq=>by rw[Z5,O3 J],O0,fr.new _⟩
 have gw0:S0.get s.next=some (.cells [.int .i64 0] 3 false 0 0):=by rw[Mu,Z5,Of rfl]
 have apG:S0.next=s.next+1:=by rw[Mu,Z']
 have gb0:=(R0.1 b hb).trans gb
 cases h50:decide (((n:Nat):Int)>=50) with
 |false =>
  obtain⟨s',e,R⟩:=ae6 (cap:=cap) Jz hL hn hs (w:=s.next) (i:=Q*1) (j:=Q*2) (l:=Q*3) J J J gb0 J R0.2.2;have g':=(R.1 s.next J).trans gw0;rw[Mu] at e;refine⟨Q*2,s',Yi ai4 It ?_,R0.trans R⟩;simp only[go_sem,ae8,w1,qd,v1,v2,v3,u1,u2,u3,h8,h50,ae3,e,g',z0]
 |true =>
  obtain⟨s1,e1,R1⟩:=ae7 (cap:=cap) Jz hL hn hs (w:=s.next) (i:=Q*1) J J gb0 J R0.2.2;have T1:=R0.trans R1;obtain⟨s2,e2,R2⟩:=ae7 (cap:=cap) Jz hL hn hs (w:=s.next) (i:=Q*2) J J ((T1.1 b hb).trans gb) (by have:=T1.2.1;omega) R1.2.2;have T2:=T1.trans R2;obtain⟨s3,e3,R3⟩:=ae7 (cap:=cap) Jz hL hn hs (w:=s.next) (i:=Q*3) J J ((T2.1 b hb).trans gb) (by have:=T2.2.1;omega) R2.2.2;have T3:=T2.trans R3;obtain⟨s',e,R⟩:=ae6 (cap:=cap) Jz hL hn hs (w:=s.next) (i:=Q*1) (j:=Q*2) (l:=Q*3) J J J ((T3.1 b hb).trans gb) (by have:=T3.2.1;omega) R3.2.2;have g':=(((R1.trans R2).trans R3).trans R).1 s.next J |>.trans gw0;rw[Mu] at e1;refine⟨Q*2,s',Yi ai4 It ?_,T3.trans R⟩;simp only[go_sem,ae8,w1,qd,v1,v2,v3,u1,u2,u3,h8,h50,am8,ae3,e1,e2,e3,e,g',z0]
theorem ai5 {β:Type}{fin:Fl->β}{ks:List K}{ZC:β->Prop}{e:Env}(h1n:1<=n)(g0:e.get 0=.sl b 0 n cap 2)(g2:e.get 2=.int .i64 (n:Nat))(g3:e.get 3=.fn (.func 91) [] [])(g9:e.get 9=.int .i64 (1:Nat))(gb:s.get b=some (.cells (RT k L) 55 false 0 0))(hb:b<s.next)(fr:Fr s)
  (hk:∀e' s',e'.get 2=.int .i64 (n:Nat)->e'.get 9=.int .i64 (n:Nat)->Qu s s'->ZC (goN U fin ks e' s')) :
  ZC (SJ U fin (.bk 2::ks) GF e s):=by
 refine YT (σ:=Nat) (λq=>n-q) (λq e' s'=>1<=q/\q<=n/\(∀t:Nat,t=0\/t=2\/t=3->e'.get t=e.get t)/\e'.get 9=.int .i64 (q:Nat)/\Qu s s') 1 ?_
  ⟨api _,h1n,λ_ _=>rfl,g9,λ_ _=>rfl,api _,fr⟩
 rintro Lp q e' s' ⟨h1,h2,hold,q9,R⟩ IH;have q0:=(hold 0 J).trans g0;have q2:=(hold 2 J).trans g2;have q3:=(hold 3 J).trans g3;have qb:=(R.1 b hb).trans gb;by_cases hd:q<n
 ·obtain⟨p,rfl⟩:∃p,q=p+1:=⟨q-1,J⟩;have w1:IntKind.i64.wrap (((p+1:Nat):Int)-1)=((p:Nat):Int):=Sq J J;have w2:IntKind.i64.wrap (((p+1:Nat):Int)+1)=((p+1+1:Nat):Int):=Sq J J;have bp:p<n:=J;have rq:=TE k L (p+1) J;have rp:=TE k L p J;have c1:=aam ((L[p+1] / k:Nat):Int) ((L[p+1]%k:Nat):Int) ((L[p] / k:Nat):Int) ((L[p]%k:Nat):Int);have o1:=(EH (k:=k) (c:=L[p+1]) (d:=L[p]) Jz).1;have YA:=hs p (p+1) J J;rw[decide_eq_false (show ¬L[p+1]<L[p] by omega)] at o1;unfold Yr at rp rq;simp only[go_sem,GF,q0,q2,q3,q9,Z9,hd,qb,bp,rp,rq,w1,w2,c1,o1,ap4];refine IH (p+1+1) _ _ J ⟨J,J,λt ht=>?_,?_,R.trans ⟨λq _=>by rw[ZR],O0,R.2.2.upto J⟩⟩
  ·have ZB:∀k:Nat,9<=k->(k=t)=False:=λk hk=>F_
   simp only[go_sem,ZB];exact hold t ht
  ·simp only[go_sem]
 ·have G5:q=n:=J;subst G5;simp only[go_sem,GF,q2,q9,Z9,ap5,Ug];refine hk _ _ ?_ ?_ (R.trans ⟨λq _=>by first|rfl|rw[ZR],by first|exact api _|(rw[Z6];omega),by first|exact R.2.2|exact R.2.2.upto J⟩)
  all_goals simp only[go_sem,q2,q9]
theorem ang (h13:1<=n)(gb:s.get b=some (.cells (RT k L) 55 false 0 0))(hb:b<s.next)(fr:Fr s) :
  ∃s',UN U 202 [.sl b 0 n cap 2,.int .i64 0,.int .i64 (n:Nat),.fn (.func 91) [] []] s=some (.bool true,s')/\Qu s s':=by
 suffices K':∃o,go U (Us U [.tmp 8]) [] ae9 (Zr 0 [.sl b 0 n cap 2,.int .i64 0,.int .i64 (n:Nat),.fn (.func 91) [] []] .nil) s=some o/\o.1=.bool true/\Qu s o.2 by
  obtain⟨⟨v,s'⟩,h1,h2,h3⟩:=K';simp only at h2;subst h2;exact⟨s',Yi anh It h1,h3⟩
 have w1:IntKind.i64.wrap (0+1)=((1:Nat):Int):=rfl;have enn:((n:Int)==(n:Int))=true:=by simp
 have d5:decide ((0:Int)<5)=true:=rfl;simp only[go_sem,ae9];refine YT (ZC:=λ(x:Option (AV×St))=>∃o,x=some o/\o.1=.bool true/\Qu s o.2) (σ:=Unit) (λ_=>0) (λ_ e' s'=>s'=s/\e'.get 0=.sl b 0 n cap 2/\e'.get 2=.int .i64 (n:Nat)/\e'.get 3=.fn (.func 91) [] []/\e'.get 9=.int .i64 (1:Nat)/\e'.get 10=.int .i64 0) () ?_ ⟨rfl,?_,?_,?_,?_,?_⟩
 ·rintro Lp _ e' s' ⟨rfl,q0,q2,q3,q9,HX⟩ _;simp only[go_sem,oz,HX];refine ai5 (ZC:=λ(x:Option (AV×St))=>∃o,x=some o/\o.1=.bool true/\Qu s' o.2) Jz hL hn hs h13 (cap:=cap) ?_ ?_ ?_ ?_ gb hb fr ?_
  case refine_5 =>
   intro e2 s2 p2 p9 R;simp only[go_sem,p2,p9,enn];exact⟨_,rfl,rfl,R⟩
  all_goals simp only[go_sem,q0,q2,q3,q9]
 all_goals simp only[go_sem]
 all_goals rfl
theorem ani (gb:s.get b=some (.cells (RT k L) 55 false 0 0))(hb:b<s.next)(fr:Fr s) :
  ∃v s',UN U 197 [.sl b 0 n cap 2,.int .i64 0,.int .i64 (n:Nat),.fn (.func 91) [] []] s=some (v,s')/\Qu s s':=by
 suffices K':∃o,go U (Us U []) [] ae_ (Zr 0 [.sl b 0 n cap 2,.int .i64 0,.int .i64 (n:Nat),.fn (.func 91) [] []] .nil) s=some o/\Qu s o.2 by
  obtain⟨o,h1,h3⟩:=K';exact⟨o.1,o.2,Yi anj It h1,h3⟩
 have w1:IntKind.i64.wrap (0+1)=((1:Nat):Int):=rfl;simp only[go_sem,ae_];refine YT (ZC:=λ(x:Option (AV×St))=>∃o,x=some o/\Qu s o.2) (σ:=Nat) (λq=>n-q) (λq e' s'=>1<=q/\(∀t:Nat,t=0\/t=1\/t=2\/t=3->e'.get t=Env.get (Zr 0 [.sl b 0 n cap 2,.int .i64 0,.int .i64 (n:Nat),.fn (.func 91) [] []] .nil) t)/\e'.get 8=.int .i64 (q:Nat)/\Qu s s') 1 ?_ ⟨api _,λt ht=>?_,?_,λ_ _=>rfl,api _,fr⟩
 ·rintro Lp q e' s' ⟨h1,hold,q8,R⟩ IH;have q0:=hold 0 J;have q1:=hold 1 J;have q2:=hold 2 J;have q3:=hold 3 J;simp only[go_sem] at q0 q1 q2 q3;have qb:=(R.1 b hb).trans gb;by_cases hd:q<n
  ·obtain⟨p,rfl⟩:∃p,q=p+1:=⟨q-1,J⟩;have w1:IntKind.i64.wrap (((p+1:Nat):Int)-1)=((p:Nat):Int):=Sq J J;have w2:IntKind.i64.wrap (((p+1:Nat):Int)+1)=((p+1+1:Nat):Int):=Sq J J;have bp:p<n:=J;have dp:decide (((p+1:Nat):Int)>0)=true:=decide_eq_true J;have rq:=TE k L (p+1) J;have rp:=TE k L p J;have c1:=aam ((L[p+1] / k:Nat):Int) ((L[p+1]%k:Nat):Int) ((L[p] / k:Nat):Int) ((L[p]%k:Nat):Int);have o1:=(EH (k:=k) (c:=L[p+1]) (d:=L[p]) Jz).1;have YA:=hs p (p+1) J J;rw[decide_eq_false (show ¬L[p+1]<L[p] by omega)] at o1;unfold Yr at rp rq;simp only[go_sem,zT,q2,q8,Z9,hd];rw[Qx];simp only[go_sem,oy,q0,q1,q3,q8,dp,hd,qb,bp,rp,rq,w1,w2,c1,o1,ap4];refine IH (p+1+1) _ _ J ⟨J,λt ht=>?_,?_,R.trans ⟨λq _=>by rw[ZR],O0,R.2.2.upto J⟩⟩
   ·have ZB:∀k:Nat,8<=k->(k=t)=False:=λk hk=>F_
    rw[<-hold t ht];simp only[go_sem,ZB]
   ·simp only[go_sem]
  ·simp only[go_sem,zT,q2,q8,Z9,hd];exact⟨_,rfl,R⟩
 ·have ZB:∀k:Nat,8<=k->(k=t)=False:=λk hk=>F_
  simp only[go_sem,ZB]
 ·simp only[go_sem];rfl
theorem ank {Js:Int}(ae':13<=n->(Js==0)=false)(gb:s.get b=some (.cells (RT k L) 55 false 0 0))(hb:b<s.next)(fr:Fr s) :
  ∃v s',UN U 150 [.sl b 0 n cap 2,.int .i64 0,.int .i64 (n:Nat),.int .i64 Js,.fn (.func 91) [] []] s=some (v,s')/\Qu s s':=by
 suffices K':∃o,go U (Us U []) [] abt (Zr 0 [.sl b 0 n cap 2,.int .i64 0,.int .i64 (n:Nat),.int .i64 Js,.fn (.func 91) [] []] .nil) s=some o/\Qu s o.2 by
  obtain⟨o,h1,h3⟩:=K';exact⟨o.1,o.2,Yi anl It h1,h3⟩
 have w0:IntKind.i64.wrap (((n:Nat):Int)-0)=((n:Nat):Int):=Sq J J
 cases h12:decide ((n:Int)<=12) with
 |true =>
  obtain⟨v,s',e,R⟩:=ani (cap:=cap) Jz hL hn hs gb hb fr;simp only[go_sem,abt];rw[Qx];simp only[go_sem,zS,w0,h12,am9,e];exact⟨_,rfl,R⟩
 |false =>
  have h13:13<=n:=by simp at h12;omega
  have eR:=ae' h13;obtain⟨x,s1,e1,R1⟩:=anf (cap:=cap) Jz hL hn hs h13 gb hb fr;obtain⟨s2,e2,R2⟩:=ang (cap:=cap) Jz hL hn hs J ((R1.1 b hb).trans gb) (by have:=R1.2.1;omega) R1.2.2;have e12:((1:Int)==2)=false:=rfl;have e11:((1:Int)==1)=true:=rfl;simp only[go_sem,abt];rw[Qx];simp only[go_sem,zS,dS,dR,w0,h12,eR,am_,e1,am',e2,e12,e11];exact⟨_,rfl,R1.trans R2⟩
end
def dQ (n:Nat)(v:Option AV):Bool:=match v with
 |some (.int .i64 m)=>n==0||!(m==0)
 |_=>false
theorem rW:(List.range 151).all (λn=>dQ n (X7 U (exec U 1000) 151 [.int .u64 (n:Int)] true))=true:=It
theorem k_ {n:Nat}(h:n<=150):∃v:Int,ZE U 151 [.int .u64 (n:Int)]=some (.int .i64 v)/\(13<=n->(v==0)=false):=by
 have h1:=ap8.1 rW n (aqg.2 J)
 cases hv:X7 U (exec U 1000) 151 [.int .u64 (n:Int)] true with
 |none=>rw[hv] at h1;cases h1
 |some v =>
  rw[hv] at h1;unfold dQ at h1
  split at h1
  ·rename_i m hm
   cases hm
   refine⟨m,U6 It rfl (YZ U hv),λh13=>?_⟩;simp at h1;rcases h1 with h|h
   ·omega
   ·simpa using h
  ·cases h1
theorem anm {k n b:Nat}{cap:Option Nat}{L:List Nat}(Jz:0<k)(hL:L.length=n)(hn:n<=150)(hs:∀i j (_:i<j) (hj:j<L.length),L[i]<L[j])(gb:s.get b=some (.cells (RT k L) 55 false 0 0))(hb:b<s.next)(fr:Fr s) :
  ∃v s',UN U 90 [.sl b 0 n cap 2,.fn (.func 91) [] []] s=some (v,s')/\Qu s s':=by
 suffices K':∃o,go U (Us U []) [] afa (Zr 0 [.sl b 0 n cap 2,.fn (.func 91) [] []] .nil) s=some o/\Qu s o.2 by
  obtain⟨o,h1,h3⟩:=K';exact⟨o.1,o.2,Yi ano It h1,h3⟩
 have wu:IntKind.u64.wrap ((n:Nat):Int)=((n:Nat):Int):=by
  show ((n:Nat):Int)%18446744073709551616=_;omega
 obtain⟨Js,ae',eR⟩:=k_ hn;obtain⟨v,s',e,R⟩:=ank (cap:=cap) Jz hL hn hs eR gb hb fr;simp only[go_sem,afa,wu,ae',ana,e];exact⟨_,rfl,R⟩
end Go.Am
namespace Go.Am
open Go
variable [Z8]
def ajv (args:List AV)(s:St):Yx U (ZE U 88 args) 88 args s=UN U 88 args s:=(YJ ..).symm
def ajw (args:List AV)(s:St):Yx U (ZE U 90 args) 90 args s=UN U 90 args s:=(YJ ..).symm
def anT {k c x:Nat}{s:St}:UN U 87 [.agg (Yr k c),.int .i64 (x:Int)] s=some (.bool true,s.new (.cells (Yr k c) 164 false 0 0)):=by
 refine Yi anU It ?_;unfold Yr;simp only[go_sem,ajx]
def afM (k N:Nat)(QO:Nat->Nat->Prop):Yld (.fn (.func 87) [] []) k N Unit (λ_ _=>True) (λ_ _=>False) QO (λ_ _=>true) (λ_ _ _ _=>True):=by
 refine⟨λg c x s hd AK hf=>⟨(),s.new (.cells (Yr k c) 164 false 0 0),?_,trivial,trivial,λj hj=>hj.elim,λj hj _=>by rw[Z5,O3 J],O0,hf.new _⟩,λg s s' AK hn hs=>trivial,λ_ _ _ _ h=>h.elim⟩;rw[Sf,<-YJ];exact anT
def aco (a b:Zv):AV:=bif Wz a b != 0 then .XQ [.ZQ,.int .i64 (Wz a b)] else bif decide ((SS (Jt a b)).length=0) then .XQ [.fz (zy b.fa.n (Sp a b)),.int .i64 0] else .XQ [.ZQ,.int .i64 29]
def c69 (a b:Zv)(ha:a.next.length<=2^40)(hra:∀r∈a.next,r.2.length<=2^40)(hb:b.next.length<=2^40)(hrb:∀r∈b.next,r.2.length<=2^40)(hn:Wz a b=0->(SS (Jt a b)).length=0->(Sp a b).length<=150/\(Sp a b).Pairwise (·<·)):ZE U 28 [XW a,XW b]=some (aco a b):=by
 refine ZP k69 It (by simp[ZT,XC]) ?_;have h136:=aem a b ha hra hb hrb;unfold aco;have nn:=ZV a.Xb (a.next.map ZF);have nf:=ZV a.WG (a.ZW.map ZM);have cn:=ZK a.Xb (a.next.map ZF);have cf:=ZK a.WG (a.ZW.map ZM);have nn':=ZV b.Xb (b.next.map ZF);have nf':=ZV b.WG (b.ZW.map ZM);have cn':=ZK b.Xb (b.next.map ZF);have cf':=ZK b.WG (b.ZW.map ZM)
 cases hc:Wz a b != 0 with
 |true =>
  rw[YH a,YH b] at h136 ⊢;unfold VI XD at h136 ⊢;simp only[go_sem,r69,h136,hc]
 |false =>
  have h0:Wz a b=0:=by simpa using hc
  obtain⟨oa,ob,VK⟩:=IU h0;rw[h0] at h136;have h137:=ahz oa ob VK;have ls:=ZN true (Zz (SS (Jt a b)));rw[Wd] at ls;by_cases hz:(SS (Jt a b)).length=0
  ·have oN:decide ((((SS (Jt a b)).length:Nat):Int)>0)=false:=decide_eq_false J;obtain⟨S,hS⟩:∃S,S=((Ym U).new (.cells [.int .i64 a.lines,ZU a.Xb (a.next.map ZF),ZU a.WG (a.ZW.map ZM)] 42 false 0 0)).new (.cells [.int .i64 b.lines,ZU b.Xb (b.next.map ZF),ZU b.WG (b.ZW.map ZM)] 42 false 0 0):=⟨_,rfl⟩;have Jh:Fr S:=by rw[hS];exact (Fr.own.new _).new _
   obtain⟨pv,ev,s1,g',h114,VR⟩:=ahA oa ob VK (s:=S) (afM b.fa.n S.next (λ_ _=>True)) (λ_ _ _ _=>trivial) (g:=()) trivial Jh;have hP:=Gb oa ob VK;have hpr:=VR.ahQ;rw[<-Ti] at hpr;have hpr:Jr s1 S.next 164 (Sp a b).length (RT b.fa.n (Sp a b)) pv:=hpr;have hle:=hP.len;have h64:=hn h0 hz;obtain⟨s2,bb,h139,gbb,b1,b2,k2,n2,OJ⟩:=amR J (λe=>by have:=hP.pos;rw[e] at this;simp at this) hpr VR.fr;obtain⟨v3,s3,h141,R3⟩:=anm (cap:=none) (k:=b.fa.n) ob.pos rfl h64.1 (λi j Ox hj=>List.pairwise_iff_getElem.1 h64.2 i j J hj Ox) gbb b2 OJ;have L9:=qw (d:=36) (cap:=none) ((R3.1 bb b2).trans gbb);rw[YH a,YH b] at h136 h137 h114 ⊢;unfold VI XD at h136 h137 h114 ⊢;rw[hS] at h114;simp only[go_sem,r69,h136,h137,ls,oN,ada,h114,ajv,h139,ajw,h141];rw[decide_eq_true hz,cond_true];rw[Uw] at L9;rw[L9];rfl
  ·have oN:decide ((((SS (Jt a b)).length:Nat):Int)>0)=true:=decide_eq_true J;rw[decide_eq_false hz];rw[YH a,YH b] at h136 h137 ⊢;unfold VI XD at h136 h137 ⊢;simp only[go_sem,r69,h136,h137,ls,oN]
end Go.Am
