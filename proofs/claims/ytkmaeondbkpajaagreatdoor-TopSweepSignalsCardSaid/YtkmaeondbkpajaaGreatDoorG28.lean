/- A part of the proof of a statement of this seat: the machine on which the program is read, and what it computes; for every input. -/
import Derived.Test.YtkmaeondbkpajaaGreatDoorG27
import Derived.Test.YtkmaeondbkpajaaGreatDoorG17
set_option linter.all false
namespace Go.Am
open Go
variable [ZZ]
set_option maxRecDepth 100000
set_option maxHeartbeats 4000000
section
variable {S:Type} [DecidableEq S]
def qC (nx:S->Nat->S×Bool)(l:List Int):Nat->Nat->S->List Int
 |0,_,_=>[]
 |r+1,t,x=>bif (nx x (XH l t)).2 then (t:Int)::qC nx l r (t+1) (nx x (XH l t)).1 else qC nx l r (t+1) (nx x (XH l t)).1
theorem tW {lines:Int}{nx:S->Nat->S×Bool}{L:List S}{Inv:S->Prop}(h:Cw (fun x y=>(nx x y).1) (2^lines.toNat) Inv L.length L){l:List Int} :
  ∀(r t s:Nat) (x:S),L[s]? = some x->(∀i,i<r->XH l (t+i)<2^lines.toNat)->(Yb (PR lines nx L).fa l r t s).1=qC nx l r t x
 |0,_,_,_,_,_=>rfl
 |r+1,t,s,x,hs,hl=>by
  obtain⟨YH,hx⟩:=ajt.1 hs;have h0:=hl 0 (by omega);rw[Nat.add_zero] at h0;have hn:L[(PR lines nx L).fa.nx s (XH l t)]? = some (nx x (XH l t)).1:=by
   rw[wN YH h0,hx];refine Jm ?_;have:=h.cl s YH YH _ h0;rw[hx] at this;exact this
  have ih:=tW h r (t+1) _ _ hn fun i hi=>by have:=hl (i+1) (by omega);rwa [show t+(i+1)=t+1+i by omega] at this
  rw[Yb,qC,wM YH h0,hx];simp only[ih]
end
theorem tV {l:List Int}(hl:∀x∈l,0<=x){t:Nat}(ht:t<l.length):((XH l t:Nat):Int)=XS l (t:Int):=by
 unfold XH XS;have:=hl _ (ajc ht);rw[ajD,ajl,aaa ht];show ((l[t].toNat:Nat):Int)=l[t];omega
theorem ld (S:List Step){l:List Int}(hl:∀x∈l,0<=x):∀(r t:Nat) (Za:List Int) (a:Nat) (k g last:Int),t+r<=l.length->(t=0->last = -1)->(0<t->last=XS l ((t-1:Nat):Int))->qC (YX S) l r t ⟨Za,(a,k,g),last⟩=runT l S r t Za (a,k,g)
 |0,_,_,_,_,_,_,_,_,_=>rfl
 |r+1,t,Za,a,k,g,last,ht,h0,h1=>by
  have e:=tV hl (show t<l.length by omega);have el:decide (last<0)=((t:Int)==0)/\XO last (XH l t:Nat)=WE l (t:Int):=by
   cases t with
   |zero =>
    rw[h0 rfl,e];exact⟨rfl,by unfold XO WE;rfl⟩
   |succ u =>
    have hb:=h1 (by omega);rw[show u+1-1=u by omega] at hb;have hp:0<=last:=by
     rw[hb,<-tV hl (by omega)];omega
    rw[decide_eq_false (by omega:¬last<0)];refine⟨?_,?_⟩
    ·symm;simp;omega
    ·rw[PV,<-hb];unfold XO;rw[decide_eq_false (by omega:¬last<0)];rfl
  rw[qC,runT];unfold YX;simp only;rw[el.1,el.2,e];generalize hm:NL (Wn S) (Tm S) S.length (Fz (outs (S.map Step.cond) (Yk (XS l (t:Int)) (WE l (t:Int)) ((t:Int)==0) (ZQ (S.map Step.cond)) Za))) a k g=M;obtain⟨⟨a',k',g'⟩,b⟩:=M;have ih:=ld S hl r (t+1) (Ye (XS l (t:Int)) (WE l (t:Int)) ((t:Int)==0) (ZQ (S.map Step.cond)) Za) a' k' g' (XS l (t:Int)) (by omega) (fun h=>absurd h (by omega)) (fun _=>by rw[show t+1-1=t by omega]);simp only;unfold YX at ih;rw[<-ih]
theorem wK {p:Prog}(ok:p.ok)(hl:1<=p.lines/\p.lines<=4)(hz:Wu p.steps (2^p.lines.toNat)<=512){l:List Int}(hs:AI (2^p.lines.toNat) l) :
  (Yb (YW (PR p.lines (U7 p.steps) (PS p.steps (2^p.lines.toNat)))).fa l l.length 0 0).1=xG l p.steps:=by
 have hS:=S4 ok;have aeS:∀i,i<l.length->XH l i<2^p.lines.toNat:=fun i hi=>(CX hs (nl:=true) hi).2
 have hn:∀x∈l,0<=x:=fun x hx=>(hs.2 x hx).1
 obtain⟨p1,p2,Rp,p3⟩:=RI hS (2^p.lines.toNat);have h0:(S_ p.steps (2^p.lines.toNat))[0]? = some (DS p.steps):=by rw[p3];rfl
 rw[IC hS hl hz,rL (Dw hS hl hz) aeS,tW p1 l.length 0 0 _ h0 (fun i hi=>by rw[ajr];exact aeS i hi)];unfold DS;rw[ld p.steps hn l.length 0 _ 0 0 0 (-1) (by omega) (fun _=>rfl) (fun h=>absurd h (by omega))];have q:=EW l p.steps ok.wf;unfold UR at q;rw[q];exact AJ l p.steps (by have:=hS.w0;omega) hS.ne
theorem qB {p:Prog}(ok:p.ok)(hl:1<=p.lines/\p.lines<=4)(hz:Wu p.steps (2^p.lines.toNat)<=512):(YW (PR p.lines (U7 p.steps) (PS p.steps (2^p.lines.toNat)))).next.length<=Wu p.steps (2^p.lines.toNat):=by
 have hS:=S4 ok;obtain⟨p1,p2,Rp,p3⟩:=RI hS (2^p.lines.toNat);rw[IC hS hl hz];obtain⟨fin,hf⟩:=aaJ (Dw hS hl hz);have e:=rM (PR p.lines (YX p.steps) (S_ p.steps (2^p.lines.toNat)));have h1:=hf.len;have h2:=hf.le;rw[tZ] at h2;have h3:(YW (PR p.lines (YX p.steps) (S_ p.steps (2^p.lines.toNat)))).fa.n=(YW (PR p.lines (YX p.steps) (S_ p.steps (2^p.lines.toNat)))).next.length:=rfl;omega
end Go.Am
