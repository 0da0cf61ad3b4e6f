/- A part of the proof of a statement of this seat: the machine on which the program is read, and what it computes; for every input. -/
import Derived.Test.YtikiipfbkfgmbaaGreatDoorZ36
import Derived.Test.YtikiipfbkfgmbaaGreatDoorZ23
set_option linter.all false
namespace Go.Am
open Go
variable [Z4]
set_option maxRecDepth 100000
set_option maxHeartbeats 4000000
section
variable {S:Type} [DecidableEq S]
def apg (nx:S->Nat->S×Bool)(l:List Int):Nat->Nat->S->List Int
 |0,_,_=>[]
 |r+1,t,x=>bif (nx x (KM l t)).2 then (t:Int)::apg nx l r (t+1) (nx x (KM l t)).1 else apg nx l r (t+1) (nx x (KM l t)).1
theorem ao5 {lines:Int}{nx:S->Nat->S×Bool}{L:List S}{Inv:S->Prop}(h:Bj (fun x y=>(nx x y).1) (2^lines.toNat) Inv L.length L){l:List Int} :
  ∀(r t s:Nat) (x:S),L[s]? = some x->(∀i,i<r->KM l (t+i)<2^lines.toNat)->(zb (Kk lines nx L).fa l r t s).1=apg nx l r t x
 |0,_,_,_,_,_=>rfl
 |r+1,t,s,x,hs,hl=>by
  obtain⟨Yh,hx⟩:=alQ.1 hs;have h0:=hl 0 (by omega);rw[Nat.add_zero] at h0;have hn:L[(Kk lines nx L).fa.nx s (KM l t)]? = some (nx x (KM l t)).1:=by
   rw[iO Yh h0,hx];refine Bv ?_;have:=h.cl s Yh Yh _ h0;rw[hx] at this;exact this
  have ih:=ao5 h r (t+1) _ _ hn fun i hi=>by have:=hl (i+1) (by omega);rwa [show t+(i+1)=t+1+i by omega] at this
  rw[zb,apg,iN Yh h0,hx];simp only[ih]
end
theorem ao6 {l:List Int}(hl:∀x∈l,0<=x){t:Nat}(ht:t<l.length):((KM l t:Nat):Int)=Xg l (t:Int):=by
 unfold KM Xg;have:=hl _ (adm ht);rw[amn,alM,aaa ht];show ((l[t].toNat:Nat):Int)=l[t];omega
theorem amR (S:List Step){l:List Int}(hl:∀x∈l,0<=x):∀(r t:Nat) (Yy:List Int) (a:Nat) (k g last:Int),t+r<=l.length->(t=0->last = -1)->(0<t->last=Xg l ((t-1:Nat):Int))->apg (YG S) l r t ⟨Yy,(a,k,g),last⟩=runT l S r t Yy (a,k,g)
 |0,_,_,_,_,_,_,_,_,_=>rfl
 |r+1,t,Yy,a,k,g,last,ht,h0,h1=>by
  have e:=ao6 hl (show t<l.length by omega);have el:decide (last<0)=((t:Int)==0)/\Yv last (KM l t:Nat)=QS l (t:Int):=by
   cases t with
   |zero =>
    rw[h0 rfl,e];exact⟨rfl,by unfold Yv QS;rfl⟩
   |succ u =>
    have hb:=h1 (by omega);rw[show u+1-1=u by omega] at hb;have hp:0<=last:=by
     rw[hb,<-ao6 hl (by omega)];omega
    rw[decide_eq_false (by omega:¬last<0)];refine⟨?_,?_⟩
    ·symm;simp;omega
    ·rw[Lu,<-hb];unfold Yv;rw[decide_eq_false (by omega:¬last<0)];rfl
  rw[apg,runT];unfold YG;simp only;rw[el.1,el.2,e];generalize hm:eS (Wn S) (Tm S) S.length (JZ (outs (S.map Step.cond) (Xu (Xg l (t:Int)) (QS l (t:Int)) ((t:Int)==0) (ZJ (S.map Step.cond)) Yy))) a k g=M;obtain⟨⟨a',k',g'⟩,b⟩:=M;have ih:=amR S hl r (t+1) (WN (Xg l (t:Int)) (QS l (t:Int)) ((t:Int)==0) (ZJ (S.map Step.cond)) Yy) a' k' g' (Xg l (t:Int)) (by omega) (fun h=>absurd h (by omega)) (fun _=>by rw[show t+1-1=t by omega]);simp only;unfold YG at ih;rw[<-ih]
theorem aoV {p:Prog}(ok:p.ok)(hl:1<=p.lines/\p.lines<=4)(hz:Xl p.steps (2^p.lines.toNat)<=512){l:List Int}(hs:al' (2^p.lines.toNat) l) :
  (zb (Zl (Kk p.lines (Y_ p.steps) (UH p.steps (2^p.lines.toNat)))).fa l l.length 0 0).1=E9 l p.steps:=by
 have hS:=Mp ok;have am':∀i,i<l.length->KM l i<2^p.lines.toNat:=fun i hi=>(ao1 hs (nl:=true) hi).2
 have hn:∀x∈l,0<=x:=fun x hx=>(hs.2 x hx).1
 obtain⟨p1,p2,Rp,p3⟩:=Kb hS (2^p.lines.toNat);have h0:(PL p.steps (2^p.lines.toNat))[0]? = some (AO p.steps):=by rw[p3];rfl
 rw[mG hS hl hz,apc (eM hS hl hz) am',ao5 p1 l.length 0 0 _ h0 (fun i hi=>by rw[ald];exact am' i hi)];unfold AO;rw[amR p.steps hn l.length 0 _ 0 0 0 (-1) (by omega) (fun _=>rfl) (fun h=>absurd h (by omega))];have q:=pc l p.steps ok.wf;unfold vn at q;rw[q];exact cr l p.steps (by have:=hS.w0;omega) hS.ne
theorem aph {p:Prog}(ok:p.ok)(hl:1<=p.lines/\p.lines<=4)(hz:Xl p.steps (2^p.lines.toNat)<=512):(Zl (Kk p.lines (Y_ p.steps) (UH p.steps (2^p.lines.toNat)))).next.length<=Xl p.steps (2^p.lines.toNat):=by
 have hS:=Mp ok;obtain⟨p1,p2,Rp,p3⟩:=Kb hS (2^p.lines.toNat);rw[mG hS hl hz];obtain⟨fin,hf⟩:=anr (eM hS hl hz);have e:=apb (Kk p.lines (YG p.steps) (PL p.steps (2^p.lines.toNat)));have h1:=hf.len;have h2:=hf.le;rw[iP] at h2;have h3:(Zl (Kk p.lines (YG p.steps) (PL p.steps (2^p.lines.toNat)))).fa.n=(Zl (Kk p.lines (YG p.steps) (PL p.steps (2^p.lines.toNat)))).next.length:=rfl;omega
end Go.Am
