/- A part of the proof of a statement of this seat: the machine on which the program is read, and what it computes; for every input. -/
import Derived.Test.YtikiipfbkfgmbaaGreatDoorZ23
set_option linter.all false
namespace Go.Am
open Go
variable [Z4]
set_option maxRecDepth 100000
set_option maxHeartbeats 4000000
theorem E6 (l:List Int)(k:Int):∀(t v:Nat),runN l k t<=v->v<=t->Zy (Xg l (v:Int)) k=Zy (Xg l (t:Int)) k
 |0,v,_,h=>by rw[show v=0 by omega]
 |t+1,v,h1,h2=>by
  by_cases e:v=t+1
  ·rw[e]
  rw[ON] at h1;by_cases hb:Zy (Xg l (t:Int)) k=Zy (Xg l ((t+1:Nat):Int)) k
  ·rw[if_pos hb] at h1;rw[E6 l k t v h1 (by omega),hb]
  ·rw[if_neg hb] at h1;omega
theorem aoq (l:List Int)(k:Int):∀(t:Nat),0<runN l k t->Zy (Xg l ((runN l k t-1:Nat):Int)) k≠Zy (Xg l (t:Int)) k
 |0,h=>absurd h (by simp[runN])
 |t+1,h=>by
  rw[ON] at h ⊢;by_cases hb:Zy (Xg l (t:Int)) k=Zy (Xg l ((t+1:Nat):Int)) k
  ·rw[if_pos hb] at h ⊢;rw[<-hb];exact aoq l k t h
  ·rw[if_neg hb,show t+1-1=t by omega];exact hb
def bkN (l:List Int)(k:Int)(t1:Nat):Nat->Nat->Nat×Bool
 |0,r=>(r,false)
 |u+1,r=>bif Zy (Xg l (u:Int)) k==Zy (Xg l (t1:Int)) k then bkN l k t1 u (r+1) else (r,true)
theorem amS (l:List Int)(k:Int)(t1:Nat):∀(u r:Nat),runN l k t1<=u->u<=t1+1->bkN l k t1 u r=(r+(u-runN l k t1),decide (0<runN l k t1))
 |0,r,h,_=>by rw[bkN,show runN l k t1=0 by omega];rfl
 |u+1,r,h,h2=>by
  rw[bkN];by_cases e:runN l k t1=u+1
  ·have hb:=aoq l k t1 (by omega);rw[e,show u+1-1=u by omega] at hb;rw[beq_eq_false_iff_ne.2 hb,cond_false,e,decide_eq_true (by omega:0<u+1)]
   congr 1;omega
  ·have hb:=E6 l k t1 u (by omega) (by omega);rw[hb,beq_self_eq_true,cond_true,amS l k t1 u (r+1) (by omega) (by omega)]
   congr 1;omega
theorem apl (l:List Int)(k:Int)(t1:Nat):bkN l k t1 (t1+1) 0=(t1+1-runN l k t1,decide (0<runN l k t1)):=by
 have:=NN l k t1;rw[amS l k t1 _ _ (by omega) (agB _),ald]
theorem aoR (l:List Int)(a:Int){mi:Int}(hm:1<=mi)(u:Nat):dI l a (XO (u+1) mi) (u+1+1-XO (u+1) mi) false =
  (bif Zy (Xg l ((u+1:Nat):Int)) a==Zy (Xg l (u:Int)) a then decide (0<runN l a u)&&decide (((u+1-runN l a u:Nat):Int)+1<=mi) else true):=by
 have hle:=NN l a u;have hf:∀v:Nat,XO (u+1) mi<=v<->(1<=v/\((u+1:Nat):Int)-mi+1<=v):=fun v=>by unfold XO;omega
 have hsf:XO (u+1) mi<=u+1:=by unfold XO;omega
 rw[amj,se];by_cases hb:Zy (Xg l ((u+1:Nat):Int)) a=Zy (Xg l (u:Int)) a
 ·rw[hb,beq_self_eq_true,cond_true,agw,decide_eq_true_iff,decide_eq_true_iff]
  constructor
  ·rintro (h|⟨v,h1,h2,h3⟩)
   ·cases h
   rw[hf] at h1;unfold o5 at h3;have hv:v<=u:=by
    by_cases e:v=u+1
    ·subst e;rw[show u+1-1=u by omega] at h3;exact absurd hb h3
    ·omega
   have hr:v<=runN l a u:=by
    by_cases Yh:runN l a u<v
    ·have q1:=E6 l a u v (by omega) hv;have q2:=E6 l a u (v-1) (by omega) (by omega);exact absurd (q1.trans q2.symm) h3
    ·omega
   exact⟨by omega,by omega⟩
  ·rintro⟨h1,h2⟩;refine .inr ⟨runN l a u,(hf _).2 ⟨by omega,by omega⟩,by unfold XO;omega,?_⟩;unfold o5;have q:=aoq l a u h1;have q1:=E6 l a u _ (agB _) hle;rw[q1];exact fun e=>q e.symm
 ·rw[beq_eq_false_iff_ne.2 hb,cond_false];refine⟨fun _=>rfl,fun _=>.inr ⟨u+1,(hf _).2 ⟨by omega,by omega⟩,by unfold XO;omega,?_⟩⟩;unfold o5;rw[show u+1-1=u by omega];exact hb
theorem qn {l:List Int}{n i:Nat}(h:i<n):Xg (l.take n) (i:Int)=Xg l (i:Int):=by
 unfold Xg;rw[amn,alM,alM,List.getElem?_take,if_pos h]
theorem aow {l:List Int}{n i:Nat}(h:i<n):QS (l.take n) (i:Int)=QS l (i:Int):=by
 cases i with
 |zero=>rw[G1,G1,qn h]
 |succ j=>rw[Lu,Lu,qn (by omega)]
theorem aox {l:List Int}{m:Nat}(c:Z5):∀(n i:Nat) (Yy:List Int),i+n<=m->aoN (l.take m) c n i Yy=aoN l c n i Yy
 |0,_,_,_=>rfl
 |n+1,i,Yy,h=>by
  rw[aoN,aoN,qn (by omega),aow (by omega),aox c n (i+1) _ (by omega)]
theorem aoM (l:List Int){c:Z5}(hc:c.wf){m t:Nat}(h:t<m):atR (l.take m) t c=atR l t c:=by
 have q1:=aoD (l.take m) c hc m 0;have q2:=aoD l c hc m 0;have e:(Ve c).map (fun x=>aa7 (l.take m) x 0)=(Ve c).map fun x=>aa7 l x 0:=rfl
 rw[e,aox c m 0 _ (by omega),q2] at q1;have:=congrArg (fun L=>L[t]?) q1;simp only[alV,List.getElem?_range',aaa,h,List.length_range'] at this
 simpa[h] using this.symm
theorem aoy {l:List Int}{m:Nat}(S:List Step):∀(n i:Nat) (Yy:List Int) (a:Nat) (k g:Int),i+n<=m->runT (l.take m) S n i Yy (a,k,g)=runT l S n i Yy (a,k,g)
 |0,_,_,_,_,_,_=>rfl
 |n+1,i,Yy,a,k,g,h=>by
  rw[runT,runT,qn (by omega),aow (by omega)];generalize eS (Wn S) (Tm S) S.length (JZ (outs (S.map Step.cond) (Xu (Xg l (i:Int)) (QS l (i:Int)) ((i:Int)==0) (ZJ (S.map Step.cond)) Yy))) a k g=M;obtain⟨⟨a',k',g'⟩,b⟩:=M;simp only;rw[aoy S n (i+1) _ a' k' g' (by omega)]
theorem amT {W T:Nat->Int}{n:Nat}{H:Nat->Nat->Bool}:∀(r t:Nat) (c:aD),∀x∈trR W T n H r t c,(t:Int)<=x
 |0,_,_,x,hx=>by simp[trR] at hx
 |r+1,t,(a,k,g),x,hx=>by
  rw[trR] at hx;have ih:=amT (W:=W) (T:=T) (n:=n) (H:=H) r (t+1) (rfP W T n (H t) t a k g).1
  cases hb:(rfP W T n (H t) t a k g).2 with
  |true =>
   rw[hb,cond_true] at hx;rcases alL.1 hx with e|h
   ·omega
   ·have:=ih x h;omega
  |false =>
   rw[hb,cond_false] at hx;have:=ih x hx;omega
theorem anW {n:Int}:∀{l:List Int},(∀x∈l,n<=x)->l.takeWhile (fun x=>decide (x<n))=[]
 |[],_=>rfl
 |x::l,h=>by
  have:=h x (aba ..);rw[List.takeWhile_cons,decide_eq_false (by omega:¬x<n)];rfl
theorem ao7 {W T:Nat->Int}{n:Nat}{H:Nat->Nat->Bool}:∀(q r t:Nat) (c:aD),q<=r->trR W T n H q t c=(trR W T n H r t c).takeWhile fun x=>decide (x<((t+q:Nat):Int))
 |0,r,t,c,_=>by
  rw[anW fun x hx=>by have:=amT r t c x hx;omega];rfl
 |q+1,0,_,_,h=>by omega
 |q+1,r+1,t,(a,k,g),h=>by
  have ih:=ao7 (W:=W) (T:=T) (n:=n) (H:=H) q r (t+1) (rfP W T n (H t) t a k g).1 (by omega);rw[trR,trR,ih,show t+1+q=t+(q+1) by omega]
  cases (rfP W T n (H t) t a k g).2 with
  |true=>rw[cond_true,cond_true,List.takeWhile_cons,decide_eq_true (by omega:(t:Int)<((t+(q+1):Nat):Int))];rfl
  |false=>rw[cond_false,cond_false]
theorem aoW {S:List Step}(hS:∀s∈S,s.cond.wf)(h0:¬Wn S 0>0)(hn:0<S.length)(l:List Int){m:Nat}(hm:m<=l.length):E9 (l.take m) S=(E9 l S).takeWhile fun x=>decide (x<(m:Int)):=by
 have q1:=pc (l.take m) S hS;have q2:=runT_eq l S hS m 0 (0,0,0);have q3:=cr (l.take m) S h0 hn;rw[<-q3,<-q1];unfold vn;rw[amr,Nat.min_eq_left hm,aoy S m 0 _ 0 0 0 (by omega)];have e:(ZJ (S.map Step.cond)).map VW=(ZJ (S.map Step.cond)).map fun x=>aa7 l x 0:=rfl
 rw[e,q2,amQ h0 _ _ _ _ _ 0 hn fun h=>absurd h h0];unfold E9;rw[ao7 m l.length 0 _ hm,ald]
end Go.Am
