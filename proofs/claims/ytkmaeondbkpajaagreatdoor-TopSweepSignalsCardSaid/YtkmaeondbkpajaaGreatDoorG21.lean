/- A part of the proof of a statement of this seat: the machine on which the program is read, and what it computes; for every input. -/
import Derived.Test.YtkmaeondbkpajaaGreatDoorG19
import Derived.Test.YtkmaeondbkpajaaGreatDoorG20
set_option linter.all false
namespace Go.Am
open Go
variable [ZZ]
set_option maxRecDepth 100000
set_option maxHeartbeats 4000000
structure PN where
 Za:List Int
 cur:vE
 last:Int
 deriving DecidableEq
structure RN where
 marks:List Int
 cur:vE
 last:Int
 deriving DecidableEq
def rmQ (T:Nat->Int)(n:Nat)(h:Nat->Bool)(a:Nat)(k g:Int):vE×Bool :=
 bif !h a then ((a,k,g),false) else bif decide (k+1<T a) then ((a,k+1,g),false) else bif ((a:Int)+1==n) then ((0,0,0),true) else ((a+1,0,0),false)
def rmP (W T:Nat->Int)(n:Nat)(h:Nat->Bool)(a:Nat)(k g:Int):vE×Bool :=
 bif decide (W a>0) then (bif decide (g+1>W a) then rmQ T n h 0 0 0 else rmQ T n h a k (g+1)) else rmQ T n h a k g
theorem yJ {T:Nat->Int}{n:Nat}{h:Nat->Bool}{a:Nat}{k g:Int}(ha:a<n):rmQ T n h a k g=Ge T n h a k g:=by
 unfold rmQ Ge
 cases !h a with
 |true=>rfl
 |false =>
  cases decide (k+1<T a) with
  |true=>rfl
  |false =>
   simp only[cond_false];by_cases he:a+1=n
   ·have e1:((a:Int)+1==n)=true:=by rw[beq_iff_eq];omega
    have e2:decide ((a:Int)+1<n)=false:=decide_eq_false (by omega);rw[e1,e2];rfl
   ·have e1:((a:Int)+1==n)=false:=by rw[beq_eq_false_iff_ne];omega
    have e2:decide ((a:Int)+1<n)=true:=decide_eq_true (by omega);rw[e1,e2];rfl
theorem acD {W T:Nat->Int}{n:Nat}{h:Nat->Bool}{a:Nat}{k g:Int}(h0:¬W 0>0)(ha:a<n):rmP W T n h a k g=NL W T n h a k g:=by
 unfold rmP NL
 cases hw:decide (W a>0) with
 |false=>exact yJ ha
 |true =>
  have ha0:(a:Int)>0:=by
   have:=of_decide_eq_true hw;rcases Nat.eq_zero_or_pos a with e|e
   ·subst e;exact absurd this h0
   ·omega
  rw[decide_eq_true ha0,ajF,yJ (by omega:0<n),yJ ha];rfl
def YX (S:List Step)(x:PN)(y:Nat):PN×Bool :=
 let r:=NL (Wn S) (Tm S) S.length (Fz (outs (S.map Step.cond) (Yk (y:Int) (XO x.last y) (decide (x.last<0)) (ZQ (S.map Step.cond)) x.Za))) x.cur.1 x.cur.2.1 x.cur.2.2
 (⟨Ye (y:Int) (XO x.last y) (decide (x.last<0)) (ZQ (S.map Step.cond)) x.Za,r.1,y⟩,r.2)
def U7 (S:List Step)(x:RN)(y:Nat):RN×Bool :=
 let r:=rmP (Wn S) (Tm S) S.length (Fz (Od x.last y (S.map Step.cond) x.marks).1) x.cur.1 x.cur.2.1 x.cur.2.2
 (⟨(Od x.last y (S.map Step.cond) x.marks).2.1,r.1,y⟩,r.2)
def Gr (S:List Step)(x:RN):PN:=⟨KP (S.map Step.cond) x.marks,x.cur,x.last⟩
structure Gs (S:List Step)(c:vE):Prop where
 a:c.1<S.length
 k:0<=c.2.1/\c.2.1<Tm S c.1
 g:0<=c.2.2/\c.2.2<=Wn S c.1
structure Nd (S:List Step)(m:Nat)(x:RN):Prop where
 last : -1<=x.last/\x.last<m
 marks:FP x.last (S.map Step.cond) x.marks
 cur:Gs S x.cur
structure YN (S:List Step):Prop where
 ne:0<S.length
 wf:∀s∈S,s.cond.wf
 tm:∀s∈S,1<=s.times/\s.times<=64
 wi:∀s∈S,0<=s.within/\s.within<=255
 w0:Wn S 0=0
theorem YN.tmA {S:List Step}(h:YN S){a:Nat}(ha:a<S.length):1<=Tm S a:=by rw[BS ha];exact (h.tm _ (ajc ha)).1
theorem YN.wiA {S:List Step}(h:YN S){a:Nat}(ha:a<S.length):0<=Wn S a:=by rw[vD ha];exact (h.wi _ (ajc ha)).1
theorem YN.qh {S:List Step}(h:YN S):∀c∈S.map Step.cond,c.wf:=fun c hc=>by
 obtain⟨s,hs,rfl⟩:=ajs.1 hc;exact h.wf s hs
theorem IL {S:List Step}(h:YN S){H:Nat->Bool}{a:Nat}{k g:Int}(hc:Gs S (a,k,g)):Gs S (Ge (Tm S) S.length H a k g).1:=by
 unfold Ge;have h0:Gs S (0,0,0):=⟨h.ne,⟨Int.le_refl _,by have:=h.tmA h.ne;show (0:Int)<Tm S 0;omega⟩,Int.le_refl _,h.wiA h.ne⟩
 cases !H a with
 |true=>exact hc
 |false =>
  cases hk:decide (k+1<Tm S a) with
  |true=>exact⟨hc.a,⟨by have:=hc.k.1;show (0:Int)<=k+1;have:(0:Int)<=k:=this;omega,of_decide_eq_true hk⟩,hc.g⟩
  |false =>
   cases hn:decide ((a:Int)+1<S.length) with
   |true =>
    have hn:=of_decide_eq_true hn;have ha:a+1<S.length:=by omega
    exact⟨ha,⟨Int.le_refl _,by have:=h.tmA ha;show (0:Int)<Tm S (a+1);omega⟩,Int.le_refl _,h.wiA ha⟩
   |false=>exact h0
theorem o8 {S:List Step}(h:YN S){H:Nat->Bool}{a:Nat}{k g:Int}(hc:Gs S (a,k,g)):Gs S (NL (Wn S) (Tm S) S.length H a k g).1:=by
 unfold NL;have h0:Gs S (0,0,0):=⟨h.ne,⟨Int.le_refl _,by have:=h.tmA h.ne;show (0:Int)<Tm S 0;omega⟩,Int.le_refl _,h.wiA h.ne⟩
 cases hw:decide (Wn S a>0) with
 |false=>exact IL h hc
 |true =>
  cases hq:decide ((a:Int)>0)&&decide (g+1>Wn S a) with
  |true=>exact IL h h0
  |false =>
   have ha0:a≠0:=fun e=>by
    subst e;have:=of_decide_eq_true hw;rw[h.w0] at this;exact absurd this (by decide)
   rw[decide_eq_true (show (a:Int)>0 by omega),ajF] at hq;have hq:=of_decide_eq_false hq;have hg:(0:Int)<=g:=hc.g.1;exact IL h ⟨hc.a,hc.k,by show (0:Int)<=g+1;omega,by show g+1<=Wn S a;omega⟩
theorem Rz {S:List Step}(h:YN S){m:Nat}{x:RN}(hx:Nd S m x){y:Nat}(hy:y<m) :
  Gr S (U7 S x y).1=(YX S (Gr S x) y).1/\(U7 S x y).2=(YX S (Gr S x) y).2/\Nd S m (U7 S x y).1:=by
 have hb:=Nc (last:=x.last) (sym:=(y:Int)) (S.map Step.cond) x.marks (fun c hc ms hm=>vX hx.last.1 c (h.qh c hc) ms hm) hx.marks;obtain⟨len,run⟩:=hb;obtain⟨bs,own,e1,e2,e3,e4,e5,e6,e7⟩:=run [];rw[ajG] at e1;have e7:=e7 [];rw[ajG] at e7;obtain⟨marks,⟨a,k,g⟩,last⟩:=x;have hW:¬Wn S 0>0:=by rw[h.w0];decide
 have hm:=acD (T:=Tm S) (n:=S.length) (h:=Fz bs) (k:=k) (g:=g) hW hx.cur.a;simp only at e1 e4 e7 hm;unfold U7 YX Gr;simp only[e1,e7,hm,e4];refine⟨trivial,trivial,⟨⟨by show (-1:Int)<=(y:Int);omega,by show (y:Int)<m;omega⟩,e2,o8 h hx.cur⟩⟩
def qa (S:List Step):RN:=⟨List.replicate (Zs (S.map Step.cond)) 0,(0,0,0),-1⟩
def DS (S:List Step):PN:=⟨(ZQ (S.map Step.cond)).map XI,(0,0,0),-1⟩
theorem DE:∀(l:List ZX),(∀c∈l,Gz (-1) c (List.replicate (leaves c) 0)/\Ng c (List.replicate (leaves c) 0)=(Wd c).map XI) ->
  FP (-1) l (List.replicate (Zs l) 0)/\KP l (List.replicate (Zs l) 0)=(ZQ l).map XI
 |[],_=>⟨by rw[FP,Zs];rfl,by rw[KP,ZQ];rfl⟩
 |c::l,h=>by
  obtain⟨h1,h2⟩:=h c (aba ..);obtain⟨k1,k2⟩:=DE l fun x hx=>h x (aab _ hx)
  have e:List.replicate (Zs (c::l)) (0:Int)=List.replicate (leaves c) 0++List.replicate (Zs l) 0:=by
   rw[Zs,List.replicate_append_replicate]
  refine⟨?_,?_⟩
  ·rw[FP,e];exact⟨_,_,rfl,by simp,h1,k1⟩
  ·have hd:(List.replicate (leaves c) (0:Int)++List.replicate (Zs l) 0).drop (leaves c)=List.replicate (Zs l) 0:=by
    have:=aj5 (l₁:=List.replicate (leaves c) (0:Int)) (l₂:=List.replicate (Zs l) 0)
    rwa [List.length_replicate] at this
   rw[KP,e,Nf c _ _ h1,hd,h2,k2,ZQ,ajA]
theorem iJ:∀c:ZX,c.wf->Gz (-1) c (List.replicate (leaves c) 0)/\Ng c (List.replicate (leaves c) 0)=(Wd c).map XI:=by
 intro c
 induction c using ZX.ind with
 |h k a b mi ma p nl kids ih =>
  intro QZ;have WY:=QZ.Cz;have Kb:=QZ;rw[ZX.wf] at Kb;have RT:∀x∈kids,x.wf:=Kb.2.2.2.2.2.2.2.2.2.2.2.2;have e:List.replicate (leaves (.mk k a b mi ma p nl kids)) (0:Int)=0::List.replicate (Zs kids) 0:=by rw[leaves];rfl
  cases hk:XJ k with
  |true =>
   obtain⟨k1,k2⟩:=DE kids fun x hx=>ih x hx (RT x hx)
   rw[e,Gz,Ng,Wd,hk,if_pos rfl];exact⟨⟨_,rfl,k1⟩,k2⟩
  |false =>
   have Ct:kids=[]:=by
    have:=QV QZ;rw[hk] at this;exact Kb.2.2.2.2.2.2.2.2.1 this.symm
   have e2:List.replicate (Zs kids) (0:Int)=[]:=by rw[Ct,Zs];rfl
   rw[e,e2,Gz,Ng,Wd,hk,if_neg (by decide)];refine⟨⟨0,rfl,s8 _ _ WY.mi.1 WY.ma.1⟩,?_⟩;have:=s7 (.mk k a b mi ma p nl kids);simp only[cond_false,List.headD_cons,aju,List.map_nil];rw[<-this];rfl
theorem Ry {S:List Step}(h:YN S){m:Nat}:Gr S (qa S)=DS S/\Nd S m (qa S):=by
 obtain⟨k1,k2⟩:=DE (S.map Step.cond) fun c hc=>iJ c (h.qh c hc)
 refine⟨?_,⟨⟨Int.le_refl _,?_⟩,k1,⟨h.ne,⟨Int.le_refl _,?_⟩,Int.le_refl _,h.wiA h.ne⟩⟩⟩
 ·unfold Gr qa DS;simp only[k2]
 ·show (-1:Int)<m;omega
 ·have:=h.tmA h.ne;show (0:Int)<Tm S 0;omega
end Go.Am
