/- A part of the proof of a statement of this seat: the machine on which the program is read, and what it computes; for every input. -/
import Derived.Test.YtikiipfbkfgmbaaGreatDoorZ32
import Derived.Test.YtikiipfbkfgmbaaGreatDoorZ33
import Derived.Test.YtikiipfbkfgmbaaGreatDoorZ31
import Derived.Test.YtikiipfbkfgmbaaGreatDoorZ16
import Derived.Test.YtikiipfbkfgmbaaGreatDoorZ07
set_option linter.all false
namespace Go.Am
open Go
variable [Z4]
set_option maxRecDepth 100000
set_option maxHeartbeats 4000000
structure PN where
 Yy:List Int
 cur:aD
 last:Int
 deriving DecidableEq
structure RN where
 marks:List Int
 cur:aD
 last:Int
 deriving DecidableEq
def fW (T:Nat->Int)(n:Nat)(h:Nat->Bool)(a:Nat)(k g:Int):aD×Bool :=
 bif !h a then ((a,k,g),false) else bif decide (k+1<T a) then ((a,k+1,g),false) else bif ((a:Int)+1==n) then ((0,0,0),true) else ((a+1,0,0),false)
def oe (W T:Nat->Int)(n:Nat)(h:Nat->Bool)(a:Nat)(k g:Int):aD×Bool :=
 bif decide (W a>0) then (bif decide (g+1>W a) then fW T n h 0 0 0 else fW T n h a k (g+1)) else fW T n h a k g
theorem w9 {T:Nat->Int}{n:Nat}{h:Nat->Bool}{a:Nat}{k g:Int}(ha:a<n):fW T n h a k g=aC T n h a k g:=by
 unfold fW aC
 cases !h a with
 |true=>rfl
 |false =>
  cases decide (k+1<T a) with
  |true=>rfl
  |false =>
   simp only[cond_false];by_cases he:a+1=n
   ·have e1:((a:Int)+1==n)=true:=by rw[beq_iff_eq];omega
    have e2:decide ((a:Int)+1<n)=false:=decide_eq_false (by omega);rw[e1,e2];rfl
   ·have e1:((a:Int)+1==n)=false:=by rw[beq_eq_false_iff_ne];omega
    have e2:decide ((a:Int)+1<n)=true:=decide_eq_true (by omega);rw[e1,e2];rfl
theorem adS {W T:Nat->Int}{n:Nat}{h:Nat->Bool}{a:Nat}{k g:Int}(h0:¬W 0>0)(ha:a<n):oe W T n h a k g=eS W T n h a k g:=by
 unfold oe eS
 cases hw:decide (W a>0) with
 |false=>exact w9 ha
 |true =>
  have od:(a:Int)>0:=by
   have:=of_decide_eq_true hw;rcases Nat.eq_zero_or_pos a with e|e
   ·subst e;exact absurd this h0
   ·omega
  rw[decide_eq_true od,al9,w9 (by omega:0<n),w9 ha];rfl
def YG (S:List Step)(x:PN)(y:Nat):PN×Bool :=
 let r:=eS (Wn S) (Tm S) S.length (JZ (outs (S.map Step.cond) (Xu (y:Int) (Yv x.last y) (decide (x.last<0)) (ZJ (S.map Step.cond)) x.Yy))) x.cur.1 x.cur.2.1 x.cur.2.2
 (⟨WN (y:Int) (Yv x.last y) (decide (x.last<0)) (ZJ (S.map Step.cond)) x.Yy,r.1,y⟩,r.2)
def Y_ (S:List Step)(x:RN)(y:Nat):RN×Bool :=
 let r:=oe (Wn S) (Tm S) S.length (JZ (U0 x.last y (S.map Step.cond) x.marks).1) x.cur.1 x.cur.2.1 x.cur.2.2
 (⟨(U0 x.last y (S.map Step.cond) x.marks).2.1,r.1,y⟩,r.2)
def EW (S:List Step)(x:RN):PN:=⟨Jp (S.map Step.cond) x.marks,x.cur,x.last⟩
structure EY (S:List Step)(c:aD):Prop where
 a:c.1<S.length
 k:0<=c.2.1/\c.2.1<Tm S c.1
 g:0<=c.2.2/\c.2.2<=Wn S c.1
structure Sj (S:List Step)(m:Nat)(x:RN):Prop where
 last : -1<=x.last/\x.last<m
 marks:MF x.last (S.map Step.cond) x.marks
 cur:EY S x.cur
structure Y0 (S:List Step):Prop where
 ne:0<S.length
 wf:∀s∈S,s.cond.wf
 tm:∀s∈S,1<=s.times/\s.times<=64
 wi:∀s∈S,0<=s.within/\s.within<=255
 w0:Wn S 0=0
theorem Y0.tmA {S:List Step}(h:Y0 S){a:Nat}(ha:a<S.length):1<=Tm S a:=by rw[G3 ha];exact (h.tm _ (adm ha)).1
theorem Y0.wiA {S:List Step}(h:Y0 S){a:Nat}(ha:a<S.length):0<=Wn S a:=by rw[D0 ha];exact (h.wi _ (adm ha)).1
theorem Y0.rH {S:List Step}(h:Y0 S):∀c∈S.map Step.cond,c.wf:=fun c hc=>by
 obtain⟨s,hs,rfl⟩:=alN.1 hc;exact h.wf s hs
theorem G2 {S:List Step}(h:Y0 S){H:Nat->Bool}{a:Nat}{k g:Int}(hc:EY S (a,k,g)):EY S (aC (Tm S) S.length H a k g).1:=by
 unfold aC;have h0:EY S (0,0,0):=⟨h.ne,⟨Int.le_refl _,by have:=h.tmA h.ne;show (0:Int)<Tm S 0;omega⟩,Int.le_refl _,h.wiA h.ne⟩
 cases !H a with
 |true=>exact hc
 |false =>
  cases hk:decide (k+1<Tm S a) with
  |true=>exact⟨hc.a,⟨by have:=hc.k.1;show (0:Int)<=k+1;have:(0:Int)<=k:=this;omega,of_decide_eq_true hk⟩,hc.g⟩
  |false =>
   cases hn:decide ((a:Int)+1<S.length) with
   |true =>
    have hn:=of_decide_eq_true hn;have ha:a+1<S.length:=by omega
    exact⟨ha,⟨Int.le_refl _,by have:=h.tmA ha;show (0:Int)<Tm S (a+1);omega⟩,Int.le_refl _,h.wiA ha⟩
   |false=>exact h0
theorem mR {S:List Step}(h:Y0 S){H:Nat->Bool}{a:Nat}{k g:Int}(hc:EY S (a,k,g)):EY S (eS (Wn S) (Tm S) S.length H a k g).1:=by
 unfold eS;have h0:EY S (0,0,0):=⟨h.ne,⟨Int.le_refl _,by have:=h.tmA h.ne;show (0:Int)<Tm S 0;omega⟩,Int.le_refl _,h.wiA h.ne⟩
 cases hw:decide (Wn S a>0) with
 |false=>exact G2 h hc
 |true =>
  cases hq:decide ((a:Int)>0)&&decide (g+1>Wn S a) with
  |true=>exact G2 h h0
  |false =>
   have od:a≠0:=fun e=>by
    subst e;have:=of_decide_eq_true hw;rw[h.w0] at this;exact absurd this (by decide)
   rw[decide_eq_true (show (a:Int)>0 by omega),al9] at hq;have hq:=of_decide_eq_false hq;have hg:(0:Int)<=g:=hc.g.1;exact G2 h ⟨hc.a,hc.k,by show (0:Int)<=g+1;omega,by show g+1<=Wn S a;omega⟩
theorem So {S:List Step}(h:Y0 S){m:Nat}{x:RN}(hx:Sj S m x){y:Nat}(hy:y<m) :
  EW S (Y_ S x y).1=(YG S (EW S x) y).1/\(Y_ S x y).2=(YG S (EW S x) y).2/\Sj S m (Y_ S x y).1:=by
 have hb:=QH (last:=x.last) (sym:=(y:Int)) (S.map Step.cond) x.marks (fun c hc ms hm=>PS hx.last.1 c (h.rH c hc) ms hm) hx.marks;obtain⟨len,run⟩:=hb;obtain⟨bs,own,e1,e2,e3,e4,e5,e6,e7⟩:=run [];rw[alZ] at e1;have e7:=e7 [];rw[alZ] at e7;obtain⟨marks,⟨a,k,g⟩,last⟩:=x;have hW:¬Wn S 0>0:=by rw[h.w0];decide
 have hm:=adS (T:=Tm S) (n:=S.length) (h:=JZ bs) (k:=k) (g:=g) hW hx.cur.a;simp only at e1 e4 e7 hm;unfold Y_ YG EW;simp only[e1,e7,hm,e4];refine⟨trivial,trivial,⟨⟨by show (-1:Int)<=(y:Int);omega,by show (y:Int)<m;omega⟩,e2,mR h hx.cur⟩⟩
def Cp (S:List Step):RN:=⟨List.replicate (ZS (S.map Step.cond)) 0,(0,0,0),-1⟩
def AO (S:List Step):PN:=⟨(ZJ (S.map Step.cond)).map VW,(0,0,0),-1⟩
theorem Co:∀(l:List Z5),(∀c∈l,Km (-1) c (List.replicate (leaves c) 0)/\LO c (List.replicate (leaves c) 0)=(Ve c).map VW) ->
  MF (-1) l (List.replicate (ZS l) 0)/\Jp l (List.replicate (ZS l) 0)=(ZJ l).map VW
 |[],_=>⟨by rw[MF,ZS];rfl,by rw[Jp,ZJ];rfl⟩
 |c::l,h=>by
  obtain⟨h1,h2⟩:=h c (aba ..);obtain⟨k1,k2⟩:=Co l fun x hx=>h x (aab _ hx)
  have e:List.replicate (ZS (c::l)) (0:Int)=List.replicate (leaves c) 0++List.replicate (ZS l) 0:=by
   rw[ZS,List.replicate_append_replicate]
  refine⟨?_,?_⟩
  ·rw[MF,e];exact⟨_,_,rfl,by simp,h1,k1⟩
  ·have hd:(List.replicate (leaves c) (0:Int)++List.replicate (ZS l) 0).drop (leaves c)=List.replicate (ZS l) 0:=by
    have:=amy (l₁:=List.replicate (leaves c) (0:Int)) (l₂:=List.replicate (ZS l) 0)
    rwa [List.length_replicate] at this
   rw[Jp,e,LN c _ _ h1,hd,h2,k2,ZJ,alY]
theorem eR:∀c:Z5,c.wf->Km (-1) c (List.replicate (leaves c) 0)/\LO c (List.replicate (leaves c) 0)=(Ve c).map VW:=by
 intro c
 induction c using Z5.ind with
 |h k a b mi ma p nl kids ih =>
  intro S3;have Xz:=S3.A9;have ME:=S3;rw[Z5.wf] at ME;have QJ:∀x∈kids,x.wf:=ME.2.2.2.2.2.2.2.2.2.2.2.2;have e:List.replicate (leaves (.mk k a b mi ma p nl kids)) (0:Int)=0::List.replicate (ZS kids) 0:=by rw[leaves];rfl
  cases hk:XD k with
  |true =>
   obtain⟨k1,k2⟩:=Co kids fun x hx=>ih x hx (QJ x hx)
   rw[e,Km,LO,Ve,hk,if_pos rfl];exact⟨⟨_,rfl,k1⟩,k2⟩
  |false =>
   have Cn:kids=[]:=by
    have:=Rf S3;rw[hk] at this;exact ME.2.2.2.2.2.2.2.2.1 this.symm
   have e2:List.replicate (ZS kids) (0:Int)=[]:=by rw[Cn,ZS];rfl
   rw[e,e2,Km,LO,Ve,hk,if_neg (by decide)];refine⟨⟨0,rfl,rn _ _ Xz.mi.1 Xz.ma.1⟩,?_⟩;have:=rm (.mk k a b mi ma p nl kids);simp only[cond_false,List.headD_cons,alT,List.map_nil];rw[<-this];rfl
theorem Sn {S:List Step}(h:Y0 S){m:Nat}:EW S (Cp S)=AO S/\Sj S m (Cp S):=by
 obtain⟨k1,k2⟩:=Co (S.map Step.cond) fun c hc=>eR c (h.rH c hc)
 refine⟨?_,⟨⟨Int.le_refl _,?_⟩,k1,⟨h.ne,⟨Int.le_refl _,?_⟩,Int.le_refl _,h.wiA h.ne⟩⟩⟩
 ·unfold EW Cp AO;simp only[k2]
 ·show (-1:Int)<m;omega
 ·have:=h.tmA h.ne;show (0:Int)<Tm S 0;omega
end Go.Am
namespace Go.Am
open Go
variable [Z4]
set_option maxRecDepth 100000
set_option maxHeartbeats 8000000
def T4 (x:RN):AV:=.agg [.int .i64 x.last,.fz (ints x.marks),.int .i64 x.cur.1,.int .i64 x.cur.2.1,.int .i64 x.cur.2.2]
end Go.Am
namespace Go.Am
open Go
variable [Z4]
set_option maxRecDepth 100000
set_option maxHeartbeats 4000000
def Wq (c:Z5):Nat:=(WQ (ZF c.kind) c).toNat
def dgM (d:Kd)(m:Int):Nat:=match d with
 |.Vj|.gap=>(m+1).toNat
 |_=>m.toNat
mutual
def xB:Z5->List Nat
 |.mk k a b mi ma p nl kids=>bif XD k then 1::IC kids else [Wq (.mk k a b mi ma p nl kids)]
def IC:List Z5->List Nat
 |[]=>[]
 |c::l=>xB c++IC l
end
mutual
def Nd:Z5->List Int->List Nat
 |.mk k a b mi ma p nl kids,ms=>bif XD k then 0::PU kids ms.tail else [dgM (ZF k) (ms.headD 0)]
def PU:List Z5->List Int->List Nat
 |[],_=>[]
 |c::l,ms=>Nd c ms++PU l (ms.drop (leaves c))
end
theorem tX {c:Z5}(hc:c.wf):(Wq c:Int)=match ZF c.kind with
  |.Vj|.gap=>c.ma+3
  |.idle|.setup=>c.mi+2
  |.Uf=>4
  |_=>1:=by
 have h:=hc.A9;have h1:=h.mi;have h2:=h.ma;unfold Wq WQ
 cases ZF c.kind <;> simp only
 all_goals try rw[wrap_i64 (by omega) (by omega)]
 all_goals omega
theorem nS {c:Z5}(hc:c.wf){m last:Int}(h:xA (ZF c.kind) c m last):dgM (ZF c.kind) m<Wq c/\0<=tW (ZF c.kind) c m/\(tW (ZF c.kind) c m).toNat<Wq c:=by
 have hv:=tX hc;have hs:=hc.A9;have h1:=hs.mi;have h2:=hs.ma;generalize Wq c=z at *
 cases hd:ZF c.kind <;> rw[hd] at h hv <;> simp only[xA,dgM,tW] at h hv ⊢
 case Vj =>
  obtain⟨q1,q2,_⟩:=h;by_cases e:m = -1
  ·subst e;refine⟨by omega,?_,?_⟩ <;> simp <;> omega
  ·have e':(m == -1)=false:=by simpa using e
   rw[e',cond_false];omega
 case gap =>
  obtain⟨q1,q2,_⟩:=h;by_cases e:m = -1
  ·subst e;refine⟨by omega,?_,?_⟩ <;> simp <;> omega
  ·have e':(m == -1)=false:=by simpa using e
   rw[e',cond_false];omega
 case setup =>
  by_cases e:m=0
  ·subst e;refine⟨by omega,?_,?_⟩ <;> simp <;> omega
  ·have e':(m==0)=false:=by simpa using e
   rw[e',cond_false];omega
 case Uf =>
  obtain⟨q1,q2,_⟩:=h;have:m=0\/m=1\/m=2:=by omega
  rcases this with rfl|rfl|rfl <;> simp <;> omega
 all_goals omega
theorem fy {d:Kd}{c:Z5}{m m' last Pm:Int}(h:xA d c m last)(h':xA d c m' Pm)(e:dgM d m=dgM d m'):m=m':=by
 cases d <;> simp only[xA,dgM] at h h' e <;> omega
structure ads (last:Int)(c:Z5)(ms:List Int):Prop where
 Zd:US (xB c) (Nd c ms)
 app:∀v,Nd c (ms++v)=Nd c ms
 Yy:US ((Ve c).map Wq) ((LO c ms).map Int.toNat)
 pos:∀x∈LO c ms,0<=x
structure adt (last:Int)(l:List Z5)(ms:List Int):Prop where
 Zd:US (IC l) (PU l ms)
 app:∀v,PU l (ms++v)=PU l ms
 Yy:US ((ZJ l).map Wq) ((Jp l ms).map Int.toNat)
 pos:∀x∈Jp l ms,0<=x
theorem NT {last:Int}:∀(l:List Z5) (ms:List Int),(∀c∈l,∀ms,Km last c ms->ads last c ms)->MF last l ms->adt last l ms
 |[],ms,_,h=>⟨by rw[IC,PU];trivial,fun v=>by rw[PU,PU],by rw[ZJ,Jp];trivial,fun x hx=>by rw[Jp] at hx;simp at hx⟩
 |c::l,ms,hc,h=>by
  rw[MF] at h;obtain⟨u,v,rfl,hu,h1,h2⟩:=h;obtain⟨a1,a2,a3,a4⟩:=hc c (aba ..) u h1;obtain⟨b1,b2,b3,b4⟩:=NT l v (fun x hx=>hc x (aab _ hx)) h2;refine⟨?_,fun w=>?_,?_,fun x hx=>?_⟩
  ·rw[IC,PU,a2,<-hu,amy];exact Hm _ _ _ _ a1 b1
  ·rw[PU,PU,alS,a2,a2,<-hu,amy,amy,b2]
  ·rw[ZJ,Jp,LN c u v h1,<-hu,amy,alY,alY];exact Hm _ _ _ _ a3 b3
  ·rw[Jp,LN c u v h1,<-hu,amy] at hx;rcases amb.1 hx with hx|hx
   ·exact a4 x hx
   ·exact b4 x hx
theorem NS {last:Int}:∀c:Z5,c.wf->∀ms,Km last c ms->ads last c ms:=by
 intro c
 induction c using Z5.ind with
 |h k a b mi ma p nl kids ih =>
  intro S3 ms h;have ME:=S3;rw[Z5.wf] at ME;have QJ:∀x∈kids,x.wf:=ME.2.2.2.2.2.2.2.2.2.2.2.2;rw[Km] at h
  cases hk:XD k with
  |true =>
   rw[hk,if_pos rfl] at h;obtain⟨r,rfl,hr⟩:=h;obtain⟨a1,a2,a3,a4⟩:=NT kids r (fun x hx ms hm=>ih x hx (QJ x hx) ms hm) hr;refine⟨?_,fun v=>?_,?_,fun x hx=>?_⟩
   ·rw[xB,Nd,hk];exact⟨Nat.one_pos,a1⟩
   ·rw[Nd,Nd,hk];simp only[cond_true,alU,List.tail_cons,a2]
   ·rw[Ve,LO,hk];exact a3
   ·rw[LO,hk] at hx;exact a4 x hx
  |false =>
   rw[hk,if_neg (by decide)] at h;obtain⟨m,rfl,hm⟩:=h;obtain⟨d1,d2,d3⟩:=nS S3 hm;refine⟨?_,fun v=>?_,?_,fun x hx=>?_⟩
   ·rw[xB,Nd,hk];exact⟨d1,trivial⟩
   ·rw[Nd,Nd,hk];rfl
   ·rw[Ve,LO,hk];exact⟨d3,trivial⟩
   ·rw[LO,hk] at hx;rw[ake.1 hx];exact d2
theorem Hl {last Pm:Int}:∀(l:List Z5) (ms ns:List Int),(∀c∈l,∀ms ns,Km last c ms->Km Pm c ns->Nd c ms=Nd c ns->ms=ns)->(∀c∈l,c.wf)->MF last l ms->MF Pm l ns->PU l ms=PU l ns->ms=ns
 |[],ms,ns,_,_,h,h',_=>by rw[MF] at h h';rw[h,h']
 |c::l,ms,ns,hc,hw,h,h',e=>by
  rw[MF] at h h';obtain⟨u,v,rfl,hu,h1,h2⟩:=h;obtain⟨u',v',rfl,A8,h1',h2'⟩:=h';have d1:=NS c (hw c (aba ..)) u h1;have d2:=NS c (hw c (aba ..)) u' h1';have hl:∀(bs ds es:List Nat),US bs ds->US bs es->ds.length=es.length:=by
   intro bs
   induction bs with
   |nil=>intro ds es h h';cases ds <;> cases es <;> simp_all [US]
   |cons b bs ih=>intro ds es h h';cases ds <;> cases es <;> simp_all [US];exact ih _ _ h.2 h'.2
  rw[PU,PU,d1.app,d2.app] at e;have hlen:=hl _ _ _ d1.Zd d2.Zd;obtain⟨e1,e2⟩:=List.append_inj e hlen;have x1:(u++v).drop (leaves c)=v:=by rw[<-hu,amy]
  have x2:(u'++v').drop (leaves c)=v':=by rw[<-A8,amy]
  rw[x1,x2] at e2;rw[hc c (aba ..) u u' h1 h1' e1,Hl l v v' (fun x hx=>hc x (aab _ hx)) (fun x hx=>hw x (aab _ hx)) h2 h2' e2]
theorem nR {last Pm:Int}:∀c:Z5,c.wf->∀ms ns,Km last c ms->Km Pm c ns->Nd c ms=Nd c ns->ms=ns:=by
 intro c
 induction c using Z5.ind with
 |h k a b mi ma p nl kids ih =>
  intro S3 ms ns h h' e;have ME:=S3;rw[Z5.wf] at ME;have QJ:∀x∈kids,x.wf:=ME.2.2.2.2.2.2.2.2.2.2.2.2;rw[Km] at h h';rw[Nd,Nd] at e
  cases hk:XD k with
  |true =>
   rw[hk,if_pos rfl] at h h';rw[hk,cond_true,cond_true] at e;obtain⟨r,rfl,hr⟩:=h;obtain⟨r',rfl,Ur⟩:=h';simp only[List.tail_cons,List.cons.injEq,true_and] at e;rw[Hl kids r r' (fun x hx ms ns=>ih x hx (QJ x hx) ms ns) QJ hr Ur e]
  |false =>
   rw[hk,if_neg (by decide)] at h h';rw[hk,cond_false,cond_false] at e;obtain⟨m,rfl,hm⟩:=h;obtain⟨m',rfl,hm'⟩:=h';simp only[List.headD_cons,List.cons.injEq,and_true] at e;rw[fy hm hm' e]
theorem Kj:∀(l:List Z5),(∀c∈l,Ym (xB c)=Ym ((Ve c).map Wq))->Ym (IC l)=Ym ((ZJ l).map Wq)
 |[],_=>by rw[IC,ZJ];rfl
 |c::l,h=>by
  rw[IC,ZJ,alY,QI,QI,h c (aba ..),Kj l fun x hx=>h x (aab _ hx)]
theorem rJ:∀c:Z5,Ym (xB c)=Ym ((Ve c).map Wq):=by
 intro c
 induction c using Z5.ind with
 |h k a b mi ma p nl kids ih =>
  rw[xB,Ve]
  cases XD k with
  |true=>rw[cond_true,cond_true,Ym,amk];exact Kj kids ih
  |false=>rfl
def Xl (S:List Step)(m:Nat):Nat:=(m+1)*(Vd S*Ym ((ZJ (S.map Step.cond)).map Wq))
def A7 (S:List Step)(m:Nat)(x:RN):Nat:=IB ((m+1)::Vd S::IC (S.map Step.cond)) ((x.last+1).toNat::Rj S x.cur.1 x.cur.2.1.toNat x.cur.2.2.toNat::PU (S.map Step.cond) x.marks)
def rI (S:List Step)(m:Nat)(x:PN):Nat:=IB ((m+1)::Vd S::(ZJ (S.map Step.cond)).map Wq) ((x.last+1).toNat::Rj S x.cur.1 x.cur.2.1.toNat x.cur.2.2.toNat::x.Yy.map Int.toNat)
theorem Rh {S:List Step}:∀{a:Nat} {k g:Int},EY S (a,k,g)->IA S a k.toNat g.toNat:=by
 have key:∀(S:List Step) (a k g:Nat),a<S.length->(k:Int)<Tm S a->(g:Int)<=Wn S a->IA S a k g:=by
  intro S
  induction S with
  |nil=>intro a k g h;simp at h
  |cons s S ih =>
   intro a k g h1 h2 h3
   cases a with
   |zero =>
    have e1:Tm (s::S) 0=s.times:=rfl;have e2:Wn (s::S) 0=s.within:=rfl;rw[e1] at h2;rw[e2] at h3;rw[IA];omega
   |succ a =>
    have e1:Tm (s::S) (a+1)=Tm S a:=rfl;have e2:Wn (s::S) (a+1)=Wn S a:=rfl;rw[e1] at h2;rw[e2] at h3;rw[IA];exact ih a k g (by simpa using h1) h2 h3
 intro a k g h;have h1:=h.k;have h2:=h.g;simp only at h1 h2;exact key S a _ _ h.a (by omega) (by omega)
theorem LM {S:List Step}(h:Y0 S){m:Nat}{x:RN}(hx:Sj S m x):A7 S m x<Xl S m:=by
 obtain⟨marks,⟨a,k,g⟩,last⟩:=x;have d:=NT (last:=last) (S.map Step.cond) marks (fun c hc ms hm=>NS c (h.rH c hc) ms hm) hx.marks;have hl:=hx.last;simp only at hl;have:=CN ((m+1)::Vd S::IC (S.map Step.cond)) ((last+1).toNat::Rj S a k.toNat g.toNat::PU (S.map Step.cond) marks) ⟨by omega,PT S a _ _ (Rh hx.cur),d.Zd⟩;unfold Xl;rw[Ym,Ym,Kj _ fun c _=>rJ c] at this;exact this
theorem OX {S:List Step}(h:Y0 S){m:Nat}{x y:RN}(hx:Sj S m x)(hy:Sj S m y)(e:A7 S m x=A7 S m y):x=y:=by
 obtain⟨marks,⟨a,k,g⟩,last⟩:=x;obtain⟨xy,⟨a',k',g'⟩,Pm⟩:=y;have d:=NT (last:=last) (S.map Step.cond) marks (fun c hc ms hm=>NS c (h.rH c hc) ms hm) hx.marks;have d':=NT (last:=Pm) (S.map Step.cond) xy (fun c hc ms hm=>NS c (h.rH c hc) ms hm) hy.marks;have hl:=hx.last;have CM:=hy.last;simp only at hl CM;have he:=Hk _ _ _ (show US ((m+1)::Vd S::IC (S.map Step.cond)) ((last+1).toNat::Rj S a k.toNat g.toNat::PU (S.map Step.cond) marks) from⟨by omega,PT S a _ _ (Rh hx.cur),d.Zd⟩)
  (show US ((m+1)::Vd S::IC (S.map Step.cond)) ((Pm+1).toNat::Rj S a' k'.toNat g'.toNat::PU (S.map Step.cond) xy) from⟨by omega,PT S a' _ _ (Rh hy.cur),d'.Zd⟩) e
 simp only[List.cons.injEq] at he;obtain⟨e1,e2,e3⟩:=he;obtain⟨f1,f2,f3⟩:=Hj S _ _ _ _ _ _ (Rh hx.cur) (Rh hy.cur) e2;have k1:=hx.cur.k.1;have k2:=hy.cur.k.1;have g1:=hx.cur.g.1;have g2:=hy.cur.g.1;simp only at k1 k2 g1 g2;have e4:=Hl (S.map Step.cond) marks xy (fun c hc ms ns=>nR c (h.rH c hc) ms ns) h.rH hx.marks hy.marks e3;subst f1;subst e4;have:last=Pm:=by omega
 subst this;have:k=k':=by omega
 subst this;have:g=g':=by omega
 subst this;rfl
def QV (S:List Step)(m:Nat)(x:PN):Prop:=∃r,Sj S m r/\EW S r=x
theorem QV.Zd {S:List Step}(h:Y0 S){m:Nat}{x:PN}(hx:QV S m x):(US ((m+1)::Vd S::(ZJ (S.map Step.cond)).map Wq) ((x.last+1).toNat::Rj S x.cur.1 x.cur.2.1.toNat x.cur.2.2.toNat::x.Yy.map Int.toNat))/\(-1<=x.last/\x.last<m)/\EY S x.cur/\(∀s∈x.Yy,0<=s)/\x.Yy.length=(ZJ (S.map Step.cond)).length:=by
 obtain⟨⟨marks,⟨a,k,g⟩,last⟩,hr,rfl⟩:=hx;have d:=NT (last:=last) (S.map Step.cond) marks (fun c hc ms hm=>NS c (h.rH c hc) ms hm) hr.marks;have w:=QH (last:=last) (sym:=0) (S.map Step.cond) marks (fun c hc ms hm=>PS hr.last.1 c (h.rH c hc) ms hm) hr.marks;have hl:=hr.last;simp only at hl;exact⟨⟨by show (last+1).toNat<m+1;omega,PT S a _ _ (Rh hr.cur),d.Yy⟩,hl,hr.cur,d.pos,w.len⟩
theorem CL {S:List Step}(h:Y0 S){m:Nat}{x:PN}(hx:QV S m x):rI S m x<Xl S m:=by
 have:=CN _ _ (hx.Zd h).1;rw[Ym,Ym] at this;exact this
theorem toNat_inj:∀{a b:List Int},(∀x∈a,0<=x)->(∀x∈b,0<=x)->a.map Int.toNat=b.map Int.toNat->a=b
 |[],[],_,_,_=>rfl
 |x::a,y::b,h,h',e=>by
  simp only[alT,List.cons.injEq] at e;have h1:=h x (aba ..);have h2:=h' y (aba ..);rw[toNat_inj (fun z hz=>h z (aab _ hz)) (fun z hz=>h' z (aab _ hz)) e.2,show x=y by omega]
 |[],y::b,_,_,e=>by simp at e
 |x::a,[],_,_,e=>by simp at e
theorem Hi {S:List Step}(h:Y0 S){m:Nat}{x y:PN}(hx:QV S m x)(hy:QV S m y)(e:rI S m x=rI S m y):x=y:=by
 obtain⟨u1,l1,c1,p1,_⟩:=hx.Zd h;obtain⟨u2,l2,c2,p2,_⟩:=hy.Zd h;have he:=Hk _ _ _ u1 u2 e;obtain⟨Yy,⟨a,k,g⟩,last⟩:=x;obtain⟨alf,⟨a',k',g'⟩,Pm⟩:=y;simp only[List.cons.injEq] at he l1 l2 p1 p2;obtain⟨e1,e2,e3⟩:=he;obtain⟨f1,f2,f3⟩:=Hj S _ _ _ _ _ _ (Rh c1) (Rh c2) e2;have k1:=c1.k.1;have k2:=c2.k.1;have g1:=c1.g.1;have g2:=c2.g.1;simp only at k1 k2 g1 g2;have e4:=toNat_inj p1 p2 e3;subst f1;subst e4;have:last=Pm:=by omega
 subst this;have:k=k':=by omega
 subst this;have:g=g':=by omega
 subst this;rfl
end Go.Am
namespace Go.Am
open Go
variable [Z4]
set_option maxRecDepth 100000
set_option maxHeartbeats 8000000
theorem KD {f:FuncId}{rs:List ResultVar}{r:RC}(h:Ze f=some (rs,r)){args:List AV}{s:St}{x:AV×St}(hg:go U (Sx U rs) [] r (YX 0 args .nil) s=some x):Oj U (Yf U) f args s=some x:=by
 obtain⟨fn,c,f1,f2,f3,f4⟩:=Nt h;exact KV U f1 f2 f3 f4 hg
def nY (s:St)(bM:Nat)(l:List Int)(v:AV):Prop:=v=.fz (ints l)\/(v=.sl bM 0 l.length (some l.length) 1/\s.get bM=some (.cells (ints l) 3 false 0 0))
theorem nY.keep {s s':St}{bM:Nat}{l:List Int}{v:AV}(h:nY s bM l v)(hg:s'.get bM=s.get bM):nY s' bM l v:=by
 rcases h with h|⟨h1,h2⟩
 ·exact .inl h
 ·exact .inr ⟨h1,by rw[hg];exact h2⟩
def Vv (x:RN)(v:AV):List AV:=[.int .i64 x.last,v,.int .i64 x.cur.1,.int .i64 x.cur.2.1,.int .i64 x.cur.2.2]
theorem nY.Yn {s:St}{bM:Nat}{x:RN}{v:AV}(h:nY s bM x.marks v)(d:Nat):Go.Am.Yn U s (d+4) (.agg (Vv x v))=some (T4 x):=by
 have e:Go.Am.Yn U s (d+3) v=some (.fz (ints x.marks)):=by
  rcases h with rfl|⟨rfl,hg⟩
  ·rw[Bz]
  ·exact Ux (d:=d+1) (cap:=some x.marks.length) hg
 have hm:Y' (Go.Am.Yn U s (d+3)) (Vv x v)=some [.int .i64 x.last,.fz (ints x.marks),.int .i64 x.cur.1,.int .i64 x.cur.2.1,.int .i64 x.cur.2.2]:=by
  unfold Vv;simp only[Y',e];rfl
 rw[Vi,hm];rfl
end Go.Am
namespace Go.Am
open Go
section
variable {S:Type} [DecidableEq S]
def XX:List S->S->Nat
 |[],_=>0
 |x::l,c=>if x=c then 0 else XX l c+1
theorem Q8:∀(l:List S) (c:S),XX l c<l.length<->c∈l
 |[],c=>by simp[XX]
 |x::l,c=>by
  have:=Q8 l c;rw[XX,akd,alL];by_cases h:x=c
  ·rw[if_pos h];exact⟨fun _=>.inl h.symm,fun _=>by omega⟩
  ·rw[if_neg h]
   constructor
   ·intro h2;exact .inr (this.1 (by omega))
   ·rintro (h2|h2)
    ·exact absurd h2.symm h
    ·have:=this.2 h2;omega
theorem GN (c:S):∀(L R:List S),c∈L->XX (L++R) c=XX L c
 |[],R,h=>by simp at h
 |x::L,R,h=>by
  rw[alU,XX,XX];by_cases hx:x=c
  ·rw[if_pos hx,if_pos hx]
  ·rw[if_neg hx,if_neg hx,GN c L R (by
    rcases alL.1 h with h|h
    ·exact absurd h.symm hx
    ·exact h)]
theorem GL (c:S):∀(L:List S),c∉L->XX (L++[c]) c=L.length
 |[],_=>by simp[XX]
 |x::L,h=>by
  rw[alU,XX,if_neg (fun e=>h (by rw[e];exact aba ..)),GL c L fun h2=>h (aab _ h2)];rfl
theorem Lk (c:S):∀(L:List S),c∉L->XX L c=L.length
 |[],_=>rfl
 |x::L,h=>by
  rw[XX,if_neg (fun e=>h (by rw[e];exact aba ..)),Lk c L fun h2=>h (aab _ h2)];rfl
theorem Bv:∀{l:List S} {c:S},c∈l->l[XX l c]? = some c
 |[],c,h=>by simp at h
 |x::l,c,h=>by
  rw[XX];by_cases hx:x=c
  ·rw[if_pos hx,hx];rfl
  ·rw[if_neg hx,aml];exact Bv (by
    rcases alL.1 h with h|h
    ·exact absurd h.symm hx
    ·exact h)
def T5 (L:List S)(z:S):List S:=if z∈L then L else L++[z]
theorem Ll (L:List S)(z:S):∃R,T5 L z=L++R:=by
 unfold T5;by_cases h:z∈L
 ·exact⟨[],by rw[if_pos h,alZ]⟩
 ·exact⟨[z],by rw[if_neg h]⟩
theorem GM (L:List S)(z:S):z∈T5 L z:=by
 unfold T5;by_cases h:z∈L
 ·rw[if_pos h];exact h
 ·rw[if_neg h];exact List.mem_append_right _ (ake.2 rfl)
theorem rX {L:List S}{z c:S}(h:c∈T5 L z):c∈L\/c=z:=by
 unfold T5 at h;by_cases hz:z∈L
 ·rw[if_pos hz] at h;exact .inl h
 ·rw[if_neg hz] at h;rcases amb.1 h with h|h
  ·exact .inl h
  ·exact .inr (ake.1 h)
theorem aW {L:List S}(h:L.Nodup)(z:S):(T5 L z).Nodup:=by
 unfold T5;by_cases hz:z∈L
 ·rw[if_pos hz];exact h
 ·rw[if_neg hz];rw[List.nodup_append];refine⟨h,by simp,fun a ha b hb=>?_⟩;rw[ake.1 hb];rintro rfl;exact hz ha
def Vh (g:Nat->S):Nat->Nat->List S->List S
 |0,_,L=>L
 |r+1,y,L=>Vh g r (y+1) (T5 L (g y))
def Rd (nx:S->Nat->S)(m:Nat):Nat->Nat->List S->List S
 |0,_,L=>L
 |f+1,i,L=>match L[i]? with
  |none=>L
  |some x=>Rd nx m f (i+1) (Vh (nx x) m 0 L)
theorem Ff {Inv:S->Prop}{g:Nat->S}:∀(r y:Nat) (L:List S),(∀z,y<=z->z<y+r->Inv (g z))->L.Nodup->(∀x∈L,Inv x) ->
  (∃R,Vh g r y L=L++R)/\(Vh g r y L).Nodup/\(∀x∈Vh g r y L,Inv x)/\∀z,y<=z->z<y+r->g z∈Vh g r y L
 |0,y,L,_,h1,h2=>⟨⟨[],(alZ L).symm⟩,h1,h2,fun z a b=>by omega⟩
 |r+1,y,L,hg,h1,h2=>by
  obtain⟨R0,e0⟩:=Ll L (g y);obtain⟨⟨R,e⟩,k1,k2,k3⟩:=Ff (Inv:=Inv) (g:=g) r (y+1) (T5 L (g y)) (fun z a b=>hg z (by omega) (by omega)) (aW h1 _) fun x hx=>by
   rcases rX hx with h|h
   ·exact h2 x h
   ·rw[h];exact hg y (agB _) (by omega)
  refine⟨⟨R0++R,by rw[Vh,e,e0,alS]⟩,k1,k2,fun z a b=>?_⟩;by_cases hz:z=y
  ·subst hz;rw[Vh,e];exact List.mem_append_left _ (GM L (g z))
  ·exact k3 z (by omega) (by omega)
structure Bj (nx:S->Nat->S)(m:Nat)(Inv:S->Prop)(i:Nat)(L:List S):Prop where
 nd:L.Nodup
 inv:∀x∈L,Inv x
 le:i<=L.length
 cl:∀j,j<i->∀(h:j<L.length) y,y<m->nx L[j] y∈L
theorem Bj.len {nx:S->Nat->S}{m n:Nat}{Inv:S->Prop}{κ:S->Nat}(hκ:∀x,Inv x->κ x<n)(hinj:∀x y,Inv x->Inv y->κ x=κ y->x=y){i:Nat}{L:List S}(h:Bj nx m Inv i L):L.length<=n:=by
 have EG:((L.map κ).map id).Nodup:=by
  rw[List.map_id,List.nodup_iff_pairwise_ne,List.pairwise_map];exact (List.nodup_iff_pairwise_ne.1 h.nd).imp_of_mem fun ha hb (ZC:_≠_) e=>ZC (hinj _ _ (h.inv _ ha) (h.inv _ hb) e)
 have:=Vn EG (n:=n) fun a ha=>by
  obtain⟨x,hx,rfl⟩:=alN.1 ha;exact hκ x (h.inv x hx)
 rwa [agC] at this
theorem Bj.row {nx:S->Nat->S}{m:Nat}{Inv:S->Prop}(hI:∀x,Inv x->∀y,y<m->Inv (nx x y)){i:Nat}{L:List S}(h:Bj nx m Inv i L)(hi:i<L.length):Bj nx m Inv (i+1) (Vh (nx L[i]) m 0 L)/\∃R,Vh (nx L[i]) m 0 L=L++R:=by
 obtain⟨⟨R,e⟩,k1,k2,k3⟩:=Ff (Inv:=Inv) (g:=nx L[i]) m 0 L (fun z _ hz=>hI _ (h.inv _ (adm hi)) z (by omega)) h.nd h.inv;refine⟨⟨k1,k2,by rw[e,agy];omega,fun j hj hjl y hy=>?_⟩,R,e⟩;have hg:(Vh (nx L[i]) m 0 L)[j]=L[j]'(by omega):=by
  have:(L++R)[j]'(by rw[agy];omega)=L[j]'(by omega):=al2 (by omega);rw[<-this]
  congr 1
 rw[hg];by_cases hji:j=i
 ·subst hji;exact k3 y (aic _) (by omega)
 ·rw[e];exact List.mem_append_left _ (h.cl j (by omega) (by omega) y hy)
theorem Sd {nx:S->Nat->S}{m n:Nat}{Inv:S->Prop}{κ:S->Nat}(hI:∀x,Inv x->∀y,y<m->Inv (nx x y))(hκ:∀x,Inv x->κ x<n)(hinj:∀x y,Inv x->Inv y->κ x=κ y->x=y) :
  ∀(f i:Nat) (L:List S),Bj nx m Inv i L->n+1<=f+i->Bj nx m Inv (Rd nx m f i L).length (Rd nx m f i L)/\(Rd nx m f i L).length<=n/\∃R,Rd nx m f i L=L++R:=by
 have hlen:∀i L,Bj nx m Inv i L->L.length<=n:=fun i L h=>h.len hκ hinj
 intro f
 induction f with
 |zero =>
  intro i L h hf;have:=hlen i L h;have:=h.le;omega
 |succ f ih =>
  intro i L h hf;rw[Rd];by_cases hi:i<L.length
  ·rw[aaa hi];simp only;obtain⟨h',R,e⟩:=h.row hI hi;obtain⟨k1,k2,R2,e2⟩:=ih (i+1) _ h' (by omega);exact⟨k1,k2,R++R2,by rw[e2,e,alS]⟩
  ·rw[amm (by omega)];have:i=L.length:=by have:=h.le;omega
   subst this;exact⟨h,hlen _ _ h,[],(alZ L).symm⟩
end
end Go.Am
