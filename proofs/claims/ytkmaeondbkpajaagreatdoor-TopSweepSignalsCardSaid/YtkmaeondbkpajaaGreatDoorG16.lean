/- A part of the proof of a statement of this seat: the machine on which the program is read, and what it computes; for every input. -/
import Derived.Test.YtkmaeondbkpajaaGreatDoorG15
import Derived.Test.YtkmaeondbkpajaaGreatDoorG13
import Derived.Test.YtkmaeondbkpajaaGreatDoorG12
import Derived.Test.YtkmaeondbkpajaaGreatDoorG03
set_option linter.all false
namespace Go.Am
open Go
variable [ZZ]
set_option maxRecDepth 100000
set_option maxHeartbeats 4000000
theorem sM (s:St)(d:Nat)(c:ZX):Yc U s (d+3) (XD c)=some (XD c):=by
 unfold XD
 cases Zy c.kind <;> rfl
theorem Fg (s:St)(d:Nat)(l:List ZX):YT (Yc U s (d+3)) (l.map XD)=some (l.map XD):=Vl fun x hx=>by
 obtain⟨c,_,rfl⟩:=ajs.1 hx;exact sM s d c
theorem z93 {args:List AV}{s:St}(h:ZO args=false):XR U (Zw U 69 args) 69 args s=Tq U 69 (YT (Yc U s 40) args) s:=yP (by kernel_rfl) s h
theorem acR (args:List AV)(s:St):XR U (Zw U 67 args) 67 args s=SH U 67 args s:=(XL U 67 args s).symm
theorem oK:YB U 218=some false:=by kernel_rfl
theorem oJ:size U 218=some 1:=by kernel_rfl
theorem aF {c:ZX}(hc:c.Cz){st now last:Int}{first:Bool}(hs:0<=st/\st<=256)(d:Kd):0<=(iG d c st now last first).1/\(iG d c st now last first).1<=256:=by
 have h1:=hc.mi;have h2:=hc.ma
 cases d <;> simp only[iG,JZ,PI,S6,PU]
 case Vj=>cases !(XC now c.a==true) <;> cases first <;> cases !(XC last c.a==true) <;> simp only[cond_true,cond_false] <;> omega
 case gap=>cases !(XC now c.a==false) <;> cases first <;> cases !(XC last c.a==false) <;> simp only[cond_true,cond_false] <;> omega
 case idle=>cases (first||XC now c.a != XC last c.a) <;> simp only[cond_true,cond_false] <;> omega
 case setup=>cases (XC now c.a != XC last c.a) <;> simp only[cond_true,cond_false] <;> omega
 case Um=>cases !XC now c.a <;> cases (!first&&!XC now c.b&&(!XC last c.a||st==2)) <;> simp only[cond_true,cond_false] <;> omega
 all_goals exact hs
theorem BF {now last:Int}{first:Bool}:∀{l:List ZX} {Za:List Int},(∀c∈l,c.Cz)->(∀x∈Za,0<=x/\x<=256)->∀x∈Ye now last first l Za,0<=x/\x<=256
 |[],_,_,_,x,hx=>by simp[Ye] at hx
 |_::_,[],_,_,x,hx=>by simp[Ye] at hx
 |c::l,st::Za,h1,h2,x,hx=>by
  rw[Ye] at hx;rcases ajo.1 hx with rfl|hx
  ·exact aF (h1 c (aba ..)) (h2 st (aba ..)) _
  ·exact BF (fun c hc=>h1 c (aab _ hc)) (fun y hy=>h2 y (aab _ hy)) x hx
theorem sL {c:ZX}(hc:c.Cz):0<=XI c/\XI c<=256:=by
 have:=hc.mi;unfold XI
 cases Zy c.kind <;> simp only <;> omega
theorem WC {A:Type}{f:A->AV}{l:List A}(h:l≠[]):ZG true (l.map f)=.fz (l.map f):=by
 cases l with
 |nil=>exact absurd rfl h
 |cons x l=>rfl
theorem nE {lines:Int}{l:List Int}(h1:lines<=16)(h:U0 lines l=0):EV l:=by
 unfold U0 at h;obtain⟨q1,h⟩:=XU h (by decide);have q2:Pj lines l=false:=by
  cases hb:Pj lines l with
  |false=>rfl
  |true=>rw[hb] at h;exact absurd h (by decide)
 have hp:=Pk lines h1;refine⟨by simp at q1;omega,fun x hx=>?_⟩;have:=UP (by simpa using List.any_eq_false.1 q2 x hx:outside x 0 (2^lines.toNat-1)=false);omega
end Go.Am
namespace Go.Am
open Go
variable [ZZ]
theorem kz (f:ZX->Bool):∀(kids:List ZX),(∀x∈kids,∀rest,jd x ((Wd x).map f++rest)=f x)->∀(rest:List Bool) (s a:Bool),uL kids ((ZQ kids).map f++rest) s a=(s||kids.any f,a&&kids.all f)
 |[],_,rest,s,a=>by simp[uL]
 |c::l,h,rest,s,a=>by
  have h1:=h c (aba ..) ((ZQ l).map f++rest);have e:(ZQ (c::l)).map f++rest=(Wd c).map f++((ZQ l).map f++rest):=by rw[ZQ,ajA,ajQ]
  have hd:((Wd c).map f++((ZQ l).map f++rest)).drop (Wd c).length=(ZQ l).map f++rest:=by
   rw[<-aje (f:=f),aj5]
  rw[e,uL,h1,hd,kz f l (fun x hx=>h x (aab _ hx)),List.any_cons,List.all_cons,Bool.or_assoc,Bool.and_assoc]
theorem zJ (l:List Int)(t:Nat):∀kids:List ZX,decide (((N6 l t kids:Nat):Int)>0)=kids.any (atR l t)
 |[]=>by simp[N6]
 |c::k=>by
  have ih:=zJ l t k;rw[N6,List.any_cons,<-ih]
  cases atR l t c with
  |true=>simp;omega
  |false=>simp
theorem tO (l:List Int)(t:Nat):∀kids:List ZX,N6 l t kids<=kids.length
 |[]=>by simp[N6]
 |c::k=>by
  have ih:=tO l t k;rw[N6,ajk]
  cases atR l t c <;> simp <;> omega
theorem GU (l:List Int)(t:Nat):∀kids:List ZX,(((N6 l t kids:Nat):Int)==((kids.length:Nat):Int))=kids.all (atR l t)
 |[]=>by simp[N6]
 |c::k=>by
  have ih:=GU l t k;have hle:=tO l t k;rw[N6,List.all_cons,<-ih,ajk]
  cases atR l t c with
  |true =>
   simp only[cond_true,ajF];rw[aj4];simp;omega
  |false =>
   simp only[cond_false,ajZ,ajr];simp;omega
theorem ae5 (l:List Int)(t:Nat):∀c:ZX,c.wf->∀rest,jd c ((Wd c).map (atR l t)++rest)=atR l t c:=by
 intro c
 induction c using ZX.ind with
 |h k a b mi ma p nl kids ih =>
 intro h rest;have Gy:=QV h;have h':=h;rw[ZX.wf] at h';obtain⟨-,-,-,-,-,-,Ct,aY,-,Zv,-,-,hk⟩:=h';have Qa:=RM k Ct;rw[jd,Wd]
 cases hc:XJ k with
 |false =>
  simp only[cond_false,aju,List.map_nil,ajz,List.headD_cons]
 |true =>
  have hL:=kz (atR l t) kids (fun x hx=>ih x hx (hk x hx)) rest false true;simp only[cond_true];rw[hL,atR];rw[hc] at Qa Gy;generalize Zy k=d at *
  cases d <;> first|(simp[Kd.leaf] at Qa;done)|(simp[Kd.known] at Ct;done)|skip
  ·obtain⟨x,rfl⟩:=List.length_eq_one_iff.1 (aY rfl);simp[rK]
  ·simp only[reduceCtorEq,decide_false,ajZ,Bool.or_false,ajF];rw[GU]
  ·simp only[decide_true,ajF,ajU];rw[GU,zJ]
   cases Xv:kids.all (atR l t) with
   |false=>simp
   |true =>
    cases kids with
    |nil=>exact absurd rfl (Zv rfl)
    |cons x y =>
     rw[List.all_cons,adm] at Xv;rw[List.any_cons,Xv.1];rfl
theorem PV (l:List Int)(t:Nat):WE l ((t+1:Nat):Int)=XS l (t:Int):=by
 unfold WE;congr 1;omega
theorem IK (l:List Int):WE l ((0:Nat):Int)=XS l ((0:Nat):Int):=by
 unfold WE;congr 1
theorem cz (n k:Int):(XC n k==true)=(Zn n k==1)/\(XC n k==false)=(Zn n k==0):=by
 unfold XC;rcases MW n k with h|h <;> rw[h] <;> decide
def yI (l:List Int)(a ja ma:Int)(t:Nat):Int :=
 bif Zn (XS l (t:Int)) a==ja then (if runN l a t=0 then ma+1 else min ((t:Int)+1-(runN l a t:Nat)) (ma+1)) else 0
def VM (lv:Bool):Int:=bif lv then 1 else 0
theorem G0 (lv:Bool)(n k:Int):(XC n k==lv)=(Zn n k==VM lv):=by
 cases lv
 ·exact (cz n k).2
 ·exact (cz n k).1
theorem PT (l:List Int)(a:Int)(t:Nat):runN l a (t+1)=if Zn (XS l (t:Int)) a=Zn (XS l ((t+1:Nat):Int)) a then runN l a t else t+1:=by
 rw[runN];by_cases h:Zn (XS l (t:Int)) a=Zn (XS l ((t+1:Nat):Int)) a
 ·rw[if_pos h,h];simp
 ·rw[if_neg h];have:(Zn (XS l (t:Int)) a==Zn (XS l ((t+1:Nat):Int)) a)=false:=by simpa using h
  rw[this];rfl
theorem o4 (l:List Int)(lv:Bool)(c:ZX)(hM:0<=c.ma)(st:Int):JZ lv c st (XC (XS l ((0:Nat):Int)) c.a) (XC (WE l ((0:Nat):Int)) c.a) true=(yI l c.a (VM lv) c.ma 0,false):=by
 rw[IK];unfold JZ yI;rw[G0]
 cases Zn (XS l ((0:Nat):Int)) c.a==VM lv with
 |true=>simp[runN]
 |false=>simp
theorem o0 (l:List Int)(lv:Bool)(c:ZX)(hM:0<=c.ma)(t:Nat):JZ lv c (yI l c.a (VM lv) c.ma t) (XC (XS l ((t+1:Nat):Int)) c.a) (XC (WE l ((t+1:Nat):Int)) c.a) false =
  (yI l c.a (VM lv) c.ma (t+1),Sx l c.a (VM lv) (t+1)&&!outside (((t+1:Nat):Int)-(Uw l c.a (VM lv) (t+1):Nat)) c.mi c.ma):=by
 rw[PV];unfold JZ;rw[G0,G0];have hr:=JP l c.a t;have hz:(((t+1:Nat):Int)==0)=false:=by simp;omega
 unfold Sx Uw IJ yI;rw[hz,Nat.add_sub_cancel,ajU];have Zv:∀x y:Int,(x != y)=!(x==y):=fun _ _=>rfl
 rw[Zv];by_cases hn:Zn (XS l ((t+1:Nat):Int)) c.a=VM lv
 ·by_cases hw:Zn (XS l (t:Int)) c.a=VM lv
  ·have FB:runN l c.a (t+1)=runN l c.a t:=by rw[PT,if_pos (hw.trans hn.symm)]
   rw[FB];simp only[hn,hw,beq_self_eq_true,ajT,cond_false,cond_true,Bool.true_or,ajZ]
   congr 1
   by_cases h0:runN l c.a t=0
   ·rw[if_pos h0,if_pos h0];omega
   ·rw[if_neg h0,if_neg h0];omega
  ·have M8:(Zn (XS l (t:Int)) c.a==VM lv)=false:=by simpa using hw
   have FB:runN l c.a (t+1)=t+1:=by rw[PT,if_neg (fun e=>hw (e.trans hn))]
   rw[FB];simp only[hn,M8,beq_self_eq_true,ajT,ajY,cond_false,cond_true,Bool.true_or,ajZ]
   congr 1
   rw[if_neg (by omega)];omega
 ·have tU:(Zn (XS l ((t+1:Nat):Int)) c.a==VM lv)=false:=by simpa using hn
  by_cases hw:Zn (XS l (t:Int)) c.a=VM lv
  ·simp only[tU,hw,beq_self_eq_true,ajT,ajY,cond_false,cond_true,ajU,ajF]
   congr 1
   unfold outside;by_cases h0:runN l c.a t=0
   ·rw[if_pos h0,h0];rw[aj4];simp;omega
   ·rw[if_neg h0];rw[aj4];simp;omega
  ·have M8:(Zn (XS l (t:Int)) c.a==VM lv)=false:=by simpa using hw
   simp only[tU,M8,ajY,cond_true,cond_false,ajU,ajZ]
def sX (l:List Int)(a mi:Int)(t:Nat):Int:=min ((t:Int)+1-(runN l a t:Nat)) (mi+1)
theorem acG (l:List Int)(c:ZX)(hm:0<=c.mi)(st:Int)(w:Bool):PI c st (XC (XS l ((0:Nat):Int)) c.a) w true=(sX l c.a c.mi 0,(((0:Nat):Int)-(runN l c.a 0:Nat)+1==c.mi)):=by
 unfold PI sX;simp only[Bool.true_or,cond_true,runN]
 congr 1
 ·rw[aj4];simp;omega
theorem o6 (n m k:Int):(XC n k != XC m k)=!(Zn m k==Zn n k):=by
 unfold XC;rcases MW n k with h|h <;> rcases MW m k with h'|h' <;> rw[h,h'] <;> decide
theorem acH (l:List Int)(c:ZX)(hm:0<=c.mi)(t:Nat):PI c (sX l c.a c.mi t) (XC (XS l ((t+1:Nat):Int)) c.a) (XC (WE l ((t+1:Nat):Int)) c.a) false=(sX l c.a c.mi (t+1),(((t+1:Nat):Int)-(runN l c.a (t+1):Nat)+1==c.mi)):=by
 rw[PV];unfold PI;rw[o6,ajU];have hr:=JP l c.a t;unfold sX;rw[PT];by_cases hb:Zn (XS l (t:Int)) c.a=Zn (XS l ((t+1:Nat):Int)) c.a
 ·rw[if_pos hb];simp only[hb,beq_self_eq_true,ajT,cond_false];refine Prod.ext (by simp only;omega) ?_;simp only;rw[aj4];simp;omega
 ·have TM:(Zn (XS l (t:Int)) c.a==Zn (XS l ((t+1:Nat):Int)) c.a)=false:=by simpa using hb
  rw[if_neg hb];simp only[TM,ajY,cond_true];refine Prod.ext (by simp only;omega) ?_;simp only;rw[aj4];simp;omega
def qK (l:List Int)(a:Int)(u:Nat):Prop:=Zn (XS l (u:Int)) a≠Zn (XS l ((u-1:Nat):Int)) a
theorem ue (l:List Int)(a:Int):∀(n u:Nat) (p:Bool),chg l a u n p=true<->p=true\/∃v,u<=v/\v<u+n/\qK l a v
 |0,u,p=>by
  rw[chg]
  constructor
  ·exact .inl
  ·rintro (h|⟨v,h1,h2,_⟩)
   ·exact h
   ·omega
 |n+1,u,p=>by
  rw[chg,ue l a n (u+1)];have hc:(Zn (XS l (u:Int)) a != Zn (XS l ((u-1:Nat):Int)) a)=true<->qK l a u:=by unfold qK;simp
  rw[akj,hc]
  constructor
  ·rintro ((h|h)|⟨v,h1,h2,h3⟩)
   ·exact .inl h
   ·exact .inr ⟨u,ajg _,by omega,h⟩
   ·exact .inr ⟨v,by omega,by omega,h3⟩
  ·rintro (h|⟨v,h1,h2,h3⟩)
   ·exact .inl (.inl h)
   ·by_cases e:v=u
    ·subst e;exact .inl (.inr h3)
    ·exact .inr ⟨v,by omega,by omega,h3⟩
def PW (l:List Int)(a mi:Int):Nat->Int
 |0=>mi
 |t+1=>bif Zn (XS l (t:Int)) a==Zn (XS l ((t+1:Nat):Int)) a then min (PW l a mi t+1) mi else 0
theorem Ae (l:List Int)(a mi:Int)(hm:0<=mi):∀t,0<=PW l a mi t
 |0=>hm
 |t+1=>by
  have:=Ae l a mi hm t;rw[PW]
  cases Zn (XS l (t:Int)) a==Zn (XS l ((t+1:Nat):Int)) a <;> simp only[cond_true,cond_false] <;> omega
theorem t_ (l:List Int)(a mi:Int)(hm:0<=mi):∀(t:Nat) (k:Int),0<=k->k<=mi->(PW l a mi t<k<->∃v:Nat,1<=v/\(t:Int)-k+1<=v/\v<=t/\qK l a v)
 |0,k,h0,h1=>by
  rw[PW]
  constructor
  ·intro h;omega
  ·rintro⟨v,h2,h3,h4,_⟩;omega
 |t+1,k,h0,h1=>by
  have hp:=Ae l a mi hm t;rw[PW];by_cases hb:Zn (XS l (t:Int)) a=Zn (XS l ((t+1:Nat):Int)) a
  ·have yS:(Zn (XS l (t:Int)) a==Zn (XS l ((t+1:Nat):Int)) a)=true:=by simpa using hb
   rw[yS,cond_true];by_cases hk:k=0
   ·subst hk
    constructor
    ·intro h;omega
    ·rintro⟨v,h2,h3,h4,_⟩;omega
   ·have ih:=t_ l a mi hm t (k-1) (by omega) (by omega)
    constructor
    ·intro h;obtain⟨v,h2,h3,h4,h5⟩:=ih.1 (by omega);exact⟨v,h2,by omega,by omega,h5⟩
    ·rintro⟨v,h2,h3,h4,h5⟩;have:v≠t+1:=fun e=>by
      subst e;unfold qK at h5;rw[Nat.add_sub_cancel] at h5;exact h5 hb.symm
     have:=ih.2 ⟨v,h2,by omega,by omega,h5⟩;omega
  ·have yS:(Zn (XS l (t:Int)) a==Zn (XS l ((t+1:Nat):Int)) a)=false:=by simpa using hb
   rw[yS,cond_false]
   constructor
   ·intro h;refine⟨t+1,by omega,by omega,by omega,?_⟩;unfold qK;rw[Nat.add_sub_cancel];exact fun e=>hb e.symm
   ·rintro⟨v,h2,h3,h4,_⟩;omega
theorem Fx (l:List Int)(a mi:Int)(hm:0<=mi)(t:Nat):chg l a (VK t mi) (t+1-VK t mi) false=decide (PW l a mi t<mi):=by
 rw[aj4,ue,decide_eq_true_iff,t_ l a mi hm t mi hm (by omega)];have hs:1<=VK t mi/\VK t mi<=t+1/\(t:Int)-mi+1<=VK t mi/\((VK t mi:Int)=1\/(VK t mi:Int)=(t:Int)-mi+1):=by unfold VK;omega
 constructor
 ·rintro (h|⟨v,h1,h2,h3⟩)
  ·cases h
  ·exact⟨v,by omega,by omega,by omega,h3⟩
 ·rintro⟨v,h1,h2,h3,h4⟩;exact .inr ⟨v,by omega,by omega,h4⟩
theorem DC (l:List Int)(b:Int):∀(n u:Nat) (p:Bool),low l b u n p=true<->p=true/\∀v,u<=v->v<u+n->Zn (XS l (v:Int)) b=0
 |0,u,p=>by
  rw[low];exact⟨fun h=>⟨h,fun v h1 h2=>by omega⟩,fun h=>h.1⟩
 |n+1,u,p=>by
  rw[low]
  cases p with
  |false=>simp
  |true =>
   rw[cond_true,DC l b n (u+1)]
   constructor
   ·rintro⟨h1,h2⟩;refine⟨rfl,fun v h3 h4=>?_⟩;by_cases e:v=u
    ·subst e;simpa using h1
    ·exact h2 v (by omega) (by omega)
   ·rintro⟨_,h2⟩;exact⟨by simpa using h2 u (ajg _) (by omega),fun v h3 h4=>h2 v (by omega) (by omega)⟩
def sZ (l:List Int)(a b:Int)(t:Nat):Int :=
 bif Zn (XS l (t:Int)) a==1 then (bif decide (0<runN l a t)&&low l b (runN l a t) (t+1-runN l a t) true then 2 else 1) else 0
theorem QS (n k:Int):XC n k=(Zn n k==1):=rfl
theorem QR (n k:Int):(!XC n k)=(Zn n k==0):=by
 unfold XC;rcases MW n k with h|h <;> rw[h] <;> decide
theorem aX (l:List Int)(c:ZX)(hm:0<=c.mi)(hb wb:Bool):S6 c c.mi (XC (XS l ((0:Nat):Int)) c.a) (XC (WE l ((0:Nat):Int)) c.a) hb wb=(PW l c.a c.mi 0,hb&&!wb&&decide (PW l c.a c.mi 0<c.mi)):=by
 rw[IK];unfold S6;rw[o6];simp only[beq_self_eq_true,ajT,cond_false,PW];rw[show min (c.mi+1) c.mi=c.mi by omega]
 all_goals rfl
theorem aW (l:List Int)(c:ZX)(hm:0<=c.mi)(t:Nat)(hb wb:Bool):S6 c (PW l c.a c.mi t) (XC (XS l ((t+1:Nat):Int)) c.a) (XC (WE l ((t+1:Nat):Int)) c.a) hb wb=(PW l c.a c.mi (t+1),hb&&!wb&&decide (PW l c.a c.mi (t+1)<c.mi)):=by
 rw[PV];unfold S6;rw[o6,PW]
 cases Zn (XS l (t:Int)) c.a==Zn (XS l ((t+1:Nat):Int)) c.a <;> rfl
theorem o5 (l:List Int)(b:Int)(u t:Nat)(h:u<=t):low l b u (t+1+1-u) true=(low l b u (t+1-u) true&&(Zn (XS l ((t+1:Nat):Int)) b==0)):=by
 rw[aj4,adm,DC,DC]
 constructor
 ·rintro⟨_,h2⟩;exact⟨⟨rfl,fun v h3 h4=>h2 v h3 (by omega)⟩,by simpa using h2 (t+1) (by omega) (by omega)⟩
 ·rintro⟨⟨_,h2⟩,h3⟩;refine⟨rfl,fun v h4 h5=>?_⟩;by_cases e:v=t+1
  ·subst e;simpa using h3
  ·exact h2 v h4 (by omega)
theorem acE (l:List Int)(c:ZX):PU 0 (XC (XS l ((0:Nat):Int)) c.a) (XC (WE l ((0:Nat):Int)) c.a) (XC (XS l ((0:Nat):Int)) c.b) true=(sZ l c.a c.b 0,low l c.b (Uw l c.a 1 0) (0-Uw l c.a 1 0) (Sx l c.a 1 0)):=by
 have he:Sx l c.a 1 0=false:=by unfold Sx IJ;simp
 rw[IK,he,OJ,QS];unfold PU sZ
 cases Zn (XS l ((0:Nat):Int)) c.a==1 <;> simp[runN]
theorem acF (l:List Int)(c:ZX)(t:Nat):PU (sZ l c.a c.b t) (XC (XS l ((t+1:Nat):Int)) c.a) (XC (WE l ((t+1:Nat):Int)) c.a) (XC (XS l ((t+1:Nat):Int)) c.b) false =
  (sZ l c.a c.b (t+1),low l c.b (Uw l c.a 1 (t+1)) (t+1-Uw l c.a 1 (t+1)) (Sx l c.a 1 (t+1))):=by
 have hr:=JP l c.a t;have hz:(((t+1:Nat):Int)==0)=false:=by simp;omega
 have Zv:∀x y:Int,(x != y)=!(x==y):=fun _ _=>rfl
 rw[PV,QS,QS];unfold PU;rw[QR];unfold Sx Uw IJ sZ;rw[hz,Nat.add_sub_cancel,ajU,Zv];by_cases hn:Zn (XS l ((t+1:Nat):Int)) c.a=1
 ·have dG:(Zn (XS l ((t+1:Nat):Int)) c.a==1)=true:=by simpa using hn
  rw[dG];simp only[Bool.true_or,cond_true,OJ,ajT,cond_false,ajY,ajF];by_cases hw:Zn (XS l (t:Int)) c.a=1
  ·have FB:runN l c.a (t+1)=runN l c.a t:=by rw[PT,if_pos (hw.trans hn.symm)]
   have sY:(Zn (XS l (t:Int)) c.a==1)=true:=by simpa using hw
   rw[FB,sY,o5 l c.b _ t hr]
   cases decide (0<runN l c.a t) <;> cases low l c.b (runN l c.a t) (t+1-runN l c.a t) true <;> cases (Zn (XS l ((t+1:Nat):Int)) c.b==0) <;> rfl
  ·have sY:(Zn (XS l (t:Int)) c.a==1)=false:=by simpa using hw
   have FB:runN l c.a (t+1)=t+1:=by rw[PT,if_neg (fun e=>hw (e.trans hn))]
   rw[FB,sY,show t+1+1-(t+1)=1 by omega];have h1:low l c.b (t+1) 1 true=(Zn (XS l ((t+1:Nat):Int)) c.b==0):=rfl;rw[h1];have h2:decide (0<t+1)=true:=decide_eq_true (by omega);rw[h2]
   cases (Zn (XS l ((t+1:Nat):Int)) c.b==0) <;> rfl
 ·have dG:(Zn (XS l ((t+1:Nat):Int)) c.a==1)=false:=by simpa using hn
  rw[dG];simp only[ajY,cond_true,cond_false,ajU];by_cases hw:Zn (XS l (t:Int)) c.a=1
  ·have sY:(Zn (XS l (t:Int)) c.a==1)=true:=by simpa using hw
   rw[sY];simp only[ajT,cond_false,cond_true,ajF]
   cases hd:decide (0<runN l c.a t) with
   |true=>cases hlw:low l c.b (runN l c.a t) (t+1-runN l c.a t) true <;> rfl
   |false=>rw[OJ];rfl
  ·have sY:(Zn (XS l (t:Int)) c.a==1)=false:=by simpa using hw
   rw[sY];simp only[ajY,cond_true,ajZ,OJ]
def iH (l:List Int)(c:ZX)(t:Nat):Int:=match Zy c.kind with
 |.Vj=>yI l c.a 1 c.ma t
 |.gap=>yI l c.a 0 c.ma t
 |.idle=>sX l c.a c.mi t
 |.setup=>PW l c.a c.mi t
 |.Um=>sZ l c.a c.b t
 |_=>0
def yH (l:List Int)(c:ZX):Nat->Int
 |0=>XI c
 |t+1=>iH l c t
theorem Fy (l:List Int)(c:ZX)(hc:c.wf)(Qa:(Zy c.kind).leaf=true)(i:Nat):VU (XS l (i:Int)) (WE l (i:Int)) ((i:Int)==0) c (yH l c i)=(iH l c i,atR l i c):=by
 have hs:=hc.Cz;have hM:=hs.ma.1;have hm:=hs.mi.1;have hv:∀d,Zy c.kind=d->atR l i c=atR l i (.mk c.kind c.a c.b c.mi c.ma c.pat c.nl c.kids):=fun d _=>by cases c;rfl
 rw[hv _ rfl,atR];unfold VU iH
 cases i with
 |zero =>
  have h0:(((0:Nat):Int)==0)=true:=rfl;rw[h0,yH];unfold XI
  cases hk:Zy c.kind <;> rw[hk] at Qa <;> first|cases Qa|skip
  all_goals simp only[iG]
  case zero.low.refl=>rw[QR]
  case zero.Ja.refl=>rw[QR,QS]
  case zero.fall.refl=>rw[QR,QS]
  case zero.Vj.refl =>
   have:=o4 l true c hM 0;have he:Sx l c.a 1 0=false:=by unfold Sx IJ;simp
   rw[this,he];rfl
  case zero.gap.refl =>
   have:=o4 l false c hM 0;have he:Sx l c.a 0 0=false:=by unfold Sx IJ;simp
   rw[this,he];rfl
  case zero.idle.refl=>exact acG l c hm 0 _
  case zero.setup.refl =>
   rw[aX l c hm,Fx l c.a c.mi hm,QR,QS]
   congr 1
   cases (Zn (XS l ((0:Nat):Int)) c.b==1) <;> cases (Zn (WE l ((0:Nat):Int)) c.b==0) <;> cases decide (PW l c.a c.mi 0<c.mi) <;> rfl
  case zero.Um.refl=>exact acE l c
  all_goals rfl
 |succ t =>
  have h0:(((t+1:Nat):Int)==0)=false:=by simp;omega
  rw[h0,yH];unfold iH
  cases hk:Zy c.kind <;> rw[hk] at Qa <;> first|cases Qa|skip
  all_goals simp only[iG]
  case succ.low.refl=>rw[QR]
  case succ.Ja.refl=>rw[QR,QS]
  case succ.fall.refl=>rw[QR,QS]
  case succ.Vj.refl=>exact o0 l true c hM t
  case succ.gap.refl=>exact o0 l false c hM t
  case succ.idle.refl=>exact acH l c hm t
  case succ.setup.refl =>
   rw[aW l c hm,Fx l c.a c.mi hm,QR,QS]
   congr 1
   cases (Zn (XS l ((t+1:Nat):Int)) c.b==1) <;> cases (Zn (WE l ((t+1:Nat):Int)) c.b==0) <;> cases decide (PW l c.a c.mi (t+1)<c.mi) <;> rfl
  case succ.Um.refl=>exact acF l c t
  all_goals rfl
theorem QG (l:List ZX):(Wy l).length=l.length:=by rw[Te];simp
theorem sB (lines:Int):∀(c:ZX) (d:Int),NK lines c.norm d=NK lines c d:=by
 intro c
 induction c using ZX.ind with
 |h k a b mi ma pat nl kids ih =>
 intro d;have hL:∀l:List ZX,(∀x∈l,x∈kids)->∀d,QI lines (Wy l) d=QI lines l d:=by
  intro l
  induction l with
  |nil=>intro _ d;rfl
  |cons c l Gf =>
   intro hm d;rw[Wy,QI,QI,ih c (hm c (aba ..)),Gf fun x hx=>hm x (aab _ hx)]
 rw[ZX.norm,NK,NK,QG,hL kids fun _ h=>h]
theorem MP:∀c:ZX,leaves c.norm=leaves c:=by
 intro c
 induction c using ZX.ind with
 |h k a b mi ma pat nl kids ih =>
 have hL:∀l:List ZX,(∀x∈l,x∈kids)->Zs (Wy l)=Zs l:=by
  intro l
  induction l with
  |nil=>intro _;rfl
  |cons c l Gf =>
   intro hm;rw[Wy,Zs,Zs,ih c (hm c (aba ..)),Gf fun x hx=>hm x (aab _ hx)]
 rw[ZX.norm,leaves,leaves,hL kids fun _ h=>h]
theorem xX:∀c:ZX,c.fits->c.norm.fits:=by
 intro c
 induction c using ZX.ind with
 |h k a b mi ma pat nl kids ih =>
 intro h;rw[ZX.fits] at h;rw[ZX.norm,ZX.fits,QG];refine⟨h.1,h.2.1,fun x hx=>?_⟩;rw[Te] at hx;obtain⟨y,hy,rfl⟩:=ajs.1 hx;exact ih y hy (h.2.2 y hy)
end Go.Am
namespace Go.Am
open Go
variable [ZZ]
set_option maxRecDepth 100000
set_option maxHeartbeats 4000000
theorem Kf:∀{l:List ZX},(∀x∈l,(Wd x).length<=leaves x)->(ZQ l).length<=Zs l
 |[],_=>by simp[ZQ]
 |c::l,h=>by
  rw[ZQ,ajh,Zs];have h1:=h c (aba ..);have h2:=Kf fun x hx=>h x (aab _ hx)
  omega
theorem Hv:∀c:ZX,(Wd c).length<=leaves c:=by
 intro c
 induction c using ZX.ind with
 |h k a b mi ma p nl kids ih =>
 rw[Wd,leaves]
 cases XJ k with
 |true=>have:=Kf ih;simp only[cond_true];omega
 |false=>simp
end Go.Am
namespace Go.Am
open Go
variable [ZZ]
set_option maxRecDepth 100000
end Go.Am
namespace Go.Am
open Go
variable [ZZ]
set_option maxRecDepth 100000
set_option maxHeartbeats 4000000
end Go.Am
