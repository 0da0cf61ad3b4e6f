/- A part of the proof of a statement of this seat: the machine on which the program is read, and what it computes; for every input. -/
import Derived.Test.YtikiipfbkfgmbaaGreatDoorZ16
import Derived.Test.YtikiipfbkfgmbaaGreatDoorZ14
import Derived.Test.YtikiipfbkfgmbaaGreatDoorZ13
set_option linter.all false
namespace Go.Am
open Go
variable [Z4]
set_option maxRecDepth 100000
set_option maxHeartbeats 4000000
def aoN (l:List Int)(c:Z5):Nat->Nat->List Int->List Bool
 |0,_,_=>[]
 |n+1,i,Yy=>jd c (Xu (Xg l (i:Int)) (QS l (i:Int)) ((i:Int)==0) (Ve c) Yy)::aoN l c n (i+1) (WN (Xg l (i:Int)) (QS l (i:Int)) ((i:Int)==0) (Ve c) Yy)
theorem qU (s:St)(d:Nat)(c:Z5):Yn U s (d+3) (WO c)=some (WO c):=by
 unfold WO
 cases ZF c.kind <;> rfl
theorem qT (s:St)(d:Nat)(l:List Z5):Y' (Yn U s (d+3)) (l.map WO)=some (l.map WO):=UZ fun x hx=>by
 obtain⟨c,_,rfl⟩:=alN.1 hx;exact qU s d c
theorem z93 {args:List AV}{s:St}(h:ZU args=false):X6 U (ZE U 93 args) 93 args s=UR U 93 (Y' (Yn U s 40) args) s:=Ke (by kernel_rfl) s h
theorem ahY (args:List AV)(s:St):X6 U (ZE U 92 args) 92 args s=Rl U 92 args s:=(XI U 92 args s).symm
theorem abd:YC U 234=some false:=by kernel_rfl
theorem abe:size U 234=some 1:=by kernel_rfl
theorem ani {c:Z5}(hc:c.A9){st now last:Int}{first:Bool}(hs:0<=st/\st<=256)(d:Kd):0<=(stP d c st now last first).1/\(stP d c st now last first).1<=256:=by
 have h1:=hc.mi;have h2:=hc.ma
 cases d <;> simp only[stP,Fw,MG,QT,MU]
 case Vj=>cases !(WR now c.a==true) <;> cases first <;> cases !(WR last c.a==true) <;> simp only[cond_true,cond_false] <;> omega
 case gap=>cases !(WR now c.a==false) <;> cases first <;> cases !(WR last c.a==false) <;> simp only[cond_true,cond_false] <;> omega
 case idle=>cases (first||WR now c.a != WR last c.a) <;> simp only[cond_true,cond_false] <;> omega
 case setup=>cases (WR now c.a != WR last c.a) <;> simp only[cond_true,cond_false] <;> omega
 case Uf=>cases !WR now c.a <;> cases (!first&&!WR now c.b&&(!WR last c.a||st==2)) <;> simp only[cond_true,cond_false] <;> omega
 all_goals exact hs
theorem aoE {now last:Int}{first:Bool}:∀{l:List Z5} {Yy:List Int},(∀c∈l,c.A9)->(∀x∈Yy,0<=x/\x<=256)->∀x∈WN now last first l Yy,0<=x/\x<=256
 |[],_,_,_,x,hx=>by simp[WN] at hx
 |_::_,[],_,_,x,hx=>by simp[WN] at hx
 |c::l,st::Yy,h1,h2,x,hx=>by
  rw[WN] at hx;rcases alL.1 hx with rfl|hx
  ·exact ani (h1 c (aba ..)) (h2 st (aba ..)) _
  ·exact aoE (fun c hc=>h1 c (aab _ hc)) (fun y hy=>h2 y (aab _ hy)) x hx
theorem ao9 {c:Z5}(hc:c.A9):0<=VW c/\VW c<=256:=by
 have:=hc.mi;unfold VW
 cases ZF c.kind <;> simp only <;> omega
theorem QM {A:Type}{f:A->AV}{l:List A}(h:l≠[]):ZG true (l.map f)=.fz (l.map f):=by
 cases l with
 |nil=>exact absurd rfl h
 |cons x l=>rfl
theorem aoH {lines:Int}{l:List Int}(h1:lines<=16)(h:aai lines l=0):Hb l:=by
 unfold aai at h;obtain⟨q1,h⟩:=U5 h (by decide);have q2:vS lines l=false:=by
  cases hb:vS lines l with
  |false=>rfl
  |true=>rw[hb] at h;exact absurd h (by decide)
 have hp:=Ot lines h1;refine⟨by simp at q1;omega,fun x hx=>?_⟩;have:=Pv (by simpa using List.any_eq_false.1 q2 x hx:outside x 0 (2^lines.toNat-1)=false);omega
end Go.Am
namespace Go.Am
open Go
variable [Z4]
theorem amU (f:Z5->Bool):∀(kids:List Z5),(∀x∈kids,∀rest,jd x ((Ve x).map f++rest)=f x)->∀(rest:List Bool) (s a:Bool),lx kids ((ZJ kids).map f++rest) s a=(s||kids.any f,a&&kids.all f)
 |[],_,rest,s,a=>by simp[lx]
 |c::l,h,rest,s,a=>by
  have h1:=h c (aba ..) ((ZJ l).map f++rest);have e:(ZJ (c::l)).map f++rest=(Ve c).map f++((ZJ l).map f++rest):=by rw[ZJ,alY,alS]
  have hd:((Ve c).map f++((ZJ l).map f++rest)).drop (Ve c).length=(ZJ l).map f++rest:=by
   rw[<-agC (f:=f),amy]
  rw[e,lx,h1,hd,amU f l (fun x hx=>h x (aab _ hx)),List.any_cons,List.all_cons,Bool.or_assoc,Bool.and_assoc]
theorem bj (l:List Int)(t:Nat):∀kids:List Z5,decide (((JC l t kids:Nat):Int)>0)=kids.any (atR l t)
 |[]=>by simp[JC]
 |c::k=>by
  have ih:=bj l t k;rw[JC,List.any_cons,<-ih]
  cases atR l t c with
  |true=>simp;omega
  |false=>simp
theorem ao8 (l:List Int)(t:Nat):∀kids:List Z5,JC l t kids<=kids.length
 |[]=>by simp[JC]
 |c::k=>by
  have ih:=ao8 l t k;rw[JC,akd]
  cases atR l t c <;> simp <;> omega
theorem vf (l:List Int)(t:Nat):∀kids:List Z5,(((JC l t kids:Nat):Int)==((kids.length:Nat):Int))=kids.all (atR l t)
 |[]=>by simp[JC]
 |c::k=>by
  have ih:=vf l t k;have hle:=ao8 l t k;rw[JC,List.all_cons,<-ih,akd]
  cases atR l t c with
  |true =>
   simp only[cond_true,al9];rw[amj];simp;omega
  |false =>
   simp only[cond_false,amq,ald];simp;omega
theorem ang (l:List Int)(t:Nat):∀c:Z5,c.wf->∀rest,jd c ((Ve c).map (atR l t)++rest)=atR l t c:=by
 intro c
 induction c using Z5.ind with
 |h k a b mi ma p nl kids ih =>
 intro h rest;have Ef:=Rf h;have h':=h;rw[Z5.wf] at h';obtain⟨-,-,-,-,-,-,Cn,eT,-,ZC,-,-,hk⟩:=h';have Tk:=NM k Cn;rw[jd,Ve]
 cases hc:XD k with
 |false =>
  simp only[cond_false,alT,List.map_nil,alU,List.headD_cons]
 |true =>
  have hL:=amU (atR l t) kids (fun x hx=>ih x hx (hk x hx)) rest false true;simp only[cond_true];rw[hL,atR];rw[hc] at Tk Ef;generalize ZF k=d at *
  cases d <;> first|(simp[Kd.leaf] at Tk;done)|(simp[Kd.known] at Cn;done)|skip
  ·obtain⟨x,rfl⟩:=List.length_eq_one_iff.1 (eT rfl);simp[pY]
  ·simp only[reduceCtorEq,decide_false,amq,Bool.or_false,al9];rw[vf]
  ·simp only[decide_true,al9,amf];rw[vf,bj]
   cases Xa:kids.all (atR l t) with
   |false=>simp
   |true =>
    cases kids with
    |nil=>exact absurd rfl (ZC rfl)
    |cons x y =>
     rw[List.all_cons,agw] at Xa;rw[List.any_cons,Xa.1];rfl
theorem Lu (l:List Int)(t:Nat):QS l ((t+1:Nat):Int)=Xg l (t:Int):=by
 unfold QS;congr 1;omega
theorem G1 (l:List Int):QS l ((0:Nat):Int)=Xg l ((0:Nat):Int):=by
 unfold QS;congr 1
theorem aay (n k:Int):(WR n k==true)=(Zy n k==1)/\(WR n k==false)=(Zy n k==0):=by
 unfold WR;rcases Lv n k with h|h <;> rw[h] <;> decide
def w8 (l:List Int)(a Og ma:Int)(t:Nat):Int :=
 bif Zy (Xg l (t:Int)) a==Og then (if runN l a t=0 then ma+1 else min ((t:Int)+1-(runN l a t:Nat)) (ma+1)) else 0
def Vp (lv:Bool):Int:=bif lv then 1 else 0
theorem Fx (lv:Bool)(n k:Int):(WR n k==lv)=(Zy n k==Vp lv):=by
 cases lv
 ·exact (aay n k).2
 ·exact (aay n k).1
theorem ON (l:List Int)(a:Int)(t:Nat):runN l a (t+1)=if Zy (Xg l (t:Int)) a=Zy (Xg l ((t+1:Nat):Int)) a then runN l a t else t+1:=by
 rw[runN];by_cases h:Zy (Xg l (t:Int)) a=Zy (Xg l ((t+1:Nat):Int)) a
 ·rw[if_pos h,h];simp
 ·rw[if_neg h];have:(Zy (Xg l (t:Int)) a==Zy (Xg l ((t+1:Nat):Int)) a)=false:=by simpa using h
  rw[this];rfl
theorem mO (l:List Int)(lv:Bool)(c:Z5)(hM:0<=c.ma)(st:Int):Fw lv c st (WR (Xg l ((0:Nat):Int)) c.a) (WR (QS l ((0:Nat):Int)) c.a) true=(w8 l c.a (Vp lv) c.ma 0,false):=by
 rw[G1];unfold Fw w8;rw[Fx]
 cases Zy (Xg l ((0:Nat):Int)) c.a==Vp lv with
 |true=>simp[runN]
 |false=>simp
theorem mM (l:List Int)(lv:Bool)(c:Z5)(hM:0<=c.ma)(t:Nat):Fw lv c (w8 l c.a (Vp lv) c.ma t) (WR (Xg l ((t+1:Nat):Int)) c.a) (WR (QS l ((t+1:Nat):Int)) c.a) false =
  (w8 l c.a (Vp lv) c.ma (t+1),Tl l c.a (Vp lv) (t+1)&&!outside (((t+1:Nat):Int)-(WI l c.a (Vp lv) (t+1):Nat)) c.mi c.ma):=by
 rw[Lu];unfold Fw;rw[Fx,Fx];have hr:=NN l c.a t;have hz:(((t+1:Nat):Int)==0)=false:=by simp;omega
 unfold Tl WI Lt w8;rw[hz,Nat.add_sub_cancel,amf];have ZC:∀x y:Int,(x != y)=!(x==y):=fun _ _=>rfl
 rw[ZC];by_cases hn:Zy (Xg l ((t+1:Nat):Int)) c.a=Vp lv
 ·by_cases hw:Zy (Xg l (t:Int)) c.a=Vp lv
  ·have D2:runN l c.a (t+1)=runN l c.a t:=by rw[ON,if_pos (hw.trans hn.symm)]
   rw[D2];simp only[hn,hw,beq_self_eq_true,ama,cond_false,cond_true,Bool.true_or,amq]
   congr 1
   by_cases h0:runN l c.a t=0
   ·rw[if_pos h0,if_pos h0];omega
   ·rw[if_neg h0,if_neg h0];omega
  ·have LS:(Zy (Xg l (t:Int)) c.a==Vp lv)=false:=by simpa using hw
   have D2:runN l c.a (t+1)=t+1:=by rw[ON,if_neg (fun e=>hw (e.trans hn))]
   rw[D2];simp only[hn,LS,beq_self_eq_true,ama,amp,cond_false,cond_true,Bool.true_or,amq]
   congr 1
   rw[if_neg (by omega)];omega
 ·have r9:(Zy (Xg l ((t+1:Nat):Int)) c.a==Vp lv)=false:=by simpa using hn
  by_cases hw:Zy (Xg l (t:Int)) c.a=Vp lv
  ·simp only[r9,hw,beq_self_eq_true,ama,amp,cond_false,cond_true,amf,al9]
   congr 1
   unfold outside;by_cases h0:runN l c.a t=0
   ·rw[if_pos h0,h0];rw[amj];simp;omega
   ·rw[if_neg h0];rw[amj];simp;omega
  ·have LS:(Zy (Xg l (t:Int)) c.a==Vp lv)=false:=by simpa using hw
   simp only[r9,LS,amp,cond_true,cond_false,amf,amq]
def rj (l:List Int)(a mi:Int)(t:Nat):Int:=min ((t:Int)+1-(runN l a t:Nat)) (mi+1)
theorem adV (l:List Int)(c:Z5)(hm:0<=c.mi)(st:Int)(w:Bool):MG c st (WR (Xg l ((0:Nat):Int)) c.a) w true=(rj l c.a c.mi 0,(((0:Nat):Int)-(runN l c.a 0:Nat)+1==c.mi)):=by
 unfold MG rj;simp only[Bool.true_or,cond_true,runN]
 congr 1
 ·rw[amj];simp;omega
theorem mQ (n m k:Int):(WR n k != WR m k)=!(Zy m k==Zy n k):=by
 unfold WR;rcases Lv n k with h|h <;> rcases Lv m k with h'|h' <;> rw[h,h'] <;> decide
theorem adW (l:List Int)(c:Z5)(hm:0<=c.mi)(t:Nat):MG c (rj l c.a c.mi t) (WR (Xg l ((t+1:Nat):Int)) c.a) (WR (QS l ((t+1:Nat):Int)) c.a) false=(rj l c.a c.mi (t+1),(((t+1:Nat):Int)-(runN l c.a (t+1):Nat)+1==c.mi)):=by
 rw[Lu];unfold MG;rw[mQ,amf];have hr:=NN l c.a t;unfold rj;rw[ON];by_cases hb:Zy (Xg l (t:Int)) c.a=Zy (Xg l ((t+1:Nat):Int)) c.a
 ·rw[if_pos hb];simp only[hb,beq_self_eq_true,ama,cond_false];refine Prod.ext (by simp only;omega) ?_;simp only;rw[amj];simp;omega
 ·have TQ:(Zy (Xg l (t:Int)) c.a==Zy (Xg l ((t+1:Nat):Int)) c.a)=false:=by simpa using hb
  rw[if_neg hb];simp only[TQ,amp,cond_true];refine Prod.ext (by simp only;omega) ?_;simp only;rw[amj];simp;omega
def o5 (l:List Int)(a:Int)(u:Nat):Prop:=Zy (Xg l (u:Int)) a≠Zy (Xg l ((u-1:Nat):Int)) a
theorem se (l:List Int)(a:Int):∀(n u:Nat) (p:Bool),dI l a u n p=true<->p=true\/∃v,u<=v/\v<u+n/\o5 l a v
 |0,u,p=>by
  rw[dI]
  constructor
  ·exact .inl
  ·rintro (h|⟨v,h1,h2,_⟩)
   ·exact h
   ·omega
 |n+1,u,p=>by
  rw[dI,se l a n (u+1)];have hc:(Zy (Xg l (u:Int)) a != Zy (Xg l ((u-1:Nat):Int)) a)=true<->o5 l a u:=by unfold o5;simp
  rw[amE,hc]
  constructor
  ·rintro ((h|h)|⟨v,h1,h2,h3⟩)
   ·exact .inl h
   ·exact .inr ⟨u,agB _,by omega,h⟩
   ·exact .inr ⟨v,by omega,by omega,h3⟩
  ·rintro (h|⟨v,h1,h2,h3⟩)
   ·exact .inl (.inl h)
   ·by_cases e:v=u
    ·subst e;exact .inl (.inr h3)
    ·exact .inr ⟨v,by omega,by omega,h3⟩
def OO (l:List Int)(a mi:Int):Nat->Int
 |0=>mi
 |t+1=>bif Zy (Xg l (t:Int)) a==Zy (Xg l ((t+1:Nat):Int)) a then min (OO l a mi t+1) mi else 0
theorem yB (l:List Int)(a mi:Int)(hm:0<=mi):∀t,0<=OO l a mi t
 |0=>hm
 |t+1=>by
  have:=yB l a mi hm t;rw[OO]
  cases Zy (Xg l (t:Int)) a==Zy (Xg l ((t+1:Nat):Int)) a <;> simp only[cond_true,cond_false] <;> omega
theorem sa (l:List Int)(a mi:Int)(hm:0<=mi):∀(t:Nat) (k:Int),0<=k->k<=mi->(OO l a mi t<k<->∃v:Nat,1<=v/\(t:Int)-k+1<=v/\v<=t/\o5 l a v)
 |0,k,h0,h1=>by
  rw[OO]
  constructor
  ·intro h;omega
  ·rintro⟨v,h2,h3,h4,_⟩;omega
 |t+1,k,h0,h1=>by
  have hp:=yB l a mi hm t;rw[OO];by_cases hb:Zy (Xg l (t:Int)) a=Zy (Xg l ((t+1:Nat):Int)) a
  ·have xn:(Zy (Xg l (t:Int)) a==Zy (Xg l ((t+1:Nat):Int)) a)=true:=by simpa using hb
   rw[xn,cond_true];by_cases hk:k=0
   ·subst hk
    constructor
    ·intro h;omega
    ·rintro⟨v,h2,h3,h4,_⟩;omega
   ·have ih:=sa l a mi hm t (k-1) (by omega) (by omega)
    constructor
    ·intro h;obtain⟨v,h2,h3,h4,h5⟩:=ih.1 (by omega);exact⟨v,h2,by omega,by omega,h5⟩
    ·rintro⟨v,h2,h3,h4,h5⟩;have:v≠t+1:=fun e=>by
      subst e;unfold o5 at h5;rw[Nat.add_sub_cancel] at h5;exact h5 hb.symm
     have:=ih.2 ⟨v,h2,by omega,by omega,h5⟩;omega
  ·have xn:(Zy (Xg l (t:Int)) a==Zy (Xg l ((t+1:Nat):Int)) a)=false:=by simpa using hb
   rw[xn,cond_false]
   constructor
   ·intro h;refine⟨t+1,by omega,by omega,by omega,?_⟩;unfold o5;rw[Nat.add_sub_cancel];exact fun e=>hb e.symm
   ·rintro⟨v,h2,h3,h4,_⟩;omega
theorem DZ (l:List Int)(a mi:Int)(hm:0<=mi)(t:Nat):dI l a (XO t mi) (t+1-XO t mi) false=decide (OO l a mi t<mi):=by
 rw[amj,se,decide_eq_true_iff,sa l a mi hm t mi hm (by omega)];have hs:1<=XO t mi/\XO t mi<=t+1/\(t:Int)-mi+1<=XO t mi/\((XO t mi:Int)=1\/(XO t mi:Int)=(t:Int)-mi+1):=by unfold XO;omega
 constructor
 ·rintro (h|⟨v,h1,h2,h3⟩)
  ·cases h
  ·exact⟨v,by omega,by omega,by omega,h3⟩
 ·rintro⟨v,h1,h2,h3,h4⟩;exact .inr ⟨v,by omega,by omega,h4⟩
theorem Cm (l:List Int)(b:Int):∀(n u:Nat) (p:Bool),low l b u n p=true<->p=true/\∀v,u<=v->v<u+n->Zy (Xg l (v:Int)) b=0
 |0,u,p=>by
  rw[low];exact⟨fun h=>⟨h,fun v h1 h2=>by omega⟩,fun h=>h.1⟩
 |n+1,u,p=>by
  rw[low]
  cases p with
  |false=>simp
  |true =>
   rw[cond_true,Cm l b n (u+1)]
   constructor
   ·rintro⟨h1,h2⟩;refine⟨rfl,fun v h3 h4=>?_⟩;by_cases e:v=u
    ·subst e;simpa using h1
    ·exact h2 v (by omega) (by omega)
   ·rintro⟨_,h2⟩;exact⟨by simpa using h2 u (agB _) (by omega),fun v h3 h4=>h2 v (by omega) (by omega)⟩
def rl (l:List Int)(a b:Int)(t:Nat):Int :=
 bif Zy (Xg l (t:Int)) a==1 then (bif decide (0<runN l a t)&&low l b (runN l a t) (t+1-runN l a t) true then 2 else 1) else 0
theorem PJ (n k:Int):WR n k=(Zy n k==1):=rfl
theorem PI (n k:Int):(!WR n k)=(Zy n k==0):=by
 unfold WR;rcases Lv n k with h|h <;> rw[h] <;> decide
theorem aa5 (l:List Int)(c:Z5)(hm:0<=c.mi)(hb wb:Bool):QT c c.mi (WR (Xg l ((0:Nat):Int)) c.a) (WR (QS l ((0:Nat):Int)) c.a) hb wb=(OO l c.a c.mi 0,hb&&!wb&&decide (OO l c.a c.mi 0<c.mi)):=by
 rw[G1];unfold QT;rw[mQ];simp only[beq_self_eq_true,ama,cond_false,OO];rw[show min (c.mi+1) c.mi=c.mi by omega]
 all_goals rfl
theorem aa6 (l:List Int)(c:Z5)(hm:0<=c.mi)(t:Nat)(hb wb:Bool):QT c (OO l c.a c.mi t) (WR (Xg l ((t+1:Nat):Int)) c.a) (WR (QS l ((t+1:Nat):Int)) c.a) hb wb=(OO l c.a c.mi (t+1),hb&&!wb&&decide (OO l c.a c.mi (t+1)<c.mi)):=by
 rw[Lu];unfold QT;rw[mQ,OO]
 cases Zy (Xg l (t:Int)) c.a==Zy (Xg l ((t+1:Nat):Int)) c.a <;> rfl
theorem mP (l:List Int)(b:Int)(u t:Nat)(h:u<=t):low l b u (t+1+1-u) true=(low l b u (t+1-u) true&&(Zy (Xg l ((t+1:Nat):Int)) b==0)):=by
 rw[amj,agw,Cm,Cm]
 constructor
 ·rintro⟨_,h2⟩;exact⟨⟨rfl,fun v h3 h4=>h2 v h3 (by omega)⟩,by simpa using h2 (t+1) (by omega) (by omega)⟩
 ·rintro⟨⟨_,h2⟩,h3⟩;refine⟨rfl,fun v h4 h5=>?_⟩;by_cases e:v=t+1
  ·subst e;simpa using h3
  ·exact h2 v h4 (by omega)
theorem adT (l:List Int)(c:Z5):MU 0 (WR (Xg l ((0:Nat):Int)) c.a) (WR (QS l ((0:Nat):Int)) c.a) (WR (Xg l ((0:Nat):Int)) c.b) true=(rl l c.a c.b 0,low l c.b (WI l c.a 1 0) (0-WI l c.a 1 0) (Tl l c.a 1 0)):=by
 have he:Tl l c.a 1 0=false:=by unfold Tl Lt;simp
 rw[G1,he,Qv,PJ];unfold MU rl
 cases Zy (Xg l ((0:Nat):Int)) c.a==1 <;> simp[runN]
theorem adU (l:List Int)(c:Z5)(t:Nat):MU (rl l c.a c.b t) (WR (Xg l ((t+1:Nat):Int)) c.a) (WR (QS l ((t+1:Nat):Int)) c.a) (WR (Xg l ((t+1:Nat):Int)) c.b) false =
  (rl l c.a c.b (t+1),low l c.b (WI l c.a 1 (t+1)) (t+1-WI l c.a 1 (t+1)) (Tl l c.a 1 (t+1))):=by
 have hr:=NN l c.a t;have hz:(((t+1:Nat):Int)==0)=false:=by simp;omega
 have ZC:∀x y:Int,(x != y)=!(x==y):=fun _ _=>rfl
 rw[Lu,PJ,PJ];unfold MU;rw[PI];unfold Tl WI Lt rl;rw[hz,Nat.add_sub_cancel,amf,ZC];by_cases hn:Zy (Xg l ((t+1:Nat):Int)) c.a=1
 ·have aB:(Zy (Xg l ((t+1:Nat):Int)) c.a==1)=true:=by simpa using hn
  rw[aB];simp only[Bool.true_or,cond_true,Qv,ama,cond_false,amp,al9];by_cases hw:Zy (Xg l (t:Int)) c.a=1
  ·have D2:runN l c.a (t+1)=runN l c.a t:=by rw[ON,if_pos (hw.trans hn.symm)]
   have rk:(Zy (Xg l (t:Int)) c.a==1)=true:=by simpa using hw
   rw[D2,rk,mP l c.b _ t hr]
   cases decide (0<runN l c.a t) <;> cases low l c.b (runN l c.a t) (t+1-runN l c.a t) true <;> cases (Zy (Xg l ((t+1:Nat):Int)) c.b==0) <;> rfl
  ·have rk:(Zy (Xg l (t:Int)) c.a==1)=false:=by simpa using hw
   have D2:runN l c.a (t+1)=t+1:=by rw[ON,if_neg (fun e=>hw (e.trans hn))]
   rw[D2,rk,show t+1+1-(t+1)=1 by omega];have h1:low l c.b (t+1) 1 true=(Zy (Xg l ((t+1:Nat):Int)) c.b==0):=rfl;rw[h1];have h2:decide (0<t+1)=true:=decide_eq_true (by omega);rw[h2]
   cases (Zy (Xg l ((t+1:Nat):Int)) c.b==0) <;> rfl
 ·have aB:(Zy (Xg l ((t+1:Nat):Int)) c.a==1)=false:=by simpa using hn
  rw[aB];simp only[amp,cond_true,cond_false,amf];by_cases hw:Zy (Xg l (t:Int)) c.a=1
  ·have rk:(Zy (Xg l (t:Int)) c.a==1)=true:=by simpa using hw
   rw[rk];simp only[ama,cond_false,cond_true,al9]
   cases hd:decide (0<runN l c.a t) with
   |true=>cases hlw:low l c.b (runN l c.a t) (t+1-runN l c.a t) true <;> rfl
   |false=>rw[Qv];rfl
  ·have rk:(Zy (Xg l (t:Int)) c.a==1)=false:=by simpa using hw
   rw[rk];simp only[amp,cond_true,amq,Qv]
def eQ (l:List Int)(c:Z5)(t:Nat):Int:=match ZF c.kind with
 |.Vj=>w8 l c.a 1 c.ma t
 |.gap=>w8 l c.a 0 c.ma t
 |.idle=>rj l c.a c.mi t
 |.setup=>OO l c.a c.mi t
 |.Uf=>rl l c.a c.b t
 |_=>0
def aa7 (l:List Int)(c:Z5):Nat->Int
 |0=>VW c
 |t+1=>eQ l c t
theorem ri (l:List Int)(c:Z5)(hc:c.wf)(Tk:(ZF c.kind).leaf=true)(i:Nat):Vx (Xg l (i:Int)) (QS l (i:Int)) ((i:Int)==0) c (aa7 l c i)=(eQ l c i,atR l i c):=by
 have hs:=hc.A9;have hM:=hs.ma.1;have hm:=hs.mi.1;have hv:∀d,ZF c.kind=d->atR l i c=atR l i (.mk c.kind c.a c.b c.mi c.ma c.pat c.nl c.kids):=fun d _=>by cases c;rfl
 rw[hv _ rfl,atR];unfold Vx eQ
 cases i with
 |zero =>
  have h0:(((0:Nat):Int)==0)=true:=rfl;rw[h0,aa7];unfold VW
  cases hk:ZF c.kind <;> rw[hk] at Tk <;> first|cases Tk|skip
  all_goals simp only[stP]
  case zero.low.refl=>rw[PI]
  case zero.Iz.refl=>rw[PI,PJ]
  case zero.fall.refl=>rw[PI,PJ]
  case zero.Vj.refl =>
   have:=mO l true c hM 0;have he:Tl l c.a 1 0=false:=by unfold Tl Lt;simp
   rw[this,he];rfl
  case zero.gap.refl =>
   have:=mO l false c hM 0;have he:Tl l c.a 0 0=false:=by unfold Tl Lt;simp
   rw[this,he];rfl
  case zero.idle.refl=>exact adV l c hm 0 _
  case zero.setup.refl =>
   rw[aa5 l c hm,DZ l c.a c.mi hm,PI,PJ]
   congr 1
   cases (Zy (Xg l ((0:Nat):Int)) c.b==1) <;> cases (Zy (QS l ((0:Nat):Int)) c.b==0) <;> cases decide (OO l c.a c.mi 0<c.mi) <;> rfl
  case zero.Uf.refl=>exact adT l c
  all_goals rfl
 |succ t =>
  have h0:(((t+1:Nat):Int)==0)=false:=by simp;omega
  rw[h0,aa7];unfold eQ
  cases hk:ZF c.kind <;> rw[hk] at Tk <;> first|cases Tk|skip
  all_goals simp only[stP]
  case succ.low.refl=>rw[PI]
  case succ.Iz.refl=>rw[PI,PJ]
  case succ.fall.refl=>rw[PI,PJ]
  case succ.Vj.refl=>exact mM l true c hM t
  case succ.gap.refl=>exact mM l false c hM t
  case succ.idle.refl=>exact adW l c hm t
  case succ.setup.refl =>
   rw[aa6 l c hm,DZ l c.a c.mi hm,PI,PJ]
   congr 1
   cases (Zy (Xg l ((t+1:Nat):Int)) c.b==1) <;> cases (Zy (QS l ((t+1:Nat):Int)) c.b==0) <;> cases decide (OO l c.a c.mi (t+1)<c.mi) <;> rfl
  case succ.Uf.refl=>exact adU l c t
  all_goals rfl
theorem Px (l:List Z5):(Wj l).length=l.length:=by rw[Sm];simp
theorem qL (lines:Int):∀(c:Z5) (d:Int),Mr lines c.norm d=Mr lines c d:=by
 intro c
 induction c using Z5.ind with
 |h k a b mi ma pat nl kids ih =>
 intro d;have hL:∀l:List Z5,(∀x∈l,x∈kids)->∀d,Pz lines (Wj l) d=Pz lines l d:=by
  intro l
  induction l with
  |nil=>intro _ d;rfl
  |cons c l EJ =>
   intro hm d;rw[Wj,Pz,Pz,ih c (hm c (aba ..)),EJ fun x hx=>hm x (aab _ hx)]
 rw[Z5.norm,Mr,Mr,Px,hL kids fun _ h=>h]
theorem Lq:∀c:Z5,leaves c.norm=leaves c:=by
 intro c
 induction c using Z5.ind with
 |h k a b mi ma pat nl kids ih =>
 have hL:∀l:List Z5,(∀x∈l,x∈kids)->ZS (Wj l)=ZS l:=by
  intro l
  induction l with
  |nil=>intro _;rfl
  |cons c l EJ =>
   intro hm;rw[Wj,ZS,ZS,ih c (hm c (aba ..)),EJ fun x hx=>hm x (aab _ hx)]
 rw[Z5.norm,leaves,leaves,hL kids fun _ h=>h]
theorem wz:∀c:Z5,c.fits->c.norm.fits:=by
 intro c
 induction c using Z5.ind with
 |h k a b mi ma pat nl kids ih =>
 intro h;rw[Z5.fits] at h;rw[Z5.norm,Z5.fits,Px];refine⟨h.1,h.2.1,fun x hx=>?_⟩;rw[Sm] at hx;obtain⟨y,hy,rfl⟩:=alN.1 hx;exact ih y hy (h.2.2 y hy)
end Go.Am
namespace Go.Am
open Go
variable [Z4]
set_option maxRecDepth 100000
set_option maxHeartbeats 4000000
theorem IF:∀{l:List Z5},(∀x∈l,(Ve x).length<=leaves x)->(ZJ l).length<=ZS l
 |[],_=>by simp[ZJ]
 |c::l,h=>by
  rw[ZJ,agy,ZS];have h1:=h c (aba ..);have h2:=IF fun x hx=>h x (aab _ hx)
  omega
theorem F0:∀c:Z5,(Ve c).length<=leaves c:=by
 intro c
 induction c using Z5.ind with
 |h k a b mi ma p nl kids ih =>
 rw[Ve,leaves]
 cases XD k with
 |true=>have:=IF ih;simp only[cond_true];omega
 |false=>simp
end Go.Am
