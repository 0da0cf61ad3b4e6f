/- A part of the proof of a statement of this seat: the machine on which the program is read, and what it computes; for every input. -/
import Derived.Test.YtkmaeondbkpajaaGreatDoorG17
import Derived.Test.YtkmaeondbkpajaaGreatDoorG04
set_option linter.all false
namespace Go.Am
open Go
variable [ZZ]
set_option maxRecDepth 100000
set_option maxHeartbeats 4000000
def XO (last sym:Int):Int:=bif decide (last<0) then sym else last
def iw (c:ZX)(mark last sym ja:Int):Int:=bif Zn sym c.a != ja then 0 else bif decide (last<0)||decide (mark<0) then -1 else min (mark+1) (c.ma+1)
def yC (c:ZX)(last sym:Int):Bool:=Zn sym c.a != Zn (XO last sym) c.a
def IG (d:Kd)(c:ZX)(mark last sym:Int):Int×Bool:=match d with
 |.Vj=>(iw c mark last sym 1,yC c last sym&&Zn sym c.a==0&&!outside mark c.mi c.ma)
 |.gap=>(iw c mark last sym 0,yC c last sym&&Zn sym c.a==1&&!outside mark c.mi c.ma)
 |.idle =>
  let n:=bif decide (last<0)||yC c last sym then 1 else min (mark+1) (c.mi+1)
  (n,n==c.mi)
 |.setup =>
  let n:=bif !yC c last sym&&decide (mark>0)&&decide (mark<c.mi) then mark+1 else bif yC c last sym then 1 else 0
  (n,decide (n>0)&&Zn sym c.b==1&&Zn (XO last sym) c.b==0)
 |.Um =>
  let n:=bif Zn sym c.a==0 then 0 else bif decide (last<0)||Zn sym c.b==1 then 2 else bif yC c last sym then 1 else mark
  (n,yC c last sym&&Zn sym c.a==0&&mark==1)
 |_=>(0,atR [XO last sym,sym] 1 c)
def vZ (d:Kd)(c:ZX)(mark:Int):Int:=match d with
 |.Vj|.gap=>bif mark == -1 then c.ma+1 else mark
 |.idle=>mark
 |.setup=>bif mark==0 then c.mi else mark-1
 |.Um=>bif mark==1 then 2 else bif mark==2 then 1 else 0
 |_=>0
def jI (d:Kd)(c:ZX)(mark last:Int):Prop:=match d with
 |.Vj => -1<=mark/\mark<=c.ma+1/\(0<=last->Zn last c.a≠1->mark=0)
 |.gap => -1<=mark/\mark<=c.ma+1/\(0<=last->Zn last c.a≠0->mark=0)
 |.idle=>0<=mark/\mark<=c.mi+1
 |.setup=>0<=mark/\mark<=c.mi
 |.Um=>0<=mark/\mark<=2/\(0<=last->Zn last c.a=1->mark≠0)
 |_=>mark=0
theorem GV (n k:Int):Zn n k=0\/Zn n k=1:=by unfold Zn;omega
theorem s8 (d:Kd)(c:ZX)(h1:0<=c.mi)(h2:0<=c.ma):jI d c 0 (-1):=by
 cases d <;> simp only[jI] <;> first|omega|(refine⟨by omega,by omega,fun h=>by omega⟩)
theorem s7 (c:ZX):vZ (Zy c.kind) c 0=XI c:=by
 unfold XI
 cases Zy c.kind <;> rfl
theorem uM (c:ZX)(lv:Bool)(h1:1<=c.mi)(h2:0<=c.ma){mark last sym:Int}(hl : -1<=last)(hm : -1<=mark/\mark<=c.ma+1/\(0<=last->Zn last c.a≠VM lv->mark=0)) :
  JZ lv c (bif mark == -1 then c.ma+1 else mark) (XC sym c.a) (XC (XO last sym) c.a) (decide (last<0)) =
   ((bif iw c mark last sym (VM lv) == -1 then c.ma+1 else iw c mark last sym (VM lv)),yC c last sym&&Zn sym c.a==1-VM lv&&!outside mark c.mi c.ma) /\
  (-1<=iw c mark last sym (VM lv)/\iw c mark last sym (VM lv)<=c.ma+1/\(0<=sym->Zn sym c.a≠VM lv->iw c mark last sym (VM lv)=0)):=by
 obtain⟨m1,m2,m3⟩:=hm;have e1:=G0 lv sym c.a;have e2:=G0 lv (XO last sym) c.a;have b1:=GV sym c.a;have b2:=GV (XO last sym) c.a;have hL:VM lv=0\/VM lv=1:=by cases lv <;> simp[VM]
 unfold JZ iw yC outside;rw[e1,e2];generalize hx:Zn sym c.a=x at *;generalize hL':VM lv=L at *;by_cases hf:last<0
 ·have hw:XO last sym=sym:=by unfold XO;rw[decide_eq_true hf];rfl
  rw[hw,hx] at b2 ⊢;rw[decide_eq_true hf];by_cases jF:x=L
  ·subst jF;have e3:(x==1-x)=false:=by rw[beq_eq_false_iff_ne];omega
   simp[e3];omega
  ·have e3:(x==L)=false:=by simpa using jF
   have e4:(x != L)=true:=by simpa using jF
   simp[e3,e4];omega
 ·have hw:XO last sym=last:=by unfold XO;rw[decide_eq_false hf];rfl
  rw[hw] at b2 ⊢;rw[decide_eq_false hf];generalize hy:Zn last c.a=y at *;by_cases jF:x=L
  ·subst jF;by_cases hyl:y=x
   ·subst hyl;have e3:(y==1-y)=false:=by rw[beq_eq_false_iff_ne];omega
    by_cases ze:mark = -1
    ·subst ze;simp[e3];omega
    ·have e5:(mark == -1)=false:=by simpa using ze
     have e6:decide (mark<0)=false:=decide_eq_false (by omega);have k1:0<=min (mark+1) (c.ma+1)/\min (mark+1) (c.ma+1)<=c.ma+1:=by omega
     simp only[e5,e6,cond_false];generalize min (mark+1) (c.ma+1)=w at *;have e7:(w == -1)=false:=by rw[beq_eq_false_iff_ne];omega
     simp[e3,e7];omega
   ·have jz:=m3 (by omega) hyl;subst jz;have e3:(y==x)=false:=by simpa using hyl
    have e4:(x==1-x)=false:=by rw[beq_eq_false_iff_ne];omega
    have k1:min ((0:Int)+1) (c.ma+1)=1:=by omega
    have e7:((1:Int) == -1)=false:=rfl;have e9:((0:Int) == -1)=false:=rfl;simp only[k1];simp[e3,e4,e7,e9];omega
  ·have e3:(x==L)=false:=by simpa using jF
   have e4:(x != L)=true:=by simpa using jF
   have e8:(x==1-L)=true:=by rw[beq_iff_eq];omega
   have e9:(y==L)=(x != y):=by rw[aj4];simp;omega
   rw[e9];by_cases ze:mark = -1
   ·subst ze;have e5:decide (-1<c.mi)=true:=decide_eq_true (by omega);have e6:¬c.ma+1<=c.ma:=by omega
    simp[e3,e4,e8,e5,e6];omega
   ·have e5:(mark == -1)=false:=by simpa using ze
    have e10:(decide (mark>=c.mi)&&decide (mark<=c.ma))=!(decide (mark<c.mi)||decide (mark>c.ma)):=by
     rw[aj4];simp
    simp only[e5,cond_false];rw[Bool.and_assoc,e10];simp[e3,e4,e8];omega
theorem cq (c:ZX)(last sym:Int):(XC sym c.a != XC (XO last sym) c.a)=yC c last sym:=by
 have b1:=GV sym c.a;have b2:=GV (XO last sym) c.a;unfold XC yC;rcases b1 with h|h <;> rcases b2 with h'|h' <;> rw[h,h'] <;> rfl
theorem nQ (c:ZX)(h1:1<=c.mi){mark last sym:Int}(hm:0<=mark/\mark<=c.mi+1) :
  PI c mark (XC sym c.a) (XC (XO last sym) c.a) (decide (last<0))=IG .idle c mark last sym/\0<=(IG .idle c mark last sym).1/\(IG .idle c mark last sym).1<=c.mi+1:=by
 unfold PI IG;simp only[cq]
 cases decide (last<0)||yC c last sym with
 |true =>
  have:min ((0:Int)+1) (c.mi+1)=1:=by omega
  simp only[cond_true,this];refine⟨by first|rfl|trivial,by omega,by omega⟩
 |false =>
  simp only[cond_false];refine⟨by first|rfl|trivial,by omega,by omega⟩
theorem r8 (c:ZX)(h1:1<=c.mi){mark last sym:Int}(hm:0<=mark/\mark<=c.mi) :
  S6 c (vZ .setup c mark) (XC sym c.a) (XC (XO last sym) c.a) (XC sym c.b) (XC (XO last sym) c.b)=(vZ .setup c (IG .setup c mark last sym).1,(IG .setup c mark last sym).2)/\0<=(IG .setup c mark last sym).1/\(IG .setup c mark last sym).1<=c.mi:=by
 have b2:=GV (XO last sym) c.b;have hb:(!XC (XO last sym) c.b)=(Zn (XO last sym) c.b==0):=by
  unfold XC;rcases b2 with h|h <;> rw[h] <;> rfl
 unfold S6 IG vZ;simp only[cq,hb];have hs:XC sym c.b=(Zn sym c.b==1):=rfl;rw[hs];generalize (Zn sym c.b==1)=p;generalize (Zn (XO last sym) c.b==0)=q
 cases yC c last sym with
 |true =>
  have e1:decide ((1:Int)>0)=true:=rfl;have e2:decide ((0:Int)<c.mi)=true:=decide_eq_true (by omega);have e3:((1:Int)==0)=false:=rfl;simp only[cond_true,cond_false,ajT,ajZ,e1,e2,e3,Bool.and_true,ajF];refine⟨by first|rfl|trivial,by omega,by omega⟩
 |false =>
  simp only[cond_true,cond_false,ajY,ajF];by_cases h0:mark=0
  ·subst h0;have e1:decide ((0:Int)>0)=false:=rfl;have e2:min (c.mi+1) c.mi=c.mi:=by omega
   have e3:decide (c.mi<c.mi)=false:=decide_eq_false (by omega);have e4:((0:Int)==0)=true:=rfl;simp only[e1,e2,e3,e4,cond_true,cond_false,ajZ,Bool.and_false];refine⟨by first|rfl|trivial,by omega,by omega⟩
  ·have e1:decide (mark>0)=true:=decide_eq_true (by omega);have e4:(mark==0)=false:=by simpa using h0
   by_cases h2:mark<c.mi
   ·have e2:min (mark-1+1) c.mi=mark:=by omega
    have e3:decide (mark<c.mi)=true:=decide_eq_true h2;have e5:decide (mark+1>0)=true:=decide_eq_true (by omega);have e6:(mark+1==0)=false:=by rw[beq_eq_false_iff_ne];omega
    have e7:mark+1-1=mark:=by omega
    simp only[e1,e2,e3,e4,e5,e6,e7,cond_true,cond_false,ajF,Bool.and_true];refine⟨by first|rfl|trivial,by omega,by omega⟩
   ·have e2:min (mark-1+1) c.mi=c.mi:=by omega
    have e3:decide (mark<c.mi)=false:=decide_eq_false h2;have e5:decide ((0:Int)>0)=false:=rfl;have e6:((0:Int)==0)=true:=rfl;have e8:decide (c.mi<c.mi)=false:=decide_eq_false (by omega);simp only[e1,e2,e3,e4,e5,e6,e8,cond_true,cond_false,ajF,Bool.and_true,ajZ,Bool.and_false];refine⟨by first|rfl|trivial,by omega,by omega⟩
theorem nP (c:ZX){mark last sym:Int}(hm:0<=mark/\mark<=2/\(0<=last->Zn last c.a=1->mark≠0)) :
  PU (vZ .Um c mark) (XC sym c.a) (XC (XO last sym) c.a) (XC sym c.b) (decide (last<0))=(vZ .Um c (IG .Um c mark last sym).1,(IG .Um c mark last sym).2) /\
  0<=(IG .Um c mark last sym).1/\(IG .Um c mark last sym).1<=2/\(0<=sym->Zn sym c.a=1->(IG .Um c mark last sym).1≠0):=by
 obtain⟨m1,m2,m3⟩:=hm;have b1:=GV sym c.a;have b2:=GV (XO last sym) c.a;have Fh:mark=0\/mark=1\/mark=2:=by omega
 unfold PU IG vZ yC;have hs:XC sym c.b=(Zn sym c.b==1):=rfl;rw[hs];generalize (Zn sym c.b==1)=q;unfold XC;by_cases hf:last<0
 ·have hw:XO last sym=sym:=by unfold XO;rw[decide_eq_true hf];rfl
  rw[hw,decide_eq_true hf];rcases b1 with h|h <;> rw[h] <;> rcases Fh with rfl|rfl|rfl <;> cases q <;> simp
 ·have hw:XO last sym=last:=by unfold XO;rw[decide_eq_false hf];rfl
  rw[hw] at b2 ⊢;rw[decide_eq_false hf];rcases b1 with h|h <;> rw[h] <;> rcases b2 with h'|h' <;> rw[h'] <;> rcases Fh with rfl|rfl|rfl <;> cases q <;> first
   |(exfalso;exact m3 (by omega) h' rfl)
   |simp
theorem nR (c:ZX)(hc:c.wf)(Qa:(Zy c.kind).leaf=true){mark last sym:Int}(hl : -1<=last)(hm:jI (Zy c.kind) c mark last) :
  VU sym (XO last sym) (decide (last<0)) c (vZ (Zy c.kind) c mark)=(vZ (Zy c.kind) c (IG (Zy c.kind) c mark last sym).1,(IG (Zy c.kind) c mark last sym).2)/\jI (Zy c.kind) c (IG (Zy c.kind) c mark last sym).1 sym:=by
 have WY:=hc.Cz;have zi:(YL (Zy c.kind)).mi=true->1<=c.mi:=by
  cases c
  rw[ZX.wf] at hc;exact hc.2.2.2.2.2.2.2.2.2.2.1
 have hss:∀st,(VU sym (XO last sym) false c st).2=(VU (XS [XO last sym,sym] ((1:Nat):Int)) (WE [XO last sym,sym] ((1:Nat):Int)) (((1:Nat):Int)==0) c st).2:=fun st=>rfl
 have uN:=Fy [XO last sym,sym] c hc Qa 1;have h1:XS [XO last sym,sym] ((1:Nat):Int)=sym:=rfl;have h2:WE [XO last sym,sym] ((1:Nat):Int)=XO last sym:=rfl;rw[h1,h2] at uN;unfold VU at uN ⊢
 cases hd:Zy c.kind with
 |Vj =>
  rw[hd] at hm zi;obtain⟨e1,e2⟩:=uM c true (zi rfl) WY.ma.1 hl hm;exact⟨e1,e2⟩
 |gap =>
  rw[hd] at hm zi;obtain⟨e1,e2⟩:=uM c false (zi rfl) WY.ma.1 hl hm;exact⟨e1,e2⟩
 |idle =>
  rw[hd] at hm zi;exact nQ c (zi rfl) hm
 |setup =>
  rw[hd] at hm zi;exact r8 c (zi rfl) hm
 |Um =>
  rw[hd] at hm;exact nP c hm
 |Lv=>rw[hd] at Qa;cases Qa
 |tq=>rw[hd] at Qa;cases Qa
 |I_=>rw[hd] at Qa;cases Qa
 |other=>rw[hd] at Qa;cases Qa
 |_ =>
  rw[hd] at uN hm;have hms:mark=0:=hm;subst hms;have h3:=congrArg Prod.snd uN;exact⟨Prod.ext rfl h3,rfl⟩
mutual
def MS (last sym:Int):ZX->List Int->Bool×List Int×List Int
 |.mk k a b mi ma p nl kids,ms=>bif XJ k then
   (match Zy k with
    |.Lv=>!(Od last sym kids ms.tail).1.any id
    |.I_=>(Od last sym kids ms.tail).1.any id
    |_=>(Od last sym kids ms.tail).1.all id,0::(Od last sym kids ms.tail).2.1,(Od last sym kids ms.tail).2.2)
  else ((IG (Zy k) (.mk k a b mi ma p nl kids) (ms.headD 0) last sym).2,[(IG (Zy k) (.mk k a b mi ma p nl kids) (ms.headD 0) last sym).1],ms.tail)
def Od (last sym:Int):List ZX->List Int->List Bool×List Int×List Int
 |[],ms=>([],[],ms)
 |c::l,ms=>((MS last sym c ms).1::(Od last sym l (MS last sym c ms).2.2).1,(MS last sym c ms).2.1++(Od last sym l (MS last sym c ms).2.2).2.1,(Od last sym l (MS last sym c ms).2.2).2.2)
end
mutual
def Ng:ZX->List Int->List Int
 |.mk k a b mi ma p nl kids,ms=>bif XJ k then KP kids ms.tail else [vZ (Zy k) (.mk k a b mi ma p nl kids) (ms.headD 0)]
def KP:List ZX->List Int->List Int
 |[],_=>[]
 |c::l,ms=>Ng c ms++KP l (ms.drop (leaves c))
end
mutual
def Gz (last:Int):ZX->List Int->Prop
 |.mk k a b mi ma p nl kids,ms=>if XJ k=true then ∃r,ms=0::r/\FP last kids r else ∃m,ms=[m]/\jI (Zy k) (.mk k a b mi ma p nl kids) m last
def FP (last:Int):List ZX->List Int->Prop
 |[],ms=>ms=[]
 |c::l,ms=>∃u v,ms=u++v/\u.length=leaves c/\Gz last c u/\FP last l v
end
theorem ES (now last:Int)(first:Bool):∀(A B:List ZX) (x y:List Int),x.length=A.length->Ye now last first (A++B) (x++y)=Ye now last first A x++Ye now last first B y
 |[],B,[],y,_=>rfl
 |c::A,B,s::x,y,h=>by
  rw[ajz,ajz,Ye,Ye,ES now last first A B x y (by simpa using h)];rfl
theorem K_ (now last:Int)(first:Bool):∀(A B:List ZX) (x y:List Int),x.length=A.length->Yk now last first (A++B) (x++y)=Yk now last first A x++Yk now last first B y
 |[],B,[],y,_=>rfl
 |c::A,B,s::x,y,h=>by
  rw[ajz,ajz,Yk,Yk,K_ now last first A B x y (by simpa using h)];rfl
structure adp (last sym:Int)(c:ZX)(ms:List Int):Prop where
 len:(Ng c ms).length=(Wd c).length
 run:∀rest,∃is own,MS last sym c (ms++rest)=(is,own,rest)/\Gz sym c own/\own.length=leaves c/\Ng c own=Ye sym (XO last sym) (decide (last<0)) (Wd c) (Ng c ms)/\∀H,jd c (Yk sym (XO last sym) (decide (last<0)) (Wd c) (Ng c ms)++H)=is
structure adq (last sym:Int)(l:List ZX)(ms:List Int):Prop where
 len:(KP l ms).length=(ZQ l).length
 run:∀rest,∃bs own,Od last sym l (ms++rest)=(bs,own,rest)/\FP sym l own/\own.length=Zs l/\KP l own=Ye sym (XO last sym) (decide (last<0)) (ZQ l) (KP l ms)/\bs.length=l.length /\
  (∀H s a,uL l (Yk sym (XO last sym) (decide (last<0)) (ZQ l) (KP l ms)++H) s a=(s||bs.any id,a&&bs.all id))/\∀H,outs l (Yk sym (XO last sym) (decide (last<0)) (ZQ l) (KP l ms)++H)=bs
theorem Nf {last:Int}(c:ZX):∀(u v:List Int),Gz last c u->Ng c (u++v)=Ng c u:=by
 induction c using ZX.ind with
 |h k a b mi ma p nl kids ih =>
  intro u v h;rw[Gz] at h;rw[Ng,Ng]
  cases hk:XJ k with
  |true =>
   rw[hk,if_pos rfl] at h;obtain⟨r,rfl,hr⟩:=h;simp only[cond_true,ajz,List.tail_cons];have key:∀(kids:List ZX) (r v:List Int),(∀x∈kids,∀u v,Gz last x u->Ng x (u++v)=Ng x u)->FP last kids r->KP kids (r++v)=KP kids r:=by
    intro kids
    induction kids with
    |nil=>intro r v _ _;rfl
    |cons x kids ih2 =>
     intro r v hx h;rw[FP] at h;obtain⟨u,w,rfl,hu,h1,h2⟩:=h;rw[KP,KP,ajQ,hx x (aba ..) u (w++v) h1,hx x (aba ..) u w h1,<-hu,aj5,aj5,ih2 w v (fun y hy=>hx y (aab _ hy)) h2]
   exact key kids r v ih hr
  |false =>
   rw[hk,if_neg (by decide)] at h;obtain⟨m,rfl,_⟩:=h;rfl
theorem Nc {last sym:Int}:∀(l:List ZX) (ms:List Int),(∀c∈l,∀ms,Gz last c ms->adp last sym c ms)->FP last l ms->adq last sym l ms
 |[],ms,_,h=>by
  rw[FP] at h;subst h;refine⟨rfl,fun rest=>⟨[],[],rfl,by rw[FP],rfl,rfl,rfl,fun H s a=>?_,fun H=>rfl⟩⟩;rw[uL];simp
 |c::l,ms,hc,h=>by
  rw[FP] at h;obtain⟨u,v,rfl,hu,h1,h2⟩:=h;obtain⟨A4,aal⟩:=hc c (aba ..) u h1;obtain⟨agA,agB⟩:=Nc l v (fun x hx=>hc x (aab _ hx)) h2;have hpr:KP (c::l) (u++v)=Ng c u++KP l v:=by
   rw[KP,Nf c u v h1,<-hu,aj5]
  have pn:ZQ (c::l)=Wd c++ZQ l:=by rw[ZQ]
  refine⟨by rw[hpr,pn,ajh,ajh,A4,agA],fun rest=>?_⟩;obtain⟨is,own,e1,k1,k2,k3,k4⟩:=aal (v++rest);obtain⟨bs,aam,e2,m1,m2,m3,m4,m5,m6⟩:=agB rest;refine⟨is::bs,own++aam,?_,?_,?_,?_,by simp[m4],fun H s a=>?_,fun H=>?_⟩
  ·rw[Od,ajQ,e1];simp only[e2]
  ·rw[FP];exact⟨own,aam,rfl,k2,k1,m1⟩
  ·rw[ajh,k2,m2,Zs]
  ·rw[hpr,pn,ES _ _ _ _ _ _ _ A4,<-k3,<-m3,KP,Nf c own aam k1,<-k2,aj5]
  ·rw[hpr,pn,K_ _ _ _ _ _ _ _ A4,ajQ,uL,k4];have hd:(Yk sym (XO last sym) (decide (last<0)) (Wd c) (Ng c u)).length=(Wd c).length:=Rf _ _ _ _ _ A4;rw[<-hd,aj5,m5];simp[Bool.or_assoc,Bool.and_assoc]
  ·rw[hpr,pn,K_ _ _ _ _ _ _ _ A4,ajQ,outs,k4];have hd:(Yk sym (XO last sym) (decide (last<0)) (Wd c) (Ng c u)).length=(Wd c).length:=Rf _ _ _ _ _ A4;rw[<-hd,aj5,m6]
theorem vX {last sym:Int}(hl : -1<=last):∀c:ZX,c.wf->∀ms,Gz last c ms->adp last sym c ms:=by
 intro c
 induction c using ZX.ind with
 |h k a b mi ma p nl kids ih =>
  intro QZ ms h;have RT:∀x∈kids,x.wf:=by
   rw[ZX.wf] at QZ;exact QZ.2.2.2.2.2.2.2.2.2.2.2.2
  rw[Gz] at h
  cases hk:XJ k with
  |true =>
   rw[hk,if_pos rfl] at h;obtain⟨r,rfl,hr⟩:=h;obtain⟨A4,aal⟩:=Nc kids r (fun x hx ms hm=>ih x hx (RT x hx) ms hm) hr;have e1:Ng (.mk k a b mi ma p nl kids) (0::r)=KP kids r:=by rw[Ng,hk];rfl
   have e2:Wd (.mk k a b mi ma p nl kids)=ZQ kids:=by rw[Wd,hk];rfl
   refine⟨by rw[e1,e2,A4],fun rest=>?_⟩;obtain⟨bs,own,q1,q2,q3,q4,q5,q6,q7⟩:=aal rest;refine⟨_,0::own,by rw[MS,hk,cond_true,ajz,List.tail_cons,q1],?_,?_,?_,fun H=>?_⟩
   ·rw[Gz,hk,if_pos rfl];exact⟨own,rfl,q2⟩
   ·rw[leaves];simp[q3]
   ·rw[e1,e2,Ng,hk,cond_true,List.tail_cons];exact q4
   ·rw[e1,e2,jd,hk,cond_true,q6]
    cases Zy k <;> simp
  |false =>
   rw[hk,if_neg (by decide)] at h;obtain⟨m,rfl,hm⟩:=h;have Qa:(Zy k).leaf=true:=by
    have:=QV QZ;rw[hk] at this;have Ct:(Zy k).known=true:=by rw[ZX.wf] at QZ;exact QZ.2.2.2.2.2.2.1
    generalize Zy k=d at *
    cases d <;> first|rfl|(simp[YL] at this;done)|(simp[Kd.known] at Ct;done)
   obtain⟨b1,b2⟩:=nR (.mk k a b mi ma p nl kids) QZ Qa (sym:=sym) hl hm;rw[show (ZX.mk k a b mi ma p nl kids).kind=k from rfl] at b1 b2;have e1:∀x,Ng (.mk k a b mi ma p nl kids) [x]=[vZ (Zy k) (.mk k a b mi ma p nl kids) x]:=fun x=>by rw[Ng,hk];rfl
   have e2:Wd (.mk k a b mi ma p nl kids)=[.mk k a b mi ma p nl kids]:=by rw[Wd,hk];rfl
   have Ct:kids=[]:=by
    have:=QV QZ;rw[hk] at this;rw[ZX.wf] at QZ;exact QZ.2.2.2.2.2.2.2.2.1 this.symm
   refine⟨by rw[e1,e2];rfl,fun rest=>⟨_,_,by rw[MS,hk];rfl,?_,?_,?_,fun H=>?_⟩⟩
   ·rw[Gz,hk,if_neg (by decide)];exact⟨_,rfl,b2⟩
   ·rw[leaves,Ct];rfl
   ·rw[e1,e1,e2,Ye,b1];rfl
   ·rw[e1,e2,Yk,b1,jd,hk];rfl
end Go.Am
namespace Go.Am
open Go
def Yv:List Nat->Nat
 |[]=>1
 |b::bs=>b*Yv bs
def Ka:List Nat->List Nat->Nat
 |b::bs,d::ds=>d+b*Ka bs ds
 |_,_=>0
def Vd:List Nat->List Nat->Prop
 |[],[]=>True
 |b::bs,d::ds=>d<b/\Vd bs ds
 |_,_=>False
theorem D4:∀(bs ds:List Nat),Vd bs ds->Ka bs ds<Yv bs
 |[],[],_=>Nat.one_pos
 |b::bs,d::ds,h=>by
  rw[Vd] at h;have:=D4 bs ds h.2;rw[Ka,Yv];have h2:b*(Ka bs ds+1)<=b*Yv bs:=Nat.mul_le_mul_left b this;rw[Nat.mul_add,ajj] at h2;omega
 |[],d::ds,h=>by simp[Vd] at h
 |b::bs,[],h=>by simp[Vd] at h
theorem Jf:∀(bs ds es:List Nat),Vd bs ds->Vd bs es->Ka bs ds=Ka bs es->ds=es
 |[],[],[],_,_,_=>rfl
 |b::bs,d::ds,x::es,h,h',e=>by
  rw[Vd] at h h';rw[Ka,Ka] at e;have hb:0<b:=by omega
  have e1:d=x:=by
   have:=congrArg (·%b) e;simp only[Nat.add_mul_mod_self_left,Nat.mod_eq_of_lt h.1,Nat.mod_eq_of_lt h'.1] at this;exact this
  subst e1;have e2:Ka bs ds=Ka bs es:=Nat.eq_of_mul_eq_mul_left hb (by omega);rw[Jf bs ds es h.2 h'.2 e2]
 |[],d::ds,_,h,_,_=>by simp[Vd] at h
 |[],[],x::es,_,h,_=>by simp[Vd] at h
 |b::bs,[],_,h,_,_=>by simp[Vd] at h
 |b::bs,d::ds,[],_,h,_=>by simp[Vd] at h
theorem Jh:∀(bs ds cs es:List Nat),Vd bs ds->Vd cs es->Vd (bs++cs) (ds++es)
 |[],[],_,_,_,h=>h
 |b::bs,d::ds,cs,es,h,h'=>by
  rw[Vd] at h;rw[ajz,ajz,Vd];exact⟨h.1,Jh bs ds cs es h.2 h'⟩
 |[],d::ds,_,_,h,_=>by simp[Vd] at h
 |b::bs,[],_,_,h,_=>by simp[Vd] at h
theorem RR:∀(bs cs:List Nat),Yv (bs++cs)=Yv bs*Yv cs
 |[],cs=>by simp[Yv]
 |b::bs,cs=>by rw[ajz,Yv,Yv,RR bs cs,Nat.mul_assoc]
def VC:List Step->Nat
 |[]=>0
 |s::S=>s.times.toNat*(s.within.toNat+1)+VC S
def SG:List Step->Nat->Nat->Nat->Nat
 |[],_,_,_=>0
 |s::_,0,k,g=>k*(s.within.toNat+1)+g
 |s::S,a+1,k,g=>s.times.toNat*(s.within.toNat+1)+SG S a k g
def J':List Step->Nat->Nat->Nat->Prop
 |[],_,_,_=>False
 |s::_,0,k,g=>k<s.times.toNat/\g<=s.within.toNat
 |_::S,a+1,k,g=>J' S a k g
theorem QY:∀(S:List Step) (a k g:Nat),J' S a k g->SG S a k g<VC S
 |[],_,_,_,h=>by simp[J'] at h
 |s::S,0,k,g,h=>by
  rw[J'] at h;rw[SG,VC];have h2:(k+1)*(s.within.toNat+1)<=s.times.toNat*(s.within.toNat+1):=aj7 _ h.1;rw[Nat.succ_mul] at h2;omega
 |s::S,a+1,k,g,h=>by
  have:=QY S a k g h;rw[SG,VC];omega
theorem Je:∀(S:List Step) (a k g a' k' g':Nat),J' S a k g->J' S a' k' g'->SG S a k g=SG S a' k' g'->a=a'/\k=k'/\g=g'
 |[],_,_,_,_,_,_,h,_,_=>by simp[J'] at h
 |s::S,0,k,g,0,k',g',h,h',e=>by
  rw[J'] at h h';rw[SG,SG] at e;refine⟨rfl,?_⟩;have e1:k=k':=by
   have:=congrArg (· / (s.within.toNat+1)) e;simp only[Nat.mul_comm _ (s.within.toNat+1),Nat.mul_add_div (Nat.succ_pos _),Nat.div_eq_of_lt (show g<s.within.toNat+1 by omega),Nat.div_eq_of_lt (show g'<s.within.toNat+1 by omega),Nat.add_zero] at this;exact this
  subst e1;exact⟨rfl,by omega⟩
 |s::S,0,k,g,a'+1,k',g',h,h',e=>by
  have:=QY [s] 0 k g h;rw[SG,SG] at e;rw[SG,VC,VC] at this;omega
 |s::S,a+1,k,g,0,k',g',h,h',e=>by
  have:=QY [s] 0 k' g' h';rw[SG,SG] at e;rw[SG,VC,VC] at this;omega
 |s::S,a+1,k,g,a'+1,k',g',h,h',e=>by
  rw[SG,SG] at e;obtain⟨e1,e2⟩:=Je S a k g a' k' g' h h' (by omega);exact⟨by rw[e1],e2⟩
end Go.Am
