/- A part of the proof of a statement of this seat: the machine on which the program is read, and what it computes; for every input. -/
import Derived.Test.YtikiipfbkfgmbaaGreatDoorZ23
import Derived.Test.YtikiipfbkfgmbaaGreatDoorZ04
set_option linter.all false
namespace Go.Am
open Go
variable [Z4]
set_option maxRecDepth 100000
set_option maxHeartbeats 4000000
def Yv (last sym:Int):Int:=bif decide (last<0) then sym else last
def mJ (c:Z5)(mark last sym Og:Int):Int:=bif Zy sym c.a != Og then 0 else bif decide (last<0)||decide (mark<0) then -1 else min (mark+1) (c.ma+1)
def Cl (c:Z5)(last sym:Int):Bool:=Zy sym c.a != Zy (Yv last sym) c.a
def Qs (d:Kd)(c:Z5)(mark last sym:Int):Int×Bool:=match d with
 |.Vj=>(mJ c mark last sym 1,Cl c last sym&&Zy sym c.a==0&&!outside mark c.mi c.ma)
 |.gap=>(mJ c mark last sym 0,Cl c last sym&&Zy sym c.a==1&&!outside mark c.mi c.ma)
 |.idle =>
  let n:=bif decide (last<0)||Cl c last sym then 1 else min (mark+1) (c.mi+1)
  (n,n==c.mi)
 |.setup =>
  let n:=bif !Cl c last sym&&decide (mark>0)&&decide (mark<c.mi) then mark+1 else bif Cl c last sym then 1 else 0
  (n,decide (n>0)&&Zy sym c.b==1&&Zy (Yv last sym) c.b==0)
 |.Uf =>
  let n:=bif Zy sym c.a==0 then 0 else bif decide (last<0)||Zy sym c.b==1 then 2 else bif Cl c last sym then 1 else mark
  (n,Cl c last sym&&Zy sym c.a==0&&mark==1)
 |_=>(0,atR [Yv last sym,sym] 1 c)
def tW (d:Kd)(c:Z5)(mark:Int):Int:=match d with
 |.Vj|.gap=>bif mark == -1 then c.ma+1 else mark
 |.idle=>mark
 |.setup=>bif mark==0 then c.mi else mark-1
 |.Uf=>bif mark==1 then 2 else bif mark==2 then 1 else 0
 |_=>0
def xA (d:Kd)(c:Z5)(mark last:Int):Prop:=match d with
 |.Vj => -1<=mark/\mark<=c.ma+1/\(0<=last->Zy last c.a≠1->mark=0)
 |.gap => -1<=mark/\mark<=c.ma+1/\(0<=last->Zy last c.a≠0->mark=0)
 |.idle=>0<=mark/\mark<=c.mi+1
 |.setup=>0<=mark/\mark<=c.mi
 |.Uf=>0<=mark/\mark<=2/\(0<=last->Zy last c.a=1->mark≠0)
 |_=>mark=0
theorem Fq (n k:Int):Zy n k=0\/Zy n k=1:=by unfold Zy;omega
theorem rn (d:Kd)(c:Z5)(h1:0<=c.mi)(h2:0<=c.ma):xA d c 0 (-1):=by
 cases d <;> simp only[xA] <;> first|omega|(refine⟨by omega,by omega,fun h=>by omega⟩)
theorem rm (c:Z5):tW (ZF c.kind) c 0=VW c:=by
 unfold VW
 cases ZF c.kind <;> rfl
theorem sS (c:Z5)(lv:Bool)(h1:1<=c.mi)(h2:0<=c.ma){mark last sym:Int}(hl : -1<=last)(hm : -1<=mark/\mark<=c.ma+1/\(0<=last->Zy last c.a≠Vp lv->mark=0)) :
  Fw lv c (bif mark == -1 then c.ma+1 else mark) (WR sym c.a) (WR (Yv last sym) c.a) (decide (last<0)) =
   ((bif mJ c mark last sym (Vp lv) == -1 then c.ma+1 else mJ c mark last sym (Vp lv)),Cl c last sym&&Zy sym c.a==1-Vp lv&&!outside mark c.mi c.ma) /\
  (-1<=mJ c mark last sym (Vp lv)/\mJ c mark last sym (Vp lv)<=c.ma+1/\(0<=sym->Zy sym c.a≠Vp lv->mJ c mark last sym (Vp lv)=0)):=by
 obtain⟨m1,m2,m3⟩:=hm;have e1:=Fx lv sym c.a;have e2:=Fx lv (Yv last sym) c.a;have b1:=Fq sym c.a;have b2:=Fq (Yv last sym) c.a;have hL:Vp lv=0\/Vp lv=1:=by cases lv <;> simp[Vp]
 unfold Fw mJ Cl outside;rw[e1,e2];generalize hx:Zy sym c.a=x at *;generalize hL':Vp lv=L at *;by_cases hf:last<0
 ·have hw:Yv last sym=sym:=by unfold Yv;rw[decide_eq_true hf];rfl
  rw[hw,hx] at b2 ⊢;rw[decide_eq_true hf];by_cases gg:x=L
  ·subst gg;have e3:(x==1-x)=false:=by rw[beq_eq_false_iff_ne];omega
   simp[e3];omega
  ·have e3:(x==L)=false:=by simpa using gg
   have e4:(x != L)=true:=by simpa using gg
   simp[e3,e4];omega
 ·have hw:Yv last sym=last:=by unfold Yv;rw[decide_eq_false hf];rfl
  rw[hw] at b2 ⊢;rw[decide_eq_false hf];generalize hy:Zy last c.a=y at *;by_cases gg:x=L
  ·subst gg;by_cases hyl:y=x
   ·subst hyl;have e3:(y==1-y)=false:=by rw[beq_eq_false_iff_ne];omega
    by_cases Be:mark = -1
    ·subst Be;simp[e3];omega
    ·have e5:(mark == -1)=false:=by simpa using Be
     have e6:decide (mark<0)=false:=decide_eq_false (by omega);have k1:0<=min (mark+1) (c.ma+1)/\min (mark+1) (c.ma+1)<=c.ma+1:=by omega
     simp only[e5,e6,cond_false];generalize min (mark+1) (c.ma+1)=w at *;have e7:(w == -1)=false:=by rw[beq_eq_false_iff_ne];omega
     simp[e3,e7];omega
   ·have oq:=m3 (by omega) hyl;subst oq;have e3:(y==x)=false:=by simpa using hyl
    have e4:(x==1-x)=false:=by rw[beq_eq_false_iff_ne];omega
    have k1:min ((0:Int)+1) (c.ma+1)=1:=by omega
    have e7:((1:Int) == -1)=false:=rfl;have e9:((0:Int) == -1)=false:=rfl;simp only[k1];simp[e3,e4,e7,e9];omega
  ·have e3:(x==L)=false:=by simpa using gg
   have e4:(x != L)=true:=by simpa using gg
   have e8:(x==1-L)=true:=by rw[beq_iff_eq];omega
   have e9:(y==L)=(x != y):=by rw[amj];simp;omega
   rw[e9];by_cases Be:mark = -1
   ·subst Be;have e5:decide (-1<c.mi)=true:=decide_eq_true (by omega);have e6:¬c.ma+1<=c.ma:=by omega
    simp[e3,e4,e8,e5,e6];omega
   ·have e5:(mark == -1)=false:=by simpa using Be
    have e10:(decide (mark>=c.mi)&&decide (mark<=c.ma))=!(decide (mark<c.mi)||decide (mark>c.ma)):=by
     rw[amj];simp
    simp only[e5,cond_false];rw[Bool.and_assoc,e10];simp[e3,e4,e8];omega
theorem aaD (c:Z5)(last sym:Int):(WR sym c.a != WR (Yv last sym) c.a)=Cl c last sym:=by
 have b1:=Fq sym c.a;have b2:=Fq (Yv last sym) c.a;unfold WR Cl;rcases b1 with h|h <;> rcases b2 with h'|h' <;> rw[h,h'] <;> rfl
theorem lz (c:Z5)(h1:1<=c.mi){mark last sym:Int}(hm:0<=mark/\mark<=c.mi+1) :
  MG c mark (WR sym c.a) (WR (Yv last sym) c.a) (decide (last<0))=Qs .idle c mark last sym/\0<=(Qs .idle c mark last sym).1/\(Qs .idle c mark last sym).1<=c.mi+1:=by
 unfold MG Qs;simp only[aaD]
 cases decide (last<0)||Cl c last sym with
 |true =>
  have:min ((0:Int)+1) (c.mi+1)=1:=by omega
  simp only[cond_true,this];refine⟨by first|rfl|trivial,by omega,by omega⟩
 |false =>
  simp only[cond_false];refine⟨by first|rfl|trivial,by omega,by omega⟩
theorem qv (c:Z5)(h1:1<=c.mi){mark last sym:Int}(hm:0<=mark/\mark<=c.mi) :
  QT c (tW .setup c mark) (WR sym c.a) (WR (Yv last sym) c.a) (WR sym c.b) (WR (Yv last sym) c.b)=(tW .setup c (Qs .setup c mark last sym).1,(Qs .setup c mark last sym).2)/\0<=(Qs .setup c mark last sym).1/\(Qs .setup c mark last sym).1<=c.mi:=by
 have b2:=Fq (Yv last sym) c.b;have hb:(!WR (Yv last sym) c.b)=(Zy (Yv last sym) c.b==0):=by
  unfold WR;rcases b2 with h|h <;> rw[h] <;> rfl
 unfold QT Qs tW;simp only[aaD,hb];have hs:WR sym c.b=(Zy sym c.b==1):=rfl;rw[hs];generalize (Zy sym c.b==1)=p;generalize (Zy (Yv last sym) c.b==0)=q
 cases Cl c last sym with
 |true =>
  have e1:decide ((1:Int)>0)=true:=rfl;have e2:decide ((0:Int)<c.mi)=true:=decide_eq_true (by omega);have e3:((1:Int)==0)=false:=rfl;simp only[cond_true,cond_false,ama,amq,e1,e2,e3,Bool.and_true,al9];refine⟨by first|rfl|trivial,by omega,by omega⟩
 |false =>
  simp only[cond_false,amp,al9];by_cases h0:mark=0
  ·subst h0;have e1:decide ((0:Int)>0)=false:=rfl;have e2:min (c.mi+1) c.mi=c.mi:=by omega
   have e3:decide (c.mi<c.mi)=false:=decide_eq_false (by omega);have e4:((0:Int)==0)=true:=rfl;simp only[e1,e2,e3,e4,cond_true,cond_false,amq,Bool.and_false];refine⟨by first|rfl|trivial,by omega,by omega⟩
  ·have e1:decide (mark>0)=true:=decide_eq_true (by omega);have e4:(mark==0)=false:=by simpa using h0
   by_cases h2:mark<c.mi
   ·have e2:min (mark-1+1) c.mi=mark:=by omega
    have e3:decide (mark<c.mi)=true:=decide_eq_true h2;have e5:decide (mark+1>0)=true:=decide_eq_true (by omega);have e6:(mark+1==0)=false:=by rw[beq_eq_false_iff_ne];omega
    have e7:mark+1-1=mark:=by omega
    simp only[e1,e2,e3,e4,e5,e6,e7,cond_true,cond_false,al9,Bool.and_true];refine⟨by first|rfl|trivial,by omega,by omega⟩
   ·have e2:min (mark-1+1) c.mi=c.mi:=by omega
    have e3:decide (mark<c.mi)=false:=decide_eq_false h2;have e5:decide ((0:Int)>0)=false:=rfl;have e6:((0:Int)==0)=true:=rfl;have e8:decide (c.mi<c.mi)=false:=decide_eq_false (by omega);simp only[e1,e2,e3,e4,e5,e6,e8,cond_true,cond_false,amq,Bool.and_false];refine⟨by first|rfl|trivial,by omega,by omega⟩
theorem ly (c:Z5){mark last sym:Int}(hm:0<=mark/\mark<=2/\(0<=last->Zy last c.a=1->mark≠0)) :
  MU (tW .Uf c mark) (WR sym c.a) (WR (Yv last sym) c.a) (WR sym c.b) (decide (last<0))=(tW .Uf c (Qs .Uf c mark last sym).1,(Qs .Uf c mark last sym).2) /\
  0<=(Qs .Uf c mark last sym).1/\(Qs .Uf c mark last sym).1<=2/\(0<=sym->Zy sym c.a=1->(Qs .Uf c mark last sym).1≠0):=by
 obtain⟨m1,m2,m3⟩:=hm;have b1:=Fq sym c.a;have b2:=Fq (Yv last sym) c.a;have OG:mark=0\/mark=1\/mark=2:=by omega
 unfold MU Qs tW Cl;have hs:WR sym c.b=(Zy sym c.b==1):=rfl;rw[hs];generalize (Zy sym c.b==1)=q;unfold WR;by_cases hf:last<0
 ·have hw:Yv last sym=sym:=by unfold Yv;rw[decide_eq_true hf];rfl
  rw[hw,decide_eq_true hf];rcases b1 with h|h <;> rw[h] <;> rcases OG with rfl|rfl|rfl <;> cases q <;> simp
 ·have hw:Yv last sym=last:=by unfold Yv;rw[decide_eq_false hf];rfl
  rw[hw] at b2 ⊢;rw[decide_eq_false hf];rcases b1 with h|h <;> rw[h] <;> rcases b2 with h'|h' <;> rw[h'] <;> rcases OG with rfl|rfl|rfl <;> cases q <;> first
   |(exfalso;exact m3 (by omega) h' rfl)
   |simp
theorem lA (c:Z5)(hc:c.wf)(Tk:(ZF c.kind).leaf=true){mark last sym:Int}(hl : -1<=last)(hm:xA (ZF c.kind) c mark last) :
  Vx sym (Yv last sym) (decide (last<0)) c (tW (ZF c.kind) c mark)=(tW (ZF c.kind) c (Qs (ZF c.kind) c mark last sym).1,(Qs (ZF c.kind) c mark last sym).2)/\xA (ZF c.kind) c (Qs (ZF c.kind) c mark last sym).1 sym:=by
 have Xz:=hc.A9;have Bi:(YQ (ZF c.kind)).mi=true->1<=c.mi:=by
  cases c
  rw[Z5.wf] at hc;exact hc.2.2.2.2.2.2.2.2.2.2.1
 have hss:∀st,(Vx sym (Yv last sym) false c st).2=(Vx (Xg [Yv last sym,sym] ((1:Nat):Int)) (QS [Yv last sym,sym] ((1:Nat):Int)) (((1:Nat):Int)==0) c st).2:=fun st=>rfl
 have sU:=ri [Yv last sym,sym] c hc Tk 1;have h1:Xg [Yv last sym,sym] ((1:Nat):Int)=sym:=rfl;have h2:QS [Yv last sym,sym] ((1:Nat):Int)=Yv last sym:=rfl;rw[h1,h2] at sU;unfold Vx at sU ⊢
 cases hd:ZF c.kind with
 |Vj =>
  rw[hd] at hm Bi;obtain⟨e1,e2⟩:=sS c true (Bi rfl) Xz.ma.1 hl hm;exact⟨e1,e2⟩
 |gap =>
  rw[hd] at hm Bi;obtain⟨e1,e2⟩:=sS c false (Bi rfl) Xz.ma.1 hl hm;exact⟨e1,e2⟩
 |idle =>
  rw[hd] at hm Bi;exact lz c (Bi rfl) hm
 |setup =>
  rw[hd] at hm Bi;exact qv c (Bi rfl) hm
 |Uf =>
  rw[hd] at hm;exact ly c hm
 |QG=>rw[hd] at Tk;cases Tk
 |EU=>rw[hd] at Tk;cases Tk
 |OV=>rw[hd] at Tk;cases Tk
 |other=>rw[hd] at Tk;cases Tk
 |_ =>
  rw[hd] at sU hm;have hms:mark=0:=hm;subst hms;have h3:=congrArg Prod.snd sU;exact⟨Prod.ext rfl h3,rfl⟩
mutual
def RX (last sym:Int):Z5->List Int->Bool×List Int×List Int
 |.mk k a b mi ma p nl kids,ms=>bif XD k then
   (match ZF k with
    |.QG=>!(U0 last sym kids ms.tail).1.any id
    |.OV=>(U0 last sym kids ms.tail).1.any id
    |_=>(U0 last sym kids ms.tail).1.all id,0::(U0 last sym kids ms.tail).2.1,(U0 last sym kids ms.tail).2.2)
  else ((Qs (ZF k) (.mk k a b mi ma p nl kids) (ms.headD 0) last sym).2,[(Qs (ZF k) (.mk k a b mi ma p nl kids) (ms.headD 0) last sym).1],ms.tail)
def U0 (last sym:Int):List Z5->List Int->List Bool×List Int×List Int
 |[],ms=>([],[],ms)
 |c::l,ms=>((RX last sym c ms).1::(U0 last sym l (RX last sym c ms).2.2).1,(RX last sym c ms).2.1++(U0 last sym l (RX last sym c ms).2.2).2.1,(U0 last sym l (RX last sym c ms).2.2).2.2)
end
mutual
def LO:Z5->List Int->List Int
 |.mk k a b mi ma p nl kids,ms=>bif XD k then Jp kids ms.tail else [tW (ZF k) (.mk k a b mi ma p nl kids) (ms.headD 0)]
def Jp:List Z5->List Int->List Int
 |[],_=>[]
 |c::l,ms=>LO c ms++Jp l (ms.drop (leaves c))
end
mutual
def Km (last:Int):Z5->List Int->Prop
 |.mk k a b mi ma p nl kids,ms=>if XD k=true then ∃r,ms=0::r/\MF last kids r else ∃m,ms=[m]/\xA (ZF k) (.mk k a b mi ma p nl kids) m last
def MF (last:Int):List Z5->List Int->Prop
 |[],ms=>ms=[]
 |c::l,ms=>∃u v,ms=u++v/\u.length=leaves c/\Km last c u/\MF last l v
end
theorem Dy (now last:Int)(first:Bool):∀(A B:List Z5) (x y:List Int),x.length=A.length->WN now last first (A++B) (x++y)=WN now last first A x++WN now last first B y
 |[],B,[],y,_=>rfl
 |c::A,B,s::x,y,h=>by
  rw[alU,alU,WN,WN,Dy now last first A B x y (by simpa using h)];rfl
theorem JM (now last:Int)(first:Bool):∀(A B:List Z5) (x y:List Int),x.length=A.length->Xu now last first (A++B) (x++y)=Xu now last first A x++Xu now last first B y
 |[],B,[],y,_=>rfl
 |c::A,B,s::x,y,h=>by
  rw[alU,alU,Xu,Xu,JM now last first A B x y (by simpa using h)];rfl
structure dZ (last sym:Int)(c:Z5)(ms:List Int):Prop where
 len:(LO c ms).length=(Ve c).length
 run:∀rest,∃is own,RX last sym c (ms++rest)=(is,own,rest)/\Km sym c own/\own.length=leaves c/\LO c own=WN sym (Yv last sym) (decide (last<0)) (Ve c) (LO c ms)/\∀H,jd c (Xu sym (Yv last sym) (decide (last<0)) (Ve c) (LO c ms)++H)=is
structure aeA (last sym:Int)(l:List Z5)(ms:List Int):Prop where
 len:(Jp l ms).length=(ZJ l).length
 run:∀rest,∃bs own,U0 last sym l (ms++rest)=(bs,own,rest)/\MF sym l own/\own.length=ZS l/\Jp l own=WN sym (Yv last sym) (decide (last<0)) (ZJ l) (Jp l ms)/\bs.length=l.length /\
  (∀H s a,lx l (Xu sym (Yv last sym) (decide (last<0)) (ZJ l) (Jp l ms)++H) s a=(s||bs.any id,a&&bs.all id))/\∀H,outs l (Xu sym (Yv last sym) (decide (last<0)) (ZJ l) (Jp l ms)++H)=bs
theorem LN {last:Int}(c:Z5):∀(u v:List Int),Km last c u->LO c (u++v)=LO c u:=by
 induction c using Z5.ind with
 |h k a b mi ma p nl kids ih =>
  intro u v h;rw[Km] at h;rw[LO,LO]
  cases hk:XD k with
  |true =>
   rw[hk,if_pos rfl] at h;obtain⟨r,rfl,hr⟩:=h;simp only[cond_true,alU,List.tail_cons];have key:∀(kids:List Z5) (r v:List Int),(∀x∈kids,∀u v,Km last x u->LO x (u++v)=LO x u)->MF last kids r->Jp kids (r++v)=Jp kids r:=by
    intro kids
    induction kids with
    |nil=>intro r v _ _;rfl
    |cons x kids ih2 =>
     intro r v hx h;rw[MF] at h;obtain⟨u,w,rfl,hu,h1,h2⟩:=h;rw[Jp,Jp,alS,hx x (aba ..) u (w++v) h1,hx x (aba ..) u w h1,<-hu,amy,amy,ih2 w v (fun y hy=>hx y (aab _ hy)) h2]
   exact key kids r v ih hr
  |false =>
   rw[hk,if_neg (by decide)] at h;obtain⟨m,rfl,_⟩:=h;rfl
theorem QH {last sym:Int}:∀(l:List Z5) (ms:List Int),(∀c∈l,∀ms,Km last c ms->dZ last sym c ms)->MF last l ms->aeA last sym l ms
 |[],ms,_,h=>by
  rw[MF] at h;subst h;refine⟨rfl,fun rest=>⟨[],[],rfl,by rw[MF],rfl,rfl,rfl,fun H s a=>?_,fun H=>rfl⟩⟩;rw[lx];simp
 |c::l,ms,hc,h=>by
  rw[MF] at h;obtain⟨u,v,rfl,hu,h1,h2⟩:=h;obtain⟨BT,lu⟩:=hc c (aba ..) u h1;obtain⟨aiq,air⟩:=QH l v (fun x hx=>hc x (aab _ hx)) h2;have hpr:Jp (c::l) (u++v)=LO c u++Jp l v:=by
   rw[Jp,LN c u v h1,<-hu,amy]
  have MZ:ZJ (c::l)=Ve c++ZJ l:=by rw[ZJ]
  refine⟨by rw[hpr,MZ,agy,agy,BT,aiq],fun rest=>?_⟩;obtain⟨is,own,e1,k1,k2,k3,k4⟩:=lu (v++rest);obtain⟨bs,abx,e2,m1,m2,m3,m4,m5,m6⟩:=air rest;refine⟨is::bs,own++abx,?_,?_,?_,?_,by simp[m4],fun H s a=>?_,fun H=>?_⟩
  ·rw[U0,alS,e1];simp only[e2]
  ·rw[MF];exact⟨own,abx,rfl,k2,k1,m1⟩
  ·rw[agy,k2,m2,ZS]
  ·rw[hpr,MZ,Dy _ _ _ _ _ _ _ BT,<-k3,<-m3,Jp,LN c own abx k1,<-k2,amy]
  ·rw[hpr,MZ,JM _ _ _ _ _ _ _ BT,alS,lx,k4];have hd:(Xu sym (Yv last sym) (decide (last<0)) (Ve c) (LO c u)).length=(Ve c).length:=Qg _ _ _ _ _ BT;rw[<-hd,amy,m5];simp[Bool.or_assoc,Bool.and_assoc]
  ·rw[hpr,MZ,JM _ _ _ _ _ _ _ BT,alS,outs,k4];have hd:(Xu sym (Yv last sym) (decide (last<0)) (Ve c) (LO c u)).length=(Ve c).length:=Qg _ _ _ _ _ BT;rw[<-hd,amy,m6]
theorem PS {last sym:Int}(hl : -1<=last):∀c:Z5,c.wf->∀ms,Km last c ms->dZ last sym c ms:=by
 intro c
 induction c using Z5.ind with
 |h k a b mi ma p nl kids ih =>
  intro S3 ms h;have QJ:∀x∈kids,x.wf:=by
   rw[Z5.wf] at S3;exact S3.2.2.2.2.2.2.2.2.2.2.2.2
  rw[Km] at h
  cases hk:XD k with
  |true =>
   rw[hk,if_pos rfl] at h;obtain⟨r,rfl,hr⟩:=h;obtain⟨BT,lu⟩:=QH kids r (fun x hx ms hm=>ih x hx (QJ x hx) ms hm) hr;have e1:LO (.mk k a b mi ma p nl kids) (0::r)=Jp kids r:=by rw[LO,hk];rfl
   have e2:Ve (.mk k a b mi ma p nl kids)=ZJ kids:=by rw[Ve,hk];rfl
   refine⟨by rw[e1,e2,BT],fun rest=>?_⟩;obtain⟨bs,own,q1,q2,q3,q4,q5,q6,q7⟩:=lu rest;refine⟨_,0::own,by rw[RX,hk,cond_true,alU,List.tail_cons,q1],?_,?_,?_,fun H=>?_⟩
   ·rw[Km,hk,if_pos rfl];exact⟨own,rfl,q2⟩
   ·rw[leaves];simp[q3]
   ·rw[e1,e2,LO,hk,cond_true,List.tail_cons];exact q4
   ·rw[e1,e2,jd,hk,cond_true,q6]
    cases ZF k <;> simp
  |false =>
   rw[hk,if_neg (by decide)] at h;obtain⟨m,rfl,hm⟩:=h;have Tk:(ZF k).leaf=true:=by
    have:=Rf S3;rw[hk] at this;have Cn:(ZF k).known=true:=by rw[Z5.wf] at S3;exact S3.2.2.2.2.2.2.1
    generalize ZF k=d at *
    cases d <;> first|rfl|(simp[YQ] at this;done)|(simp[Kd.known] at Cn;done)
   obtain⟨b1,b2⟩:=lA (.mk k a b mi ma p nl kids) S3 Tk (sym:=sym) hl hm;rw[show (Z5.mk k a b mi ma p nl kids).kind=k from rfl] at b1 b2;have e1:∀x,LO (.mk k a b mi ma p nl kids) [x]=[tW (ZF k) (.mk k a b mi ma p nl kids) x]:=fun x=>by rw[LO,hk];rfl
   have e2:Ve (.mk k a b mi ma p nl kids)=[.mk k a b mi ma p nl kids]:=by rw[Ve,hk];rfl
   have Cn:kids=[]:=by
    have:=Rf S3;rw[hk] at this;rw[Z5.wf] at S3;exact S3.2.2.2.2.2.2.2.2.1 this.symm
   refine⟨by rw[e1,e2];rfl,fun rest=>⟨_,_,by rw[RX,hk];rfl,?_,?_,?_,fun H=>?_⟩⟩
   ·rw[Km,hk,if_neg (by decide)];exact⟨_,rfl,b2⟩
   ·rw[leaves,Cn];rfl
   ·rw[e1,e1,e2,WN,b1];rfl
   ·rw[e1,e2,Xu,b1,jd,hk];rfl
end Go.Am
namespace Go.Am
open Go
def Ym:List Nat->Nat
 |[]=>1
 |b::bs=>b*Ym bs
def IB:List Nat->List Nat->Nat
 |b::bs,d::ds=>d+b*IB bs ds
 |_,_=>0
def US:List Nat->List Nat->Prop
 |[],[]=>True
 |b::bs,d::ds=>d<b/\US bs ds
 |_,_=>False
theorem CN:∀(bs ds:List Nat),US bs ds->IB bs ds<Ym bs
 |[],[],_=>Nat.one_pos
 |b::bs,d::ds,h=>by
  rw[US] at h;have:=CN bs ds h.2;rw[IB,Ym];have h2:b*(IB bs ds+1)<=b*Ym bs:=Nat.mul_le_mul_left b this;rw[Nat.mul_add,ah1] at h2;omega
 |[],d::ds,h=>by simp[US] at h
 |b::bs,[],h=>by simp[US] at h
theorem Hk:∀(bs ds es:List Nat),US bs ds->US bs es->IB bs ds=IB bs es->ds=es
 |[],[],[],_,_,_=>rfl
 |b::bs,d::ds,x::es,h,h',e=>by
  rw[US] at h h';rw[IB,IB] at e;have hb:0<b:=by omega
  have e1:d=x:=by
   have:=congrArg (·%b) e;simp only[Nat.add_mul_mod_self_left,Nat.mod_eq_of_lt h.1,Nat.mod_eq_of_lt h'.1] at this;exact this
  subst e1;have e2:IB bs ds=IB bs es:=Nat.eq_of_mul_eq_mul_left hb (by omega);rw[Hk bs ds es h.2 h'.2 e2]
 |[],d::ds,_,h,_,_=>by simp[US] at h
 |[],[],x::es,_,h,_=>by simp[US] at h
 |b::bs,[],_,h,_,_=>by simp[US] at h
 |b::bs,d::ds,[],_,h,_=>by simp[US] at h
theorem Hm:∀(bs ds cs es:List Nat),US bs ds->US cs es->US (bs++cs) (ds++es)
 |[],[],_,_,_,h=>h
 |b::bs,d::ds,cs,es,h,h'=>by
  rw[US] at h;rw[alU,alU,US];exact⟨h.1,Hm bs ds cs es h.2 h'⟩
 |[],d::ds,_,_,h,_=>by simp[US] at h
 |b::bs,[],_,_,h,_=>by simp[US] at h
theorem QI:∀(bs cs:List Nat),Ym (bs++cs)=Ym bs*Ym cs
 |[],cs=>by simp[Ym]
 |b::bs,cs=>by rw[alU,Ym,Ym,QI bs cs,Nat.mul_assoc]
def Vd:List Step->Nat
 |[]=>0
 |s::S=>s.times.toNat*(s.within.toNat+1)+Vd S
def Rj:List Step->Nat->Nat->Nat->Nat
 |[],_,_,_=>0
 |s::_,0,k,g=>k*(s.within.toNat+1)+g
 |s::S,a+1,k,g=>s.times.toNat*(s.within.toNat+1)+Rj S a k g
def IA:List Step->Nat->Nat->Nat->Prop
 |[],_,_,_=>False
 |s::_,0,k,g=>k<s.times.toNat/\g<=s.within.toNat
 |_::S,a+1,k,g=>IA S a k g
theorem PT:∀(S:List Step) (a k g:Nat),IA S a k g->Rj S a k g<Vd S
 |[],_,_,_,h=>by simp[IA] at h
 |s::S,0,k,g,h=>by
  rw[IA] at h;rw[Rj,Vd];have h2:(k+1)*(s.within.toNat+1)<=s.times.toNat*(s.within.toNat+1):=amt _ h.1;rw[Nat.succ_mul] at h2;omega
 |s::S,a+1,k,g,h=>by
  have:=PT S a k g h;rw[Rj,Vd];omega
theorem Hj:∀(S:List Step) (a k g a' k' g':Nat),IA S a k g->IA S a' k' g'->Rj S a k g=Rj S a' k' g'->a=a'/\k=k'/\g=g'
 |[],_,_,_,_,_,_,h,_,_=>by simp[IA] at h
 |s::S,0,k,g,0,k',g',h,h',e=>by
  rw[IA] at h h';rw[Rj,Rj] at e;refine⟨rfl,?_⟩;have e1:k=k':=by
   have:=congrArg (· / (s.within.toNat+1)) e;simp only[Nat.mul_comm _ (s.within.toNat+1),Nat.mul_add_div (Nat.succ_pos _),Nat.div_eq_of_lt (show g<s.within.toNat+1 by omega),Nat.div_eq_of_lt (show g'<s.within.toNat+1 by omega),Nat.add_zero] at this;exact this
  subst e1;exact⟨rfl,by omega⟩
 |s::S,0,k,g,a'+1,k',g',h,h',e=>by
  have:=PT [s] 0 k g h;rw[Rj,Rj] at e;rw[Rj,Vd,Vd] at this;omega
 |s::S,a+1,k,g,0,k',g',h,h',e=>by
  have:=PT [s] 0 k' g' h';rw[Rj,Rj] at e;rw[Rj,Vd,Vd] at this;omega
 |s::S,a+1,k,g,a'+1,k',g',h,h',e=>by
  rw[Rj,Rj] at e;obtain⟨e1,e2⟩:=Hj S a k g a' k' g' h h' (by omega);exact⟨by rw[e1],e2⟩
end Go.Am
