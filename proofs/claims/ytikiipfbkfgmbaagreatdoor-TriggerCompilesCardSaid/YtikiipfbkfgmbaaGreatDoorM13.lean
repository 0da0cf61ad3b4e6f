/- A part of the proof of a statement of this seat: the machine on which the program is read, and what it computes; for every input. -/
import Derived.Test.YtikiipfbkfgmbaaGreatDoorM07
import Derived.Test.YtikiipfbkfgmbaaGreatDoorM12
import Derived.Test.YtikiipfbkfgmbaaGreatDoorM04
import Derived.Test.YtikiipfbkfgmbaaGreatDoorM06
set_option linter.all false
namespace Go.Am
open Go
variable [Z4]
theorem eN:∀c:Z5,c.wf->c.norm.wf:=by
 intro c
 induction c using Z5.ind with
 |h k a b mi ma p nl kids ih =>
 intro h;rw[Z5.wf] at h;obtain⟨h1,h2,h3,h4,h5,h6,h7,h8,h9,h10,h11,h12,h13⟩:=h;rw[Z5.norm,Z5.wf,Px,Sm];refine⟨h1,h2,h3,h4,h5,h6,h7,h8,fun q=>by rw[h9 q];rfl,fun q=>by simpa using h10 q,h11,h12,fun x hx=>?_⟩;obtain⟨y,hy,rfl⟩:=alN.1 hx;exact ih y hy (h13 y hy)
theorem CU (l:List Int)(t:Nat):∀kids:List Z5,(∀x∈kids,atR l t x.norm=atR l t x)->JC l t (Wj kids)=JC l t kids/\pY l t (Wj kids)=pY l t kids
 |[],_=>by rw[Wj];exact⟨rfl,rfl⟩
 |c::k,h=>by
  have ih:=CU l t k fun x hx=>h x (aab _ hx)
  rw[Wj,JC,JC,pY,pY,h c (aba ..),ih.1];exact⟨rfl,rfl⟩
theorem mK (l:List Int)(t:Nat):∀c:Z5,atR l t c.norm=atR l t c:=by
 intro c
 induction c using Z5.ind with
 |h k a b mi ma p nl kids ih =>
 obtain⟨e1,e2⟩:=CU l t kids ih;rw[Z5.norm,atR,atR,e1,e2,Px]
end Go.Am
namespace Go.Am
open Go
variable [Z4]
set_option maxRecDepth 100000
set_option maxHeartbeats 4000000
def Yv (last sym:Int):Int:=bif decide (last<0) then sym else last
def mJ (c:Z5)(mark last sym Og:Int):Int:=bif Zy sym c.a != Og then 0 else bif decide (last<0)||decide (mark<0) then -1 else min (mark+1) (c.ma+1)
def Cl (c:Z5)(last sym:Int):Bool:=Zy sym c.a != Zy (Yv last sym) c.a
def Qs (d:Kd)(c:Z5)(mark last sym:Int):Int×Bool:=match d with
 |.Vj=>(mJ c mark last sym 1,Cl c last sym&&Zy sym c.a==0&&!outside mark c.mi c.ma)
 |.gap=>(mJ c mark last sym 0,Cl c last sym&&Zy sym c.a==1&&!outside mark c.mi c.ma)
 |.idle =>
  let n:=bif decide (last<0)||Cl c last sym then 1 else min (mark+1) (c.mi+1)
  (n,n==c.mi)
 |.setup =>
  let n:=bif !Cl c last sym&&decide (mark>0)&&decide (mark<c.mi) then mark+1 else bif Cl c last sym then 1 else 0
  (n,decide (n>0)&&Zy sym c.b==1&&Zy (Yv last sym) c.b==0)
 |.Uf =>
  let n:=bif Zy sym c.a==0 then 0 else bif decide (last<0)||Zy sym c.b==1 then 2 else bif Cl c last sym then 1 else mark
  (n,Cl c last sym&&Zy sym c.a==0&&mark==1)
 |_=>(0,atR [Yv last sym,sym] 1 c)
def tW (d:Kd)(c:Z5)(mark:Int):Int:=match d with
 |.Vj|.gap=>bif mark == -1 then c.ma+1 else mark
 |.idle=>mark
 |.setup=>bif mark==0 then c.mi else mark-1
 |.Uf=>bif mark==1 then 2 else bif mark==2 then 1 else 0
 |_=>0
def xA (d:Kd)(c:Z5)(mark last:Int):Prop:=match d with
 |.Vj => -1<=mark/\mark<=c.ma+1/\(0<=last->Zy last c.a≠1->mark=0)
 |.gap => -1<=mark/\mark<=c.ma+1/\(0<=last->Zy last c.a≠0->mark=0)
 |.idle=>0<=mark/\mark<=c.mi+1
 |.setup=>0<=mark/\mark<=c.mi
 |.Uf=>0<=mark/\mark<=2/\(0<=last->Zy last c.a=1->mark≠0)
 |_=>mark=0
theorem Fq (n k:Int):Zy n k=0\/Zy n k=1:=by unfold Zy;omega
theorem rn (d:Kd)(c:Z5)(h1:0<=c.mi)(h2:0<=c.ma):xA d c 0 (-1):=by
 cases d <;> simp only[xA] <;> first|omega|(refine⟨by omega,by omega,fun h=>by omega⟩)
theorem rm (c:Z5):tW (ZF c.kind) c 0=VW c:=by
 unfold VW
 cases ZF c.kind <;> rfl
theorem sS (c:Z5)(lv:Bool)(h1:1<=c.mi)(h2:0<=c.ma){mark last sym:Int}(hl : -1<=last)(hm : -1<=mark/\mark<=c.ma+1/\(0<=last->Zy last c.a≠Vp lv->mark=0)) :
  Fw lv c (bif mark == -1 then c.ma+1 else mark) (WR sym c.a) (WR (Yv last sym) c.a) (decide (last<0)) =
   ((bif mJ c mark last sym (Vp lv) == -1 then c.ma+1 else mJ c mark last sym (Vp lv)),Cl c last sym&&Zy sym c.a==1-Vp lv&&!outside mark c.mi c.ma) /\
  (-1<=mJ c mark last sym (Vp lv)/\mJ c mark last sym (Vp lv)<=c.ma+1/\(0<=sym->Zy sym c.a≠Vp lv->mJ c mark last sym (Vp lv)=0)):=by
 obtain⟨m1,m2,m3⟩:=hm;have e1:=Fx lv sym c.a;have e2:=Fx lv (Yv last sym) c.a;have b1:=Fq sym c.a;have b2:=Fq (Yv last sym) c.a;have hL:Vp lv=0\/Vp lv=1:=by cases lv <;> simp[Vp]
 unfold Fw mJ Cl outside;rw[e1,e2];generalize hx:Zy sym c.a=x at *;generalize hL':Vp lv=L at *;by_cases hf:last<0
 ·have hw:Yv last sym=sym:=by unfold Yv;rw[decide_eq_true hf];rfl
  rw[hw,hx] at b2 ⊢;rw[decide_eq_true hf];by_cases gg:x=L
  ·subst gg;have e3:(x==1-x)=false:=by rw[beq_eq_false_iff_ne];omega
   simp[e3];omega
  ·have e3:(x==L)=false:=by simpa using gg
   have e4:(x != L)=true:=by simpa using gg
   simp[e3,e4];omega
 ·have hw:Yv last sym=last:=by unfold Yv;rw[decide_eq_false hf];rfl
  rw[hw] at b2 ⊢;rw[decide_eq_false hf];generalize hy:Zy last c.a=y at *;by_cases gg:x=L
  ·subst gg;by_cases hyl:y=x
   ·subst hyl;have e3:(y==1-y)=false:=by rw[beq_eq_false_iff_ne];omega
    by_cases Be:mark = -1
    ·subst Be;simp[e3];omega
    ·have e5:(mark == -1)=false:=by simpa using Be
     have e6:decide (mark<0)=false:=decide_eq_false (by omega);have k1:0<=min (mark+1) (c.ma+1)/\min (mark+1) (c.ma+1)<=c.ma+1:=by omega
     simp only[e5,e6,cond_false];generalize min (mark+1) (c.ma+1)=w at *;have e7:(w == -1)=false:=by rw[beq_eq_false_iff_ne];omega
     simp[e3,e7];omega
   ·have oq:=m3 (by omega) hyl;subst oq;have e3:(y==x)=false:=by simpa using hyl
    have e4:(x==1-x)=false:=by rw[beq_eq_false_iff_ne];omega
    have k1:min ((0:Int)+1) (c.ma+1)=1:=by omega
    have e7:((1:Int) == -1)=false:=rfl;have e9:((0:Int) == -1)=false:=rfl;simp only[k1];simp[e3,e4,e7,e9];omega
  ·have e3:(x==L)=false:=by simpa using gg
   have e4:(x != L)=true:=by simpa using gg
   have e8:(x==1-L)=true:=by rw[beq_iff_eq];omega
   have e9:(y==L)=(x != y):=by rw[amj];simp;omega
   rw[e9];by_cases Be:mark = -1
   ·subst Be;have e5:decide (-1<c.mi)=true:=decide_eq_true (by omega);have e6:¬c.ma+1<=c.ma:=by omega
    simp[e3,e4,e8,e5,e6];omega
   ·have e5:(mark == -1)=false:=by simpa using Be
    have e10:(decide (mark>=c.mi)&&decide (mark<=c.ma))=!(decide (mark<c.mi)||decide (mark>c.ma)):=by
     rw[amj];simp
    simp only[e5,cond_false];rw[Bool.and_assoc,e10];simp[e3,e4,e8];omega
theorem aaD (c:Z5)(last sym:Int):(WR sym c.a != WR (Yv last sym) c.a)=Cl c last sym:=by
 have b1:=Fq sym c.a;have b2:=Fq (Yv last sym) c.a;unfold WR Cl;rcases b1 with h|h <;> rcases b2 with h'|h' <;> rw[h,h'] <;> rfl
theorem lz (c:Z5)(h1:1<=c.mi){mark last sym:Int}(hm:0<=mark/\mark<=c.mi+1) :
  MG c mark (WR sym c.a) (WR (Yv last sym) c.a) (decide (last<0))=Qs .idle c mark last sym/\0<=(Qs .idle c mark last sym).1/\(Qs .idle c mark last sym).1<=c.mi+1:=by
 unfold MG Qs;simp only[aaD]
 cases decide (last<0)||Cl c last sym with
 |true =>
  have:min ((0:Int)+1) (c.mi+1)=1:=by omega
  simp only[cond_true,this];refine⟨by first|rfl|trivial,by omega,by omega⟩
 |false =>
  simp only[cond_false];refine⟨by first|rfl|trivial,by omega,by omega⟩
theorem qv (c:Z5)(h1:1<=c.mi){mark last sym:Int}(hm:0<=mark/\mark<=c.mi) :
  QT c (tW .setup c mark) (WR sym c.a) (WR (Yv last sym) c.a) (WR sym c.b) (WR (Yv last sym) c.b)=(tW .setup c (Qs .setup c mark last sym).1,(Qs .setup c mark last sym).2)/\0<=(Qs .setup c mark last sym).1/\(Qs .setup c mark last sym).1<=c.mi:=by
 have b2:=Fq (Yv last sym) c.b;have hb:(!WR (Yv last sym) c.b)=(Zy (Yv last sym) c.b==0):=by
  unfold WR;rcases b2 with h|h <;> rw[h] <;> rfl
 unfold QT Qs tW;simp only[aaD,hb];have hs:WR sym c.b=(Zy sym c.b==1):=rfl;rw[hs];generalize (Zy sym c.b==1)=p;generalize (Zy (Yv last sym) c.b==0)=q
 cases Cl c last sym with
 |true =>
  have e1:decide ((1:Int)>0)=true:=rfl;have e2:decide ((0:Int)<c.mi)=true:=decide_eq_true (by omega);have e3:((1:Int)==0)=false:=rfl;simp only[cond_true,cond_false,ama,amq,e1,e2,e3,Bool.and_true,al9];refine⟨by first|rfl|trivial,by omega,by omega⟩
 |false =>
  simp only[cond_false,amp,al9];by_cases h0:mark=0
  ·subst h0;have e1:decide ((0:Int)>0)=false:=rfl;have e2:min (c.mi+1) c.mi=c.mi:=by omega
   have e3:decide (c.mi<c.mi)=false:=decide_eq_false (by omega);have e4:((0:Int)==0)=true:=rfl;simp only[e1,e2,e3,e4,cond_true,cond_false,amq,Bool.and_false];refine⟨by first|rfl|trivial,by omega,by omega⟩
  ·have e1:decide (mark>0)=true:=decide_eq_true (by omega);have e4:(mark==0)=false:=by simpa using h0
   by_cases h2:mark<c.mi
   ·have e2:min (mark-1+1) c.mi=mark:=by omega
    have e3:decide (mark<c.mi)=true:=decide_eq_true h2;have e5:decide (mark+1>0)=true:=decide_eq_true (by omega);have e6:(mark+1==0)=false:=by rw[beq_eq_false_iff_ne];omega
    have e7:mark+1-1=mark:=by omega
    simp only[e1,e2,e3,e4,e5,e6,e7,cond_true,cond_false,al9,Bool.and_true];refine⟨by first|rfl|trivial,by omega,by omega⟩
   ·have e2:min (mark-1+1) c.mi=c.mi:=by omega
    have e3:decide (mark<c.mi)=false:=decide_eq_false h2;have e5:decide ((0:Int)>0)=false:=rfl;have e6:((0:Int)==0)=true:=rfl;have e8:decide (c.mi<c.mi)=false:=decide_eq_false (by omega);simp only[e1,e2,e3,e4,e5,e6,e8,cond_true,cond_false,amq,Bool.and_false];refine⟨by first|rfl|trivial,by omega,by omega⟩
theorem ly (c:Z5){mark last sym:Int}(hm:0<=mark/\mark<=2/\(0<=last->Zy last c.a=1->mark≠0)) :
  MU (tW .Uf c mark) (WR sym c.a) (WR (Yv last sym) c.a) (WR sym c.b) (decide (last<0))=(tW .Uf c (Qs .Uf c mark last sym).1,(Qs .Uf c mark last sym).2) /\
  0<=(Qs .Uf c mark last sym).1/\(Qs .Uf c mark last sym).1<=2/\(0<=sym->Zy sym c.a=1->(Qs .Uf c mark last sym).1≠0):=by
 obtain⟨m1,m2,m3⟩:=hm;have b1:=Fq sym c.a;have b2:=Fq (Yv last sym) c.a;have OG:mark=0\/mark=1\/mark=2:=by omega
 unfold MU Qs tW Cl;have hs:WR sym c.b=(Zy sym c.b==1):=rfl;rw[hs];generalize (Zy sym c.b==1)=q;unfold WR;by_cases hf:last<0
 ·have hw:Yv last sym=sym:=by unfold Yv;rw[decide_eq_true hf];rfl
  rw[hw,decide_eq_true hf];rcases b1 with h|h <;> rw[h] <;> rcases OG with rfl|rfl|rfl <;> cases q <;> simp
 ·have hw:Yv last sym=last:=by unfold Yv;rw[decide_eq_false hf];rfl
  rw[hw] at b2 ⊢;rw[decide_eq_false hf];rcases b1 with h|h <;> rw[h] <;> rcases b2 with h'|h' <;> rw[h'] <;> rcases OG with rfl|rfl|rfl <;> cases q <;> first
   |(exfalso;exact m3 (by omega) h' rfl)
   |simp
theorem lA (c:Z5)(hc:c.wf)(Tk:(ZF c.kind).leaf=true){mark last sym:Int}(hl : -1<=last)(hm:xA (ZF c.kind) c mark last) :
  Vx sym (Yv last sym) (decide (last<0)) c (tW (ZF c.kind) c mark)=(tW (ZF c.kind) c (Qs (ZF c.kind) c mark last sym).1,(Qs (ZF c.kind) c mark last sym).2)/\xA (ZF c.kind) c (Qs (ZF c.kind) c mark last sym).1 sym:=by
 have Xz:=hc.A9;have Bi:(YQ (ZF c.kind)).mi=true->1<=c.mi:=by
  cases c
  rw[Z5.wf] at hc;exact hc.2.2.2.2.2.2.2.2.2.2.1
 have hss:∀st,(Vx sym (Yv last sym) false c st).2=(Vx (Xg [Yv last sym,sym] ((1:Nat):Int)) (QS [Yv last sym,sym] ((1:Nat):Int)) (((1:Nat):Int)==0) c st).2:=fun st=>rfl
 have sU:=ri [Yv last sym,sym] c hc Tk 1;have h1:Xg [Yv last sym,sym] ((1:Nat):Int)=sym:=rfl;have h2:QS [Yv last sym,sym] ((1:Nat):Int)=Yv last sym:=rfl;rw[h1,h2] at sU;unfold Vx at sU ⊢
 cases hd:ZF c.kind with
 |Vj =>
  rw[hd] at hm Bi;obtain⟨e1,e2⟩:=sS c true (Bi rfl) Xz.ma.1 hl hm;exact⟨e1,e2⟩
 |gap =>
  rw[hd] at hm Bi;obtain⟨e1,e2⟩:=sS c false (Bi rfl) Xz.ma.1 hl hm;exact⟨e1,e2⟩
 |idle =>
  rw[hd] at hm Bi;exact lz c (Bi rfl) hm
 |setup =>
  rw[hd] at hm Bi;exact qv c (Bi rfl) hm
 |Uf =>
  rw[hd] at hm;exact ly c hm
 |QG=>rw[hd] at Tk;cases Tk
 |EU=>rw[hd] at Tk;cases Tk
 |OV=>rw[hd] at Tk;cases Tk
 |other=>rw[hd] at Tk;cases Tk
 |_ =>
  rw[hd] at sU hm;have hms:mark=0:=hm;subst hms;have h3:=congrArg Prod.snd sU;exact⟨Prod.ext rfl h3,rfl⟩
mutual
def RX (last sym:Int):Z5->List Int->Bool×List Int×List Int
 |.mk k a b mi ma p nl kids,ms=>bif XD k then
   (match ZF k with
    |.QG=>!(U0 last sym kids ms.tail).1.any id
    |.OV=>(U0 last sym kids ms.tail).1.any id
    |_=>(U0 last sym kids ms.tail).1.all id,0::(U0 last sym kids ms.tail).2.1,(U0 last sym kids ms.tail).2.2)
  else ((Qs (ZF k) (.mk k a b mi ma p nl kids) (ms.headD 0) last sym).2,[(Qs (ZF k) (.mk k a b mi ma p nl kids) (ms.headD 0) last sym).1],ms.tail)
def U0 (last sym:Int):List Z5->List Int->List Bool×List Int×List Int
 |[],ms=>([],[],ms)
 |c::l,ms=>((RX last sym c ms).1::(U0 last sym l (RX last sym c ms).2.2).1,(RX last sym c ms).2.1++(U0 last sym l (RX last sym c ms).2.2).2.1,(U0 last sym l (RX last sym c ms).2.2).2.2)
end
mutual
def LO:Z5->List Int->List Int
 |.mk k a b mi ma p nl kids,ms=>bif XD k then Jp kids ms.tail else [tW (ZF k) (.mk k a b mi ma p nl kids) (ms.headD 0)]
def Jp:List Z5->List Int->List Int
 |[],_=>[]
 |c::l,ms=>LO c ms++Jp l (ms.drop (leaves c))
end
mutual
def Km (last:Int):Z5->List Int->Prop
 |.mk k a b mi ma p nl kids,ms=>if XD k=true then ∃r,ms=0::r/\MF last kids r else ∃m,ms=[m]/\xA (ZF k) (.mk k a b mi ma p nl kids) m last
def MF (last:Int):List Z5->List Int->Prop
 |[],ms=>ms=[]
 |c::l,ms=>∃u v,ms=u++v/\u.length=leaves c/\Km last c u/\MF last l v
end
theorem Dy (now last:Int)(first:Bool):∀(A B:List Z5) (x y:List Int),x.length=A.length->WN now last first (A++B) (x++y)=WN now last first A x++WN now last first B y
 |[],B,[],y,_=>rfl
 |c::A,B,s::x,y,h=>by
  rw[alU,alU,WN,WN,Dy now last first A B x y (by simpa using h)];rfl
theorem JM (now last:Int)(first:Bool):∀(A B:List Z5) (x y:List Int),x.length=A.length->Xu now last first (A++B) (x++y)=Xu now last first A x++Xu now last first B y
 |[],B,[],y,_=>rfl
 |c::A,B,s::x,y,h=>by
  rw[alU,alU,Xu,Xu,JM now last first A B x y (by simpa using h)];rfl
structure dZ (last sym:Int)(c:Z5)(ms:List Int):Prop where
 len:(LO c ms).length=(Ve c).length
 run:∀rest,∃is own,RX last sym c (ms++rest)=(is,own,rest)/\Km sym c own/\own.length=leaves c/\LO c own=WN sym (Yv last sym) (decide (last<0)) (Ve c) (LO c ms)/\∀H,jd c (Xu sym (Yv last sym) (decide (last<0)) (Ve c) (LO c ms)++H)=is
structure aeA (last sym:Int)(l:List Z5)(ms:List Int):Prop where
 len:(Jp l ms).length=(ZJ l).length
 run:∀rest,∃bs own,U0 last sym l (ms++rest)=(bs,own,rest)/\MF sym l own/\own.length=ZS l/\Jp l own=WN sym (Yv last sym) (decide (last<0)) (ZJ l) (Jp l ms)/\bs.length=l.length /\
  (∀H s a,lx l (Xu sym (Yv last sym) (decide (last<0)) (ZJ l) (Jp l ms)++H) s a=(s||bs.any id,a&&bs.all id))/\∀H,outs l (Xu sym (Yv last sym) (decide (last<0)) (ZJ l) (Jp l ms)++H)=bs
theorem LN {last:Int}(c:Z5):∀(u v:List Int),Km last c u->LO c (u++v)=LO c u:=by
 induction c using Z5.ind with
 |h k a b mi ma p nl kids ih =>
  intro u v h;rw[Km] at h;rw[LO,LO]
  cases hk:XD k with
  |true =>
   rw[hk,if_pos rfl] at h;obtain⟨r,rfl,hr⟩:=h;simp only[cond_true,alU,List.tail_cons];have key:∀(kids:List Z5) (r v:List Int),(∀x∈kids,∀u v,Km last x u->LO x (u++v)=LO x u)->MF last kids r->Jp kids (r++v)=Jp kids r:=by
    intro kids
    induction kids with
    |nil=>intro r v _ _;rfl
    |cons x kids ih2 =>
     intro r v hx h;rw[MF] at h;obtain⟨u,w,rfl,hu,h1,h2⟩:=h;rw[Jp,Jp,alS,hx x (aba ..) u (w++v) h1,hx x (aba ..) u w h1,<-hu,amy,amy,ih2 w v (fun y hy=>hx y (aab _ hy)) h2]
   exact key kids r v ih hr
  |false =>
   rw[hk,if_neg (by decide)] at h;obtain⟨m,rfl,_⟩:=h;rfl
theorem QH {last sym:Int}:∀(l:List Z5) (ms:List Int),(∀c∈l,∀ms,Km last c ms->dZ last sym c ms)->MF last l ms->aeA last sym l ms
 |[],ms,_,h=>by
  rw[MF] at h;subst h;refine⟨rfl,fun rest=>⟨[],[],rfl,by rw[MF],rfl,rfl,rfl,fun H s a=>?_,fun H=>rfl⟩⟩;rw[lx];simp
 |c::l,ms,hc,h=>by
  rw[MF] at h;obtain⟨u,v,rfl,hu,h1,h2⟩:=h;obtain⟨BT,lu⟩:=hc c (aba ..) u h1;obtain⟨aiq,air⟩:=QH l v (fun x hx=>hc x (aab _ hx)) h2;have hpr:Jp (c::l) (u++v)=LO c u++Jp l v:=by
   rw[Jp,LN c u v h1,<-hu,amy]
  have MZ:ZJ (c::l)=Ve c++ZJ l:=by rw[ZJ]
  refine⟨by rw[hpr,MZ,agy,agy,BT,aiq],fun rest=>?_⟩;obtain⟨is,own,e1,k1,k2,k3,k4⟩:=lu (v++rest);obtain⟨bs,abx,e2,m1,m2,m3,m4,m5,m6⟩:=air rest;refine⟨is::bs,own++abx,?_,?_,?_,?_,by simp[m4],fun H s a=>?_,fun H=>?_⟩
  ·rw[U0,alS,e1];simp only[e2]
  ·rw[MF];exact⟨own,abx,rfl,k2,k1,m1⟩
  ·rw[agy,k2,m2,ZS]
  ·rw[hpr,MZ,Dy _ _ _ _ _ _ _ BT,<-k3,<-m3,Jp,LN c own abx k1,<-k2,amy]
  ·rw[hpr,MZ,JM _ _ _ _ _ _ _ BT,alS,lx,k4];have hd:(Xu sym (Yv last sym) (decide (last<0)) (Ve c) (LO c u)).length=(Ve c).length:=Qg _ _ _ _ _ BT;rw[<-hd,amy,m5];simp[Bool.or_assoc,Bool.and_assoc]
  ·rw[hpr,MZ,JM _ _ _ _ _ _ _ BT,alS,outs,k4];have hd:(Xu sym (Yv last sym) (decide (last<0)) (Ve c) (LO c u)).length=(Ve c).length:=Qg _ _ _ _ _ BT;rw[<-hd,amy,m6]
theorem PS {last sym:Int}(hl : -1<=last):∀c:Z5,c.wf->∀ms,Km last c ms->dZ last sym c ms:=by
 intro c
 induction c using Z5.ind with
 |h k a b mi ma p nl kids ih =>
  intro S3 ms h;have QJ:∀x∈kids,x.wf:=by
   rw[Z5.wf] at S3;exact S3.2.2.2.2.2.2.2.2.2.2.2.2
  rw[Km] at h
  cases hk:XD k with
  |true =>
   rw[hk,if_pos rfl] at h;obtain⟨r,rfl,hr⟩:=h;obtain⟨BT,lu⟩:=QH kids r (fun x hx ms hm=>ih x hx (QJ x hx) ms hm) hr;have e1:LO (.mk k a b mi ma p nl kids) (0::r)=Jp kids r:=by rw[LO,hk];rfl
   have e2:Ve (.mk k a b mi ma p nl kids)=ZJ kids:=by rw[Ve,hk];rfl
   refine⟨by rw[e1,e2,BT],fun rest=>?_⟩;obtain⟨bs,own,q1,q2,q3,q4,q5,q6,q7⟩:=lu rest;refine⟨_,0::own,by rw[RX,hk,cond_true,alU,List.tail_cons,q1],?_,?_,?_,fun H=>?_⟩
   ·rw[Km,hk,if_pos rfl];exact⟨own,rfl,q2⟩
   ·rw[leaves];simp[q3]
   ·rw[e1,e2,LO,hk,cond_true,List.tail_cons];exact q4
   ·rw[e1,e2,jd,hk,cond_true,q6]
    cases ZF k <;> simp
  |false =>
   rw[hk,if_neg (by decide)] at h;obtain⟨m,rfl,hm⟩:=h;have Tk:(ZF k).leaf=true:=by
    have:=Rf S3;rw[hk] at this;have Cn:(ZF k).known=true:=by rw[Z5.wf] at S3;exact S3.2.2.2.2.2.2.1
    generalize ZF k=d at *
    cases d <;> first|rfl|(simp[YQ] at this;done)|(simp[Kd.known] at Cn;done)
   obtain⟨b1,b2⟩:=lA (.mk k a b mi ma p nl kids) S3 Tk (sym:=sym) hl hm;rw[show (Z5.mk k a b mi ma p nl kids).kind=k from rfl] at b1 b2;have e1:∀x,LO (.mk k a b mi ma p nl kids) [x]=[tW (ZF k) (.mk k a b mi ma p nl kids) x]:=fun x=>by rw[LO,hk];rfl
   have e2:Ve (.mk k a b mi ma p nl kids)=[.mk k a b mi ma p nl kids]:=by rw[Ve,hk];rfl
   have Cn:kids=[]:=by
    have:=Rf S3;rw[hk] at this;rw[Z5.wf] at S3;exact S3.2.2.2.2.2.2.2.2.1 this.symm
   refine⟨by rw[e1,e2];rfl,fun rest=>⟨_,_,by rw[RX,hk];rfl,?_,?_,?_,fun H=>?_⟩⟩
   ·rw[Km,hk,if_neg (by decide)];exact⟨_,rfl,b2⟩
   ·rw[leaves,Cn];rfl
   ·rw[e1,e1,e2,WN,b1];rfl
   ·rw[e1,e2,Xu,b1,jd,hk];rfl
end Go.Am
namespace Go.Am
open Go
def Ym:List Nat->Nat
 |[]=>1
 |b::bs=>b*Ym bs
def IB:List Nat->List Nat->Nat
 |b::bs,d::ds=>d+b*IB bs ds
 |_,_=>0
def US:List Nat->List Nat->Prop
 |[],[]=>True
 |b::bs,d::ds=>d<b/\US bs ds
 |_,_=>False
theorem CN:∀(bs ds:List Nat),US bs ds->IB bs ds<Ym bs
 |[],[],_=>Nat.one_pos
 |b::bs,d::ds,h=>by
  rw[US] at h;have:=CN bs ds h.2;rw[IB,Ym];have h2:b*(IB bs ds+1)<=b*Ym bs:=Nat.mul_le_mul_left b this;rw[Nat.mul_add,ah1] at h2;omega
 |[],d::ds,h=>by simp[US] at h
 |b::bs,[],h=>by simp[US] at h
theorem Hk:∀(bs ds es:List Nat),US bs ds->US bs es->IB bs ds=IB bs es->ds=es
 |[],[],[],_,_,_=>rfl
 |b::bs,d::ds,x::es,h,h',e=>by
  rw[US] at h h';rw[IB,IB] at e;have hb:0<b:=by omega
  have e1:d=x:=by
   have:=congrArg (·%b) e;simp only[Nat.add_mul_mod_self_left,Nat.mod_eq_of_lt h.1,Nat.mod_eq_of_lt h'.1] at this;exact this
  subst e1;have e2:IB bs ds=IB bs es:=Nat.eq_of_mul_eq_mul_left hb (by omega);rw[Hk bs ds es h.2 h'.2 e2]
 |[],d::ds,_,h,_,_=>by simp[US] at h
 |[],[],x::es,_,h,_=>by simp[US] at h
 |b::bs,[],_,h,_,_=>by simp[US] at h
 |b::bs,d::ds,[],_,h,_=>by simp[US] at h
theorem Hm:∀(bs ds cs es:List Nat),US bs ds->US cs es->US (bs++cs) (ds++es)
 |[],[],_,_,_,h=>h
 |b::bs,d::ds,cs,es,h,h'=>by
  rw[US] at h;rw[alU,alU,US];exact⟨h.1,Hm bs ds cs es h.2 h'⟩
 |[],d::ds,_,_,h,_=>by simp[US] at h
 |b::bs,[],_,_,h,_=>by simp[US] at h
theorem QI:∀(bs cs:List Nat),Ym (bs++cs)=Ym bs*Ym cs
 |[],cs=>by simp[Ym]
 |b::bs,cs=>by rw[alU,Ym,Ym,QI bs cs,Nat.mul_assoc]
def Vd:List Step->Nat
 |[]=>0
 |s::S=>s.times.toNat*(s.within.toNat+1)+Vd S
def Rj:List Step->Nat->Nat->Nat->Nat
 |[],_,_,_=>0
 |s::_,0,k,g=>k*(s.within.toNat+1)+g
 |s::S,a+1,k,g=>s.times.toNat*(s.within.toNat+1)+Rj S a k g
def IA:List Step->Nat->Nat->Nat->Prop
 |[],_,_,_=>False
 |s::_,0,k,g=>k<s.times.toNat/\g<=s.within.toNat
 |_::S,a+1,k,g=>IA S a k g
theorem PT:∀(S:List Step) (a k g:Nat),IA S a k g->Rj S a k g<Vd S
 |[],_,_,_,h=>by simp[IA] at h
 |s::S,0,k,g,h=>by
  rw[IA] at h;rw[Rj,Vd];have h2:(k+1)*(s.within.toNat+1)<=s.times.toNat*(s.within.toNat+1):=amt _ h.1;rw[Nat.succ_mul] at h2;omega
 |s::S,a+1,k,g,h=>by
  have:=PT S a k g h;rw[Rj,Vd];omega
theorem Hj:∀(S:List Step) (a k g a' k' g':Nat),IA S a k g->IA S a' k' g'->Rj S a k g=Rj S a' k' g'->a=a'/\k=k'/\g=g'
 |[],_,_,_,_,_,_,h,_,_=>by simp[IA] at h
 |s::S,0,k,g,0,k',g',h,h',e=>by
  rw[IA] at h h';rw[Rj,Rj] at e;refine⟨rfl,?_⟩;have e1:k=k':=by
   have:=congrArg (· / (s.within.toNat+1)) e;simp only[Nat.mul_comm _ (s.within.toNat+1),Nat.mul_add_div (Nat.succ_pos _),Nat.div_eq_of_lt (show g<s.within.toNat+1 by omega),Nat.div_eq_of_lt (show g'<s.within.toNat+1 by omega),Nat.add_zero] at this;exact this
  subst e1;exact⟨rfl,by omega⟩
 |s::S,0,k,g,a'+1,k',g',h,h',e=>by
  have:=PT [s] 0 k g h;rw[Rj,Rj] at e;rw[Rj,Vd,Vd] at this;omega
 |s::S,a+1,k,g,0,k',g',h,h',e=>by
  have:=PT [s] 0 k' g' h';rw[Rj,Rj] at e;rw[Rj,Vd,Vd] at this;omega
 |s::S,a+1,k,g,a'+1,k',g',h,h',e=>by
  rw[Rj,Rj] at e;obtain⟨e1,e2⟩:=Hj S a k g a' k' g' h h' (by omega);exact⟨by rw[e1],e2⟩
end Go.Am
namespace Go.Am
open Go
variable [Z4]
set_option maxRecDepth 100000
set_option maxHeartbeats 8000000
def r5:RC:=(sO [Zp 2 31 0,Zc 4] (sQ (sO [K5 9 16,Wh 10 9,om 11 10,KW 12 11 2 2,zp 13 11 31 12 12,TM 14 11 13,Yo 15 11 14,om 16 15,Yp 17 16 1,zp 18 16 22 17 60,TM 19 16 18,Yo 20 16 19] (cT 20 (sO [K5 21 16,om 4 21] .ret))) (sO [Zr 23 2 2,YN 24 33 23,om 25 1,YV 26 32 24 25,om 22 26,Zi 27 22 0,Zi 28 22 1,om 5 27,om 6 28] (sO [Zr 29 2 2,YN 30 34 29,om 7 30] (sQ (sO [om 31 7,VT 32 3 31 0] (cT 32 (oP [ZX 33 0 2,Z0 34 33,om 35 1,YV 36 28 34 35,om 7 36]))) (sO [VR 8] (sQ (sO [om 37 7,VT 38 3 37 0] (cT 38 (oP [Zr 39 2 2,om 40 1,YV 41 35 39 40,om 8 41]))) (sO [om 42 5,om 43 6,om 44 7,om 45 8,sK 46 36 42 43 44 45,om 4 46] .ret))))))))
theorem k5:Ze 5=some ([.tmp 4],r5):=by kernel_rfl
def r98:RC:=(sO [Zp 1 25 0,VR 2] (sO [ZX 3 1 1,Z0 4 3,o 5 (.call 168 [(.t 4),(.v (.fn (.func 169) [] []))]),om 2 5] .ret))
theorem k98:Ze 98=some ([.tmp 2],r98):=by kernel_rfl
def r99:RC:=(sO [Zp 3 25 0,Zp 4 167 1,o 6 (.al [(iI 0),(iI 0),(iI 0)] 167),Zc 7] (sQ (sO [ZX 9 1 3,Z0 10 9,ZX 11 0 4,Z0 12 11,Zk 13 9 10 12,Zr 14 9 13,zP 8 0 0 0 0 0 0 144,YU 9 8 14] (sO [ZX 15 8 8,Z0 16 15,UA 17 3 16 0] (cT 17 (sO [ZX 18 2 4,Z0 19 18,YT 20 3 19 1,ZX 21 2 4,YU 1 21 20] (sO [ZX 22 0 4,Z0 23 22,UA 24 3 23 0,om 25 24,Zb 26 25 2 4,YJ 27 25 26,Zb 28 25 8 8,YJ 29 25 28,oT 30 25 (.bin .gtr 3 false (.t 27) (.t 29)),Zj 31 25 30] (cT 31 (oP [o 32 (.On [(iI 0),(iI 0),(iI 0)] []),YU 3 4 32]))))))) (sQ (sO [om 33 2,ZX 34 0 4,Z0 35 34,Zk 36 1 33 35,Z0 37 36,Wh 38 37] (cT 38 (sO [Zr 39 3 4,YU 3 6 39,Zc 7] .ret))) (sO [ZX 40 1 4,Z0 41 40,YT 42 3 41 1,ZX 43 1 4,YU 1 43 42] (sQ (sQ (.TP 10 [ZX 44 1 4,Z0 45 44,ZX 46 1 3,Z0 47 46,ZX 48 0 4,Z0 49 48,Zk 50 9 47 49,ZX 51 7 50,Z0 52 51,YW 53 3 45 52]) (cT 53 (sO [Zr 54 3 4,YU 3 6 54,Zc 7] .ret))) (sQ (sO [ZX 55 0 4,Z0 56 55,YT 57 3 56 1,ZX 58 1 3,Z0 59 58,YO 60 59,YW 61 3 57 60] (cT 61 (sO [ZX 62 0 4,Z0 63 62,YT 64 3 63 1,o 65 (.On [(iI 0),(iI 0),(iI 0)] [(0,1,(.t 64))]),YU 3 6 65,Zc 7] .ret))) (sO [o 66 (.On [(iI 0),(iI 0),(iI 0)] []),YU 3 6 66,Un 7] .ret)))))))
theorem k99:Ze 99=some ([.cell 6 167,.tmp 7],r99):=by kernel_rfl
def Bu:RC:=(sO [YW 11 3 10 9] (sQ (cS 11 (.exit 0)) (sQ (.block 1 (sO [Zk 12 9 8 10,Zr 13 9 12,zP 7 0 0 0 0 0 0 144,YU 9 7 13] (oP [om 14 5,om 15 1,Zr 16 9 7,zo 17 15 16,o 18 (.U3 48 7 1 [(.str []),(iI 0),(iI 0),(iI 0),(iI 0),(.str []),.ZW] [(0,7,(.t 17))]),WZ 19 48 7 88 14 18,om 5 19]))) (oP [YT 20 3 10 1,om 10 20]))))
def agF:RC:=(sO [VR 4] (sO [VR 5] (sQ (sO [om 8 0,YO 9 8,ZA 10 0] (.block 0 (.loop Bu))) (sO [om 21 5,om 4 21] .ret))))
theorem aki:Ze 168=some ([.tmp 4],agF):=by kernel_rfl
def agG:RC:=(sO [Zp 1 144 0,Om 2 0 0 0 0 48] (sO [ZX 3 0 1,Zr 4 7 3,YU 7 2 4] .ret))
theorem akj:Ze 169=some ([.cell 2 48],agG):=by kernel_rfl
end Go.Am
namespace Go.Am
open Go
abbrev aD:=Nat×Int×Int
def aC (T:Nat->Int)(n:Nat)(h:Nat->Bool)(a:Nat)(k g:Int):aD×Bool :=
 bif !h a then ((a,k,g),false) else bif decide (k+1<T a) then ((a,k+1,g),false) else bif decide ((a:Int)+1<n) then ((a+1,0,0),false) else ((0,0,0),true)
def eS (W T:Nat->Int)(n:Nat)(h:Nat->Bool)(a:Nat)(k g:Int):aD×Bool :=
 bif decide (W a>0) then (bif decide ((a:Int)>0)&&decide (g+1>W a) then aC T n h 0 0 0 else aC T n h a k (g+1)) else aC T n h a k g
def Wn (S:List Step)(i:Nat):Int:=match S[i]? with
 |some s=>s.within
 |none=>0
def Tm (S:List Step)(i:Nat):Int:=match S[i]? with
 |some s=>s.times
 |none=>0
end Go.Am
namespace Go.Am
open Go
variable [Z4]
set_option maxRecDepth 100000
set_option maxHeartbeats 4000000
def Ft (c:aD):AV:=.agg [.int .i64 c.1,.int .i64 c.2.1,.int .i64 c.2.2]
def JZ (hs:List Bool)(i:Nat):Bool:=hs.getD i false
theorem yh {nh:Bool}{hs:List Bool}{a:Nat}(h:a<hs.length):Ud 1 (ZG nh (ZM hs)) (.int .i64 (a:Int))=some (.fp [.bool (JZ hs a)] 0):=by
 refine Vr 1 nh (ZM hs) .i64 a (.bool (JZ hs a)) (by omega) ?_ rfl (by decide);rw[amn];simp[ZM,JZ,alM,aaa h]
theorem P7 {nl:Bool}{l:List Step}{a:Nat}(h:a<l.length):Ud 9 (ZG nl (Zx l)) (.int .i64 (a:Int))=some (.fp l[a].T0 0):=by
 refine Vr 9 nl (Zx l) .i64 a (YL l[a]) (by omega) ?_ rfl (by decide);rw[amn,Wu,aaa h];rfl
theorem D0 {l:List Step}{a:Nat}(h:a<l.length):Wn l a=l[a].within:=by unfold Wn;rw[aaa h]
theorem G3 {l:List Step}{a:Nat}(h:a<l.length):Tm l a=l[a].times:=by unfold Tm;rw[aaa h]
theorem c99 (p:Prog)(hs:List Bool)(nh:Bool)(a:Nat)(k g:Int)(ha:a<p.steps.length)(hh:hs.length=p.steps.length)(hl:p.steps.length<2^30)(hk:0<=k/\k<=2^40)(hg:0<=g/\g<=2^40) :
  ZE U 99 [Vw p,Ft (a,k,g),ZG nh (ZM hs)]=some (.XU [Ft (eS (Wn p.steps) (Tm p.steps) p.steps.length (JZ hs) a k g).1,.bool (eS (Wn p.steps) (Tm p.steps) p.steps.length (JZ hs) a k g).2]):=by
 refine ZR k99 (by kernel_rfl) (by simp[ZU,X',Ft,still,X7]) ?_;have hx:=P7 (nl:=p.nl) ha;have h0:0<p.steps.length:=by omega
 have Iv:Ud 9 (ZG p.nl (Zx p.steps)) (.int .i64 0)=some (.fp p.steps[0].T0 0):=P7 (nl:=p.nl) h0;have hb:=yh (nh:=nh) (hs:=hs) (a:=a) (by omega);have Er:Ud 1 (ZG nh (ZM hs)) (.int .i64 0)=some (.fp [.bool (JZ hs 0)] 0):=yh (nh:=nh) (hs:=hs) (a:=0) (by omega);have w1:IntKind.i64.wrap (g+1)=g+1:=by rw[wrap_i64] <;> omega
 have w2:IntKind.i64.wrap (k+1)=k+1:=by rw[wrap_i64] <;> omega
 have w3:IntKind.i64.wrap ((a:Int)+1)=(a:Int)+1:=by rw[wrap_i64] <;> omega
 rw[X9];simp only[Ft,Step.T0] at hx Iv ⊢;unfold eS aC;rw[D0 ha,G3 ha,G3 h0];generalize p.steps[a]=x at *;generalize p.steps[0]=y at *;have w4:IntKind.i64.wrap 1=1:=by rw[wrap_i64] <;> omega
 cases h1:decide (x.within>0) <;> cases h2:decide ((a:Int)>0) <;> cases h3:decide (g+1>x.within)
 all_goals simp only[go_sem,r99,ZL,hx,hb,Iv,Er,w1,w2,w3,w4,h1,h2,h3,ZI,YY,Bool.and_true,Bool.and_false,cond_true,cond_false]
 all_goals first
  |(cases JZ hs a <;> cases decide (k+1<x.times) <;> cases decide ((a:Int)+1<p.steps.length) <;> rfl)
  |(have e0:((0:Nat):Int)+1=1:=rfl
    simp only[e0]
    cases JZ hs 0 <;> cases decide (1<y.times) <;> cases decide ((1:Int)<p.steps.length) <;> rfl)
end Go.Am
namespace Go.Am
open Go
variable [Z4]
end Go.Am
namespace Go.Am
open Go
variable [Z4]
set_option maxRecDepth 100000
set_option maxHeartbeats 4000000
theorem akJ (x:Step):ZE U 169 [YL x]=some (Zw x.cond):=by
 refine ZR akj (by kernel_rfl) (by simp[ZU,YL,still,X7]) ?_;rw[ZV];simp only[YL,Z5.cells];simp only[go_sem,agG,ZL,UL]
theorem ag7 (x:Step)(s:St):GR U (.fn (.func 169) [] []) [YL x] s=some (Zw x.cond,s):=by
 simp only[NJ,amg,alZ,akJ,U8]
theorem akK (nl:Bool)(l:List Step)(hl:l.length<2^30):ZE U 168 [ZG nl (Zx l),.fn (.func 169) [] []]=some (ZG true ((l.map Step.cond).map Zw)):=by
 refine ZR aki (by kernel_rfl) (by simp[ZU,still,X7]) ?_;simp only[go_sem,agF,ZI,YY];refine YH (σ:=Nat) (fun i=>l.length-i) (fun i=>some (ZG true ((l.map Step.cond).map Zw))) (fun i e s=>i<=l.length/\Env.get e 1=.fn (.func 169) [] []/\Env.get e 8=ZG nl (Zx l)/\Env.get e 9=.int .i64 l.length/\Env.get e 10=.int .i64 i/\8<=s.next/\Fr s /\
  ∃v,Env.get e 5=v/\ZK s 8 48 7 i (Yw ((l.take i).map Step.cond)) v) 0 ?_ rfl ?_
 ·rintro L i e s ⟨hi,g1,g8,g9,rb,hn,PX,v,g5,hv⟩ IH;have Jl:=hv.Xj;have Re:=hv.Zz;by_cases hd:i<l.length
  ·have hx:(Zx l)[i]? = some (YL l[i]):=by rw[Wu,aaa hd];rfl
   have hw:=ZN hd (by omega);have hc:=ag7 l[i];rw[ZV] at hc;rw[YR (X_ hd)] at g8;simp only[Z5.cells,YL] at hx hc;have UP:(i+1)*88<=1099511627776:=by omega
   have VP:i+1<=1099511627776:=by omega
   have JS:Yw ((l.take (i+1)).map Step.cond)=Yw ((l.take i).map Step.cond)++l[i].cond.cells:=by
    rw[alX hd,alY,Yw,List.flatMap_append,List.map_singleton,List.flatMap_singleton,ZV];rfl
   simp only[Z5.cells] at JS;simp only[go_sem,Bu,g1,g5,g8,g9,rb,Z8,hd,hx,hc,ZL,ZH,Nat.reducePow,amk,Jl,UP,VP];have rB:∀y z w,ZK (((s.new y).put s.next z).new w) 8 48 7 i (Yw ((l.take i).map Step.cond)) v:=fun y z w=>hv.mono (by rw[Z_,Z',Z_];omega) fun j _ hj=>by rw[Z7,Z',Z_,if_neg (by omega),Z9,if_neg (by omega),Z7,if_neg (by omega)]
   obtain⟨s1,f1,f2,f3,f4,f5⟩:=(rB (.cells [.str [],.int .i64 0,.int .i64 0,.int .i64 0,.int .i64 0,.str [],.ZW,.int .i64 0,.int .i64 0] 144 false 0 0) (.cells l[i].T0 144 false 0 0) (.cells l[i].cond.cells 48 false 0 0)).Gy (by rw[Z_,Z',Z_];omega) (m:=1) (new:=l[i].cond.cells) (by omega) (by rfl) (by simp only[Z5.cells,go_sem,ZL]);simp only[Z5.cells,Step.T0] at f1 f2 f3;rw[f1];simp only[go_sem,rb,hw];rw[<-JS] at f3;refine IH (i+1) _ _ (by omega) ⟨by omega,?_,?_,?_,?_,?_,f5 (((PX.new _).put (by rw[Z_];omega) _).new _),_,?_,f3⟩
   all_goals simp only[go_sem,g1,g8,g9,f2,YR (X_ hd)]
   all_goals omega
  ·have:i=l.length:=by omega
   subst this;rw[amH] at hv;have Pd:ZK s 8 48 7 (l.map Step.cond).length (Yw (l.map Step.cond)) v:=by rw[agC];exact hv
   have Rk:=Pd.Vi U Ej Ei (by omega) OS (d:=39) (fun a=>LG _ _ _);simp only[go_sem,Bu,g5,g9,rb,Z8,alh,Rk]
 ·refine⟨aic _,?_,?_,?_,?_,?_,?_,.ZW,?_,ZK.nil _ _ _ _⟩
  all_goals try simp only[go_sem]
  all_goals first|rfl|exact Fr.own|skip
theorem c98 (p:Prog)(hl:p.steps.length<2^30):ZE U 98 [Vw p]=some (ZG true ((p.steps.map Step.cond).map Zw)):=by
 refine ZR k98 (by kernel_rfl) (by simp[ZU,X']) ?_;have:=akK p.nl p.steps hl;rw[X9];simp only[go_sem,r98,this,UL]
theorem Prog.ok.wf {p:Prog}(h:p.ok):∀s∈p.steps,s.cond.wf:=fun s hs=>kR h.lines.1 h.lines.2 s.cond 1 (h.cond s hs)
theorem dU (s:St)(l:List Z5):CRow s (.fz (l.map Zw)) l:=by
 refine⟨by rw[<-WH,ZI,agC],fun i h=>⟨.fp l[i].cells 0,?_,fun s' _=>?_⟩,rfl,rfl⟩
 ·have:=Vr 7 false (l.map Zw) .i64 i (Zw l[i]) (by omega) (by rw[amn,alV,aaa h];rfl) (by rw[ZV];rfl) (by decide);rw[WH,ZV] at this;exact this
 ·rw[ZV];simp only[Z5.cells];simp only[go_sem]
theorem sB {l:List Z5}(h:∀c∈l,c.wf)(ZC:l≠[]):ZJ l≠[]:=by
 cases l with
 |nil=>exact absurd rfl ZC
 |cons c l =>
  rw[ZJ];intro e;exact CD c (h c (aba ..)) (List.append_eq_nil_iff.1 e).1
theorem ZK.kQ {s:St}{B:Nat}{t:TypeId}{n i:Nat}{cs:List AV}{v:AV}(h:ZK s B t n i cs v)(hi:i≠0):still v=false:=by
 rcases h with⟨h0,_,_⟩|⟨_,_,b,_,_,rfl,_⟩
 ·exact absurd h0 hi
 ·rfl
theorem F9 (lines:Int):∀(l:List Step) (i:Nat),Ls lines i (l.map Step.norm)=Ls lines i l
 |[],_=>rfl
 |s::l,i=>by
  rw[alT,Ls,Ls,F9 lines l (i+1)];simp only[Step.norm,qL]
theorem Ds (p:Prog):At p.norm=At p:=by
 rw[At,At,Prog.norm];simp only[agC,F9]
theorem F8 {p:Prog}(h:p.fits):p.norm.fits:=by
 refine⟨by rw[Prog.norm];simp only[agC];exact h.1,fun s hs=>?_⟩;rw[Prog.norm] at hs;obtain⟨y,hy,rfl⟩:=alN.1 hs;exact wz _ (h.2 y hy)
theorem F7 {n:Nat}:∀(l:List Z5),(∀c∈l,(Ve c).length<=n)->(ZJ l).length<=l.length*n
 |[],_=>by simp[ZJ]
 |c::l,h=>by
  have h1:=h c (aba ..);have h2:=F7 l fun x hx=>h x (aab _ hx)
  rw[ZJ,agy,akd,Nat.succ_mul];omega
structure PN where
 Yy:List Int
 cur:aD
 last:Int
 deriving DecidableEq
structure RN where
 marks:List Int
 cur:aD
 last:Int
 deriving DecidableEq
def fW (T:Nat->Int)(n:Nat)(h:Nat->Bool)(a:Nat)(k g:Int):aD×Bool :=
 bif !h a then ((a,k,g),false) else bif decide (k+1<T a) then ((a,k+1,g),false) else bif ((a:Int)+1==n) then ((0,0,0),true) else ((a+1,0,0),false)
def oe (W T:Nat->Int)(n:Nat)(h:Nat->Bool)(a:Nat)(k g:Int):aD×Bool :=
 bif decide (W a>0) then (bif decide (g+1>W a) then fW T n h 0 0 0 else fW T n h a k (g+1)) else fW T n h a k g
theorem w9 {T:Nat->Int}{n:Nat}{h:Nat->Bool}{a:Nat}{k g:Int}(ha:a<n):fW T n h a k g=aC T n h a k g:=by
 unfold fW aC
 cases !h a with
 |true=>rfl
 |false =>
  cases decide (k+1<T a) with
  |true=>rfl
  |false =>
   simp only[cond_false];by_cases he:a+1=n
   ·have e1:((a:Int)+1==n)=true:=by rw[beq_iff_eq];omega
    have e2:decide ((a:Int)+1<n)=false:=decide_eq_false (by omega);rw[e1,e2];rfl
   ·have e1:((a:Int)+1==n)=false:=by rw[beq_eq_false_iff_ne];omega
    have e2:decide ((a:Int)+1<n)=true:=decide_eq_true (by omega);rw[e1,e2];rfl
theorem adS {W T:Nat->Int}{n:Nat}{h:Nat->Bool}{a:Nat}{k g:Int}(h0:¬W 0>0)(ha:a<n):oe W T n h a k g=eS W T n h a k g:=by
 unfold oe eS
 cases hw:decide (W a>0) with
 |false=>exact w9 ha
 |true =>
  have od:(a:Int)>0:=by
   have:=of_decide_eq_true hw;rcases Nat.eq_zero_or_pos a with e|e
   ·subst e;exact absurd this h0
   ·omega
  rw[decide_eq_true od,al9,w9 (by omega:0<n),w9 ha];rfl
def YG (S:List Step)(x:PN)(y:Nat):PN×Bool :=
 let r:=eS (Wn S) (Tm S) S.length (JZ (outs (S.map Step.cond) (Xu (y:Int) (Yv x.last y) (decide (x.last<0)) (ZJ (S.map Step.cond)) x.Yy))) x.cur.1 x.cur.2.1 x.cur.2.2
 (⟨WN (y:Int) (Yv x.last y) (decide (x.last<0)) (ZJ (S.map Step.cond)) x.Yy,r.1,y⟩,r.2)
def Y_ (S:List Step)(x:RN)(y:Nat):RN×Bool :=
 let r:=oe (Wn S) (Tm S) S.length (JZ (U0 x.last y (S.map Step.cond) x.marks).1) x.cur.1 x.cur.2.1 x.cur.2.2
 (⟨(U0 x.last y (S.map Step.cond) x.marks).2.1,r.1,y⟩,r.2)
def EW (S:List Step)(x:RN):PN:=⟨Jp (S.map Step.cond) x.marks,x.cur,x.last⟩
structure EY (S:List Step)(c:aD):Prop where
 a:c.1<S.length
 k:0<=c.2.1/\c.2.1<Tm S c.1
 g:0<=c.2.2/\c.2.2<=Wn S c.1
structure Sj (S:List Step)(m:Nat)(x:RN):Prop where
 last : -1<=x.last/\x.last<m
 marks:MF x.last (S.map Step.cond) x.marks
 cur:EY S x.cur
structure Y0 (S:List Step):Prop where
 ne:0<S.length
 wf:∀s∈S,s.cond.wf
 tm:∀s∈S,1<=s.times/\s.times<=64
 wi:∀s∈S,0<=s.within/\s.within<=255
 w0:Wn S 0=0
theorem Y0.tmA {S:List Step}(h:Y0 S){a:Nat}(ha:a<S.length):1<=Tm S a:=by rw[G3 ha];exact (h.tm _ (adm ha)).1
theorem Y0.wiA {S:List Step}(h:Y0 S){a:Nat}(ha:a<S.length):0<=Wn S a:=by rw[D0 ha];exact (h.wi _ (adm ha)).1
theorem Y0.rH {S:List Step}(h:Y0 S):∀c∈S.map Step.cond,c.wf:=fun c hc=>by
 obtain⟨s,hs,rfl⟩:=alN.1 hc;exact h.wf s hs
theorem G2 {S:List Step}(h:Y0 S){H:Nat->Bool}{a:Nat}{k g:Int}(hc:EY S (a,k,g)):EY S (aC (Tm S) S.length H a k g).1:=by
 unfold aC;have h0:EY S (0,0,0):=⟨h.ne,⟨Int.le_refl _,by have:=h.tmA h.ne;show (0:Int)<Tm S 0;omega⟩,Int.le_refl _,h.wiA h.ne⟩
 cases !H a with
 |true=>exact hc
 |false =>
  cases hk:decide (k+1<Tm S a) with
  |true=>exact⟨hc.a,⟨by have:=hc.k.1;show (0:Int)<=k+1;have:(0:Int)<=k:=this;omega,of_decide_eq_true hk⟩,hc.g⟩
  |false =>
   cases hn:decide ((a:Int)+1<S.length) with
   |true =>
    have hn:=of_decide_eq_true hn;have ha:a+1<S.length:=by omega
    exact⟨ha,⟨Int.le_refl _,by have:=h.tmA ha;show (0:Int)<Tm S (a+1);omega⟩,Int.le_refl _,h.wiA ha⟩
   |false=>exact h0
theorem mR {S:List Step}(h:Y0 S){H:Nat->Bool}{a:Nat}{k g:Int}(hc:EY S (a,k,g)):EY S (eS (Wn S) (Tm S) S.length H a k g).1:=by
 unfold eS;have h0:EY S (0,0,0):=⟨h.ne,⟨Int.le_refl _,by have:=h.tmA h.ne;show (0:Int)<Tm S 0;omega⟩,Int.le_refl _,h.wiA h.ne⟩
 cases hw:decide (Wn S a>0) with
 |false=>exact G2 h hc
 |true =>
  cases hq:decide ((a:Int)>0)&&decide (g+1>Wn S a) with
  |true=>exact G2 h h0
  |false =>
   have od:a≠0:=fun e=>by
    subst e;have:=of_decide_eq_true hw;rw[h.w0] at this;exact absurd this (by decide)
   rw[decide_eq_true (show (a:Int)>0 by omega),al9] at hq;have hq:=of_decide_eq_false hq;have hg:(0:Int)<=g:=hc.g.1;exact G2 h ⟨hc.a,hc.k,by show (0:Int)<=g+1;omega,by show g+1<=Wn S a;omega⟩
theorem So {S:List Step}(h:Y0 S){m:Nat}{x:RN}(hx:Sj S m x){y:Nat}(hy:y<m) :
  EW S (Y_ S x y).1=(YG S (EW S x) y).1/\(Y_ S x y).2=(YG S (EW S x) y).2/\Sj S m (Y_ S x y).1:=by
 have hb:=QH (last:=x.last) (sym:=(y:Int)) (S.map Step.cond) x.marks (fun c hc ms hm=>PS hx.last.1 c (h.rH c hc) ms hm) hx.marks;obtain⟨len,run⟩:=hb;obtain⟨bs,own,e1,e2,e3,e4,e5,e6,e7⟩:=run [];rw[alZ] at e1;have e7:=e7 [];rw[alZ] at e7;obtain⟨marks,⟨a,k,g⟩,last⟩:=x;have hW:¬Wn S 0>0:=by rw[h.w0];decide
 have hm:=adS (T:=Tm S) (n:=S.length) (h:=JZ bs) (k:=k) (g:=g) hW hx.cur.a;simp only at e1 e4 e7 hm;unfold Y_ YG EW;simp only[e1,e7,hm,e4];refine⟨trivial,trivial,⟨⟨by show (-1:Int)<=(y:Int);omega,by show (y:Int)<m;omega⟩,e2,mR h hx.cur⟩⟩
def Cp (S:List Step):RN:=⟨List.replicate (ZS (S.map Step.cond)) 0,(0,0,0),-1⟩
def AO (S:List Step):PN:=⟨(ZJ (S.map Step.cond)).map VW,(0,0,0),-1⟩
theorem Co:∀(l:List Z5),(∀c∈l,Km (-1) c (List.replicate (leaves c) 0)/\LO c (List.replicate (leaves c) 0)=(Ve c).map VW) ->
  MF (-1) l (List.replicate (ZS l) 0)/\Jp l (List.replicate (ZS l) 0)=(ZJ l).map VW
 |[],_=>⟨by rw[MF,ZS];rfl,by rw[Jp,ZJ];rfl⟩
 |c::l,h=>by
  obtain⟨h1,h2⟩:=h c (aba ..);obtain⟨k1,k2⟩:=Co l fun x hx=>h x (aab _ hx)
  have e:List.replicate (ZS (c::l)) (0:Int)=List.replicate (leaves c) 0++List.replicate (ZS l) 0:=by
   rw[ZS,List.replicate_append_replicate]
  refine⟨?_,?_⟩
  ·rw[MF,e];exact⟨_,_,rfl,by simp,h1,k1⟩
  ·have hd:(List.replicate (leaves c) (0:Int)++List.replicate (ZS l) 0).drop (leaves c)=List.replicate (ZS l) 0:=by
    have:=amy (l₁:=List.replicate (leaves c) (0:Int)) (l₂:=List.replicate (ZS l) 0)
    rwa [List.length_replicate] at this
   rw[Jp,e,LN c _ _ h1,hd,h2,k2,ZJ,alY]
theorem eR:∀c:Z5,c.wf->Km (-1) c (List.replicate (leaves c) 0)/\LO c (List.replicate (leaves c) 0)=(Ve c).map VW:=by
 intro c
 induction c using Z5.ind with
 |h k a b mi ma p nl kids ih =>
  intro S3;have Xz:=S3.A9;have ME:=S3;rw[Z5.wf] at ME;have QJ:∀x∈kids,x.wf:=ME.2.2.2.2.2.2.2.2.2.2.2.2;have e:List.replicate (leaves (.mk k a b mi ma p nl kids)) (0:Int)=0::List.replicate (ZS kids) 0:=by rw[leaves];rfl
  cases hk:XD k with
  |true =>
   obtain⟨k1,k2⟩:=Co kids fun x hx=>ih x hx (QJ x hx)
   rw[e,Km,LO,Ve,hk,if_pos rfl];exact⟨⟨_,rfl,k1⟩,k2⟩
  |false =>
   have Cn:kids=[]:=by
    have:=Rf S3;rw[hk] at this;exact ME.2.2.2.2.2.2.2.2.1 this.symm
   have e2:List.replicate (ZS kids) (0:Int)=[]:=by rw[Cn,ZS];rfl
   rw[e,e2,Km,LO,Ve,hk,if_neg (by decide)];refine⟨⟨0,rfl,rn _ _ Xz.mi.1 Xz.ma.1⟩,?_⟩;have:=rm (.mk k a b mi ma p nl kids);simp only[cond_false,List.headD_cons,alT,List.map_nil];rw[<-this];rfl
theorem Sn {S:List Step}(h:Y0 S){m:Nat}:EW S (Cp S)=AO S/\Sj S m (Cp S):=by
 obtain⟨k1,k2⟩:=Co (S.map Step.cond) fun c hc=>eR c (h.rH c hc)
 refine⟨?_,⟨⟨Int.le_refl _,?_⟩,k1,⟨h.ne,⟨Int.le_refl _,?_⟩,Int.le_refl _,h.wiA h.ne⟩⟩⟩
 ·unfold EW Cp AO;simp only[k2]
 ·show (-1:Int)<m;omega
 ·have:=h.tmA h.ne;show (0:Int)<Tm S 0;omega
end Go.Am
namespace Go.Am
open Go
variable [Z4]
set_option maxRecDepth 100000
set_option maxHeartbeats 8000000
theorem dW (c:Z5)(hc:c.A9){m last sym Og:Int}(hm : -1<=m/\m<=257)(hs:Qe sym):ZE U 218 [Zw c,.int .i64 m,.int .i64 last,.int .i64 sym,.int .i64 Og]=some (.int .i64 (mJ c m last sym Og)):=by
 refine ZR aiQ (by kernel_rfl) (by simp[ZU,Zt,still]) ?_;have b1:=JH sym c.a hs.1 (by have:=hs.2;omega) hc.a.1 (by have:=hc.a.2;omega);have hM:=hc.ma;have w1:IntKind.i64.wrap (c.ma+1)=c.ma+1:=by rw[wrap_i64] <;> omega
 have w2:IntKind.i64.wrap (m+1)=m+1:=by rw[wrap_i64] <;> omega
 rw[ZV,mJ]
 cases h1:Zy sym c.a != Og <;> cases h2:decide (last<0) <;> cases h3:decide (m<0)
 all_goals simp (maxSteps:=2000000) +contextual only[go_sem,aeT,Z5.cells,b1,h1,h2,h3,w1,w2,Pw]
 all_goals rfl
theorem Gi (m:Int)(rest:List Int):Ud 1 (.fz (ints (m::rest))) (.int .i64 0)=some (.fp [.int .i64 m] 0):=by
 have:=Vr 1 false (ints (m::rest)) .i64 0 (.int .i64 m) (by omega) rfl rfl (by decide);rw[WH] at this;exact this
theorem Gh (m:Int)(rest:List Int):Es 1 (.fz (ints (m::rest))) (some (.int .i64 1)) none=some (.fz (ints rest)):=by
 have hc:∀x:Int,(AV.int IntKind.i64 x).cells.length=1:=fun x=>rfl
 have h1:(1:Int)<=(rest.length:Int)+1:=by omega
 have h2:List.take rest.length (List.map (fun x=>AV.int IntKind.i64 x) rest)=List.map (fun x=>AV.int IntKind.i64 x) rest:=List.take_of_length_le (by simp);simp[Es,Yz,ints,hc,h1,h2]
theorem lh {d:Kd}{c:Z5}(hc:c.A9){m last:Int}(h:xA d c m last) : -1<=m/\m<=257:=by
 have h1:=hc.mi;have h2:=hc.ma
 cases d <;> simp only[xA] at h <;> omega
theorem z97 {args:List AV}{s:St}(h:ZU args=false):X6 U (ZE U 97 args) 97 args s=UR U 97 (Y' (Yn U s 40) args) s:=Ke (by kernel_rfl) s h
theorem aeU (c:Z5)(S3:c.wf)(Tk:(ZF c.kind).leaf=true){m last sym:Int}(fN:xA (ZF c.kind) c m last)(hs:Qe sym)(hl : -1<=last/\last<65536)(rest:List Int)(hf:decide (last<0)=true) :
  ZE U 176 [Zw c,.fz (ints (m::rest)),.int .i64 last,.int .i64 sym]=some (.XU [.bool (Qs (ZF c.kind) c m last sym).2,.fz [.int .i64 (Qs (ZF c.kind) c m last sym).1],.fz (ints rest)]):=by
 refine ZR abC (by kernel_rfl) (by simp[ZU,Zt,still]) ?_;have Xz:=S3.A9;have hm:=lh Xz fN;have hM:=Xz.ma;have hMi:=Xz.mi;have hw:Qe (Yv last sym):=by
  unfold Yv
  cases hd:decide (last<0) with
  |true=>exact hs
  |false=>have:=of_decide_eq_false hd;exact⟨by simp only[cond_false];omega,by simp only[cond_false];exact hl.2⟩
 have b1:=JH sym c.a hs.1 (by have:=hs.2;omega) Xz.a.1 (by have:=Xz.a.2;omega);have b2:=JH (Yv last sym) c.a hw.1 (by have:=hw.2;omega) Xz.a.1 (by have:=Xz.a.2;omega);have b3:=JH sym c.b hs.1 (by have:=hs.2;omega) Xz.b.1 (by have:=Xz.b.2;omega);have b4:=JH (Yv last sym) c.b hw.1 (by have:=hw.2;omega) Xz.b.1 (by have:=Xz.b.2;omega);have x1:=Gi m rest;have x2:=Gh m rest;have d1:=dW c Xz (last:=last) (Og:=1) hm hs;have d0:=dW c Xz (last:=last) (Og:=0) hm hs;have o1:=aA m c.mi c.ma;have w1:IntKind.i64.wrap (m+1)=m+1:=by rw[wrap_i64] <;> omega
 have w2:IntKind.i64.wrap (c.mi+1)=c.mi+1:=by rw[wrap_i64] <;> omega
 have abD:Hb [Yv last sym,sym]:=by
  refine⟨by simp,fun x hx=>?_⟩;rcases alL.1 hx with rfl|hx
  ·exact hw
  ·rw[ake.1 hx];exact hs
 have vP:=c97 false [Yv last sym,sym] abD 1 (by simp) c S3;rw[WH] at vP;have e11:∀(p:Bool) (x y:AV),(bif p then some x else some y)=some (bif p then x else y):=fun p x y=>by cases p <;> rfl
 obtain⟨h0,h1,h2,h3,h4,h5,h6,h7,h8,h9,h10,h11,h12,h13,h14⟩:=UN c.kind;rw[ZV] at d1 d0 vP ⊢;simp only[Z5.cells] at d1 d0 vP ⊢;have qp:Yv last sym=sym:=by unfold Yv;rw[hf];rfl
 have BU:Cl c last sym=(Zy sym c.a != Zy sym c.a):=by unfold Cl;rw[qp]
 rw[qp] at b2 b4 vP;have vP:ZE U 97 [.agg [.str c.kind,.int .i64 c.a,.int .i64 c.b,.int .i64 c.mi,.int .i64 c.ma,.str c.pat,ZG c.nl (WW c.kids)],.fz [.int .i64 sym,.int .i64 sym],.int .i64 1]=some (.bool (atR [sym,sym] 1 c)):=vP;have hcz:=fun S=>Hc vP (by kernel_rfl) (by simp[ZU,still,X7]) rfl S
 generalize hkd:ZF c.kind=dd at *;generalize hp:(Zy sym c.a != Zy sym c.a)=p at *
 cases dd
 all_goals simp only[reduceCtorEq,decide_true,decide_false] at h1 h2 h3 h4 h5 h6 h7 h8 h9 h10 h11 h12 h13 h14
 case Vj =>
  simp only[Qs,BU];simp (maxSteps:=2000000) +contextual only[go_sem,Pu,hf,x1,x2,b1,h7,hp,d1,o1]
  all_goals (cases p <;> cases (Zy sym c.a==0) <;> rfl)
 case gap =>
  simp only[Qs,BU];simp (maxSteps:=2000000) +contextual only[go_sem,Pu,U4,hf,x1,x2,b1,h7,h8,hp,d0,o1]
  all_goals (cases p <;> cases (Zy sym c.a==1) <;> rfl)
 case idle =>
  simp only[Qs,BU,hf];simp (maxSteps:=2000000) +contextual only[go_sem,Pu,U4,Us,hf,x1,x2,b1,w1,w2,Pw,h7,h8,h9,hp]
  all_goals (cases p <;> rfl)
 case setup =>
  simp only[Qs,BU,qp];simp (maxSteps:=2000000) +contextual only[go_sem,Pu,U4,Us,TB,hf,x1,x2,b1,b3,w1,h7,h8,h9,h10,hp]
  all_goals (cases p <;> cases decide (m>0) <;> cases decide (m<c.mi) <;> rfl)
 case Uf =>
  simp only[Qs,BU,hf];simp (maxSteps:=2000000) +contextual only[go_sem,Pu,U4,Us,TB,Rw,hf,x1,x2,b1,h7,h8,h9,h10,h11,hp]
  all_goals (cases p <;> cases (Zy sym c.a==0) <;> cases (Zy sym c.b==1) <;> rfl)
 case QG=>cases Tk
 case EU=>cases Tk
 case OV=>cases Tk
 case other=>cases Tk
 all_goals
  simp only[Qs,qp];simp (maxSteps:=2000000) +contextual only[go_sem,Pu,U4,Us,TB,Rw,Ps,vO,hf,x1,x2,b1,h7,h8,h9,h10,h11,h12,h13,h14,hp,z97,VD,Wo,Sr,Sq,amo,TX,UL,hcz]
  skip
theorem aeV (c:Z5)(S3:c.wf)(Tk:(ZF c.kind).leaf=true){m last sym:Int}(fN:xA (ZF c.kind) c m last)(hs:Qe sym)(hl : -1<=last/\last<65536)(rest:List Int)(hf:decide (last<0)=false) :
  ZE U 176 [Zw c,.fz (ints (m::rest)),.int .i64 last,.int .i64 sym]=some (.XU [.bool (Qs (ZF c.kind) c m last sym).2,.fz [.int .i64 (Qs (ZF c.kind) c m last sym).1],.fz (ints rest)]):=by
 refine ZR abC (by kernel_rfl) (by simp[ZU,Zt,still]) ?_;have Xz:=S3.A9;have hm:=lh Xz fN;have hM:=Xz.ma;have hMi:=Xz.mi;have hw:Qe (Yv last sym):=by
  unfold Yv
  cases hd:decide (last<0) with
  |true=>exact hs
  |false=>have:=of_decide_eq_false hd;exact⟨by simp only[cond_false];omega,by simp only[cond_false];exact hl.2⟩
 have b1:=JH sym c.a hs.1 (by have:=hs.2;omega) Xz.a.1 (by have:=Xz.a.2;omega);have b2:=JH (Yv last sym) c.a hw.1 (by have:=hw.2;omega) Xz.a.1 (by have:=Xz.a.2;omega);have b3:=JH sym c.b hs.1 (by have:=hs.2;omega) Xz.b.1 (by have:=Xz.b.2;omega);have b4:=JH (Yv last sym) c.b hw.1 (by have:=hw.2;omega) Xz.b.1 (by have:=Xz.b.2;omega);have x1:=Gi m rest;have x2:=Gh m rest;have d1:=dW c Xz (last:=last) (Og:=1) hm hs;have d0:=dW c Xz (last:=last) (Og:=0) hm hs;have o1:=aA m c.mi c.ma;have w1:IntKind.i64.wrap (m+1)=m+1:=by rw[wrap_i64] <;> omega
 have w2:IntKind.i64.wrap (c.mi+1)=c.mi+1:=by rw[wrap_i64] <;> omega
 have abD:Hb [Yv last sym,sym]:=by
  refine⟨by simp,fun x hx=>?_⟩;rcases alL.1 hx with rfl|hx
  ·exact hw
  ·rw[ake.1 hx];exact hs
 have vP:=c97 false [Yv last sym,sym] abD 1 (by simp) c S3;rw[WH] at vP;have e11:∀(p:Bool) (x y:AV),(bif p then some x else some y)=some (bif p then x else y):=fun p x y=>by cases p <;> rfl
 obtain⟨h0,h1,h2,h3,h4,h5,h6,h7,h8,h9,h10,h11,h12,h13,h14⟩:=UN c.kind;rw[ZV] at d1 d0 vP ⊢;simp only[Z5.cells] at d1 d0 vP ⊢;have qp:Yv last sym=last:=by unfold Yv;rw[hf];rfl
 have BU:Cl c last sym=(Zy sym c.a != Zy last c.a):=by unfold Cl;rw[qp]
 rw[qp] at b2 b4 vP;have vP:ZE U 97 [.agg [.str c.kind,.int .i64 c.a,.int .i64 c.b,.int .i64 c.mi,.int .i64 c.ma,.str c.pat,ZG c.nl (WW c.kids)],.fz [.int .i64 last,.int .i64 sym],.int .i64 1]=some (.bool (atR [last,sym] 1 c)):=vP;have hcz:=fun S=>Hc vP (by kernel_rfl) (by simp[ZU,still,X7]) rfl S
 generalize hkd:ZF c.kind=dd at *;generalize hp:(Zy sym c.a != Zy last c.a)=p at *
 cases dd
 all_goals simp only[reduceCtorEq,decide_true,decide_false] at h1 h2 h3 h4 h5 h6 h7 h8 h9 h10 h11 h12 h13 h14
 case Vj =>
  simp only[Qs,BU];simp (maxSteps:=2000000) +contextual only[go_sem,Pu,hf,x1,x2,b1,b2,h7,hp,d1,o1]
  all_goals (cases p <;> cases (Zy sym c.a==0) <;> rfl)
 case gap =>
  simp only[Qs,BU];simp (maxSteps:=2000000) +contextual only[go_sem,Pu,U4,hf,x1,x2,b1,b2,h7,h8,hp,d0,o1]
  all_goals (cases p <;> cases (Zy sym c.a==1) <;> rfl)
 case idle =>
  simp only[Qs,BU,hf];simp (maxSteps:=2000000) +contextual only[go_sem,Pu,U4,Us,hf,x1,x2,b1,b2,w1,w2,Pw,h7,h8,h9,hp]
  all_goals (cases p <;> rfl)
 case setup =>
  simp only[Qs,BU,qp];simp (maxSteps:=2000000) +contextual only[go_sem,Pu,U4,Us,TB,hf,x1,x2,b1,b2,b3,b4,w1,h7,h8,h9,h10,hp]
  all_goals (cases p <;> cases decide (m>0) <;> cases decide (m<c.mi) <;> rfl)
 case Uf =>
  simp only[Qs,BU,hf];simp (maxSteps:=2000000) +contextual only[go_sem,Pu,U4,Us,TB,Rw,hf,x1,x2,b1,b2,b3,h7,h8,h9,h10,h11,hp]
  all_goals (cases p <;> cases (Zy sym c.a==0) <;> cases (Zy sym c.b==1) <;> rfl)
 case QG=>cases Tk
 case EU=>cases Tk
 case OV=>cases Tk
 case other=>cases Tk
 all_goals
  simp only[Qs,qp];simp (maxSteps:=2000000) +contextual only[go_sem,Pu,U4,Us,TB,Rw,Ps,vO,hf,x1,x2,b1,b2,h7,h8,h9,h10,h11,h12,h13,h14,hp,z97,VD,Wo,Sr,Sq,amo,TX,UL,hcz]
  skip
theorem agm (c:Z5)(S3:c.wf)(Tk:(ZF c.kind).leaf=true){m last sym:Int}(fN:xA (ZF c.kind) c m last)(hs:Qe sym)(hl : -1<=last/\last<65536)(rest:List Int) :
  ZE U 176 [Zw c,.fz (ints (m::rest)),.int .i64 last,.int .i64 sym]=some (.XU [.bool (Qs (ZF c.kind) c m last sym).2,.fz [.int .i64 (Qs (ZF c.kind) c m last sym).1],.fz (ints rest)]):=by
 cases hf:decide (last<0) with
 |true=>exact aeU c S3 Tk fN hs hl rest hf
 |false=>exact aeV c S3 Tk fN hs hl rest hf
def N5 (bs:List Bool):Nat:=(bs.filter id).length
theorem bQ (bs:List Bool):N5 bs<=bs.length:=List.length_filter_le ..
theorem Kz (bs:List Bool):(((N5 bs:Nat):Int)==0)=!bs.any id:=by
 induction bs with
 |nil=>rfl
 |cons b l ih =>
  unfold N5 at *
  cases b with
  |true=>simp;omega
  |false=>simpa using ih
theorem FJ (bs:List Bool):decide (((N5 bs:Nat):Int)>0)=bs.any id:=by
 have:=Kz bs;rw[<-Bool.not_not (bs.any id),<-this];rw[amj];simp;omega
theorem FI (bs:List Bool):(((N5 bs:Nat):Int)==((bs.length:Nat):Int))=bs.all id:=by
 induction bs with
 |nil=>rfl
 |cons b l ih =>
  have h:=bQ l;unfold N5 at *
  cases b with
  |true =>
   simp only[List.filter_cons,id_eq,if_true,akd,List.all_cons,al9];rw[<-ih,amj];simp
  |false =>
   simp only[List.filter_cons,id_eq,ali,if_false,akd,List.all_cons,amq];rw[beq_eq_false_iff_ne];omega
theorem bP {s:St}{b n:Nat}{cap:Option Nat}{L own:List Int}(TN:cap=none\/cap=some n)(hl:L.length=n)(g:s.get b=some (.cells (ints L) 3 false 0 0))(hb:b<s.next)(hm:own≠[]) :
  ∃s1,Rx 3 1 own.length (ints own) (.sl b 0 n cap 1) s=some (.sl s.next 0 (n+own.length) none 1,s1)/\s1.next=s.next+1/\s1.get s.next=some (.cells (ints (L++own)) 3 false 0 0)/\(∀j,j<s.next->j≠b->s1.get j=s.get j)/\(Fr s->Fr s1):=by
 have hi:ints (L++own)=ints L++ints own:=by simp[ints]
 have hp:own.length≠0:=fun e=>hm (al6.1 e)
 rcases TN with rfl|rfl
 ·refine⟨(s.put b .gone).new (.cells (ints L++ints own) 3 false 0 0),?_,rfl,?_,fun j h1 h2=>?_,fun hf=>(hf.put hb _).new _⟩
  ·rw[TR,g,VA (by rw[YK];omega) (by omega) (XR _)]
  ·rw[Z7,Z',if_pos rfl,hi]
  ·rw[Z7,Z',if_neg (by omega),Z9,if_neg (by omega)]
 ·refine⟨s.new (.cells (ints L++ints own) 3 false 0 0),?_,rfl,?_,fun j h1 h2=>?_,fun hf=>hf.new _⟩
  ·rw[T1 g (by rw[YK];omega) (by omega)]
  ·rw[Z7,if_pos rfl,hi]
  ·rw[Z7,if_neg (by omega)]
theorem oU (bs:List Bool)(b:Bool):N5 (bs++[b])=N5 bs+(bif b then 1 else 0):=by
 unfold N5
 cases b <;> simp
theorem oR {ks:List K}{ZB:Option AV->Prop}{last sym:Int}{kids:List Z5}{k p:XV}{a b mi ma:Int}{nl:Bool}{r rest:List Int}{b0:Nat}
  (ih:∀x∈kids,∀ms,Km last x ms->∀rest,ZE U 176 [Zw x,.fz (ints (ms++rest)),.int .i64 last,.int .i64 sym]=some (.XU [.bool (RX last sym x (ms++rest)).1,.fz (ints (RX last sym x (ms++rest)).2.1),.fz (ints rest)]))
  (agn:∀x∈kids,∀ms,Km last x ms->dZ last sym x ms)(hr:MF last kids r)(VY:ZS kids<=2^20)(fY:kids.length<=8)
  {e:Env}{s:St}(g2:Env.get e 2=.int .i64 last)(g3:Env.get e 3=.int .i64 sym)(g4:Env.get e 4=.ptr 8 0)(Bl:Env.get e 13=.fz (ints (r++rest)))(bV:Env.get e 18=.int .i64 (0:Nat))(g19:Env.get e 19=.sl b0 0 1 (some 1) 1)(g20:Env.get e 20=.int .i64 (0:Nat))
  (g8:s.get 8=some (.cells [.str k,.int .i64 a,.int .i64 b,.int .i64 mi,.int .i64 ma,.str p,ZG nl (WW kids)] 39 false 0 0))(g9:s.get b0=some (.cells (ints [0]) 3 false 0 0))(Er:9<=b0)(EO:b0<s.next)(fr:Fr s)
  (hk:∀e' s' b' n cap,Env.get e' 4=.ptr 8 0->Env.get e' 13=.fz (ints rest)->Env.get e' 18=.int .i64 (N5 (U0 last sym kids (r++rest)).1:Nat)->Env.get e' 19=.sl b' 0 n cap 1->n=(0::(U0 last sym kids (r++rest)).2.1).length->s'.get b'=some (.cells (ints (0::(U0 last sym kids (r++rest)).2.1)) 3 false 0 0) ->
   s'.get 8=some (.cells [.str k,.int .i64 a,.int .i64 b,.int .i64 mi,.int .i64 ma,.str p,ZG nl (WW kids)] 39 false 0 0)->Fr s'->ZB (goN U (Mt U [.tmp 8,.tmp 9,.tmp 10]) ks e' s')) :
  ZB (SD U (Mt U [.tmp 8,.tmp 9,.tmp 10]) (.bk 1::ks) KK e s):=by
 have NA:=ZI nl (WW kids);rw[Yd] at NA;refine YP (σ:=Nat) (fun i=>kids.length-i) (fun i e' s'=>i<=kids.length/\Env.get e' 2=.int .i64 last/\Env.get e' 3=.int .i64 sym/\Env.get e' 4=.ptr 8 0/\Env.get e' 20=.int .i64 (i:Nat)/\s'.get 8=some (.cells [.str k,.int .i64 a,.int .i64 b,.int .i64 mi,.int .i64 ma,.str p,ZG nl (WW kids)] 39 false 0 0)/\10<=s'.next/\Fr s' /\
   ∃v A_ SK b' n cap,Env.get e' 13=.fz (ints (v++rest))/\MF last (kids.drop i) v/\A_++(U0 last sym (kids.drop i) (v++rest)).1=(U0 last sym kids (r++rest)).1/\SK++(U0 last sym (kids.drop i) (v++rest)).2.1=0::(U0 last sym kids (r++rest)).2.1 /\
    Env.get e' 18=.int .i64 (N5 A_:Nat)/\N5 A_<=i/\Env.get e' 19=.sl b' 0 n cap 1/\(cap=none\/cap=some n)/\n=SK.length/\s'.get b'=some (.cells (ints SK) 3 false 0 0)/\9<=b'/\b'<s'.next/\SK.length+ZS (kids.drop i)<=2^20+1) 0 ?_
  ⟨aic _,g2,g3,g4,g20,g8,by omega,fr,r,[],[0],b0,1,some 1,Bl,hr,rfl,rfl,bV,agB _,g19,.inr rfl,rfl,g9,Er,EO,by rw[amd];simp;omega⟩
 rintro Lp i e' s' ⟨hi,q2,q3,q4,mh,u8,Vl,Xx,v,A_,SK,b',n,cap,Cb,hv,LQ,how,q18,hct,ey,TN,SX,gb,hb9,eG,hlen⟩ IH;by_cases hd:i<kids.length
 ·have Rm:=ZN hd (by omega);have hx:(WW kids)[i]? = some (Zw kids[i]):=by rw[Vb,aaa hd];rfl
  rw[abc hd,MF] at hv;obtain⟨u,v',rfl,hu,Pd,Mv⟩:=hv;obtain⟨Af,run⟩:=agn kids[i] (adm hd) u Pd;obtain⟨is,ow,e1,k1,k2,_,_⟩:=run (v'++rest);have hc:=ih kids[i] (adm hd) u Pd (v'++rest);rw[e1] at hc;simp only at hc;rw[alS] at Cb LQ how;rw[abc hd,U0,e1] at LQ how;simp only at LQ how;rw[abc hd,ZS] at hlen;have hlp:=RR kids[i];have b_:ow≠[]:=fun e=>by rw[e] at k2;simp at k2;omega
  have ago:ow.length≠0:=by omega
  have Mg:=RJ ow;have Jl:Go.Am.Xj (.sl b' 0 n cap 1)=n:=rfl;have UP:(n+ow.length)*8<=1099511627776:=by omega
  have VP:n+ow.length<=1099511627776:=by omega
  have ra:=YK ow;have f8:(b'=8)=False:=by simp;omega
  have Mx:IntKind.i64.wrap (((N5 A_:Nat):Int)+1)=((N5 A_+1:Nat):Int):=by rw[wrap_i64] <;> omega
  have bO:=Vr 7 nl (WW kids) .i64 (i:Int) (Zw kids[i]) (by omega) (by rw[amn];exact hx) (by rw[ZV];rfl) (by decide);rw[ZV] at hc bO;simp only[Z5.cells,AV.cells] at hc bO;obtain⟨s1,d1,d2,d3,d4,d5⟩:=bP (own:=ow) TN SX.symm gb eG b_;have MT:=oU A_ is
  cases is with
  |true =>
   simp (maxSteps:=2000000) +contextual only[go_sem,KK,q2,q3,q4,Cb,q18,ey,mh,u8,NA,Z8,hd,bO,hc,Rm,Mx,Mg,ZH,Jl,UP,VP,ra,Nat.reducePow,ah1,ago,not_false_eq_true,d1];refine IH (i+1) _ _ (by omega) ⟨by omega,?_,?_,?_,?_,?_,by omega,d5 Xx,v',A_++[true],SK++ow,s'.next,n+ow.length,none,?_,Mv,by rw[alS];exact LQ,by rw[alS];exact how,?_,by rw[MT];simp;omega,?_,.inl rfl,by simp[SX],d3,by omega,by omega,by rw[agy];omega⟩
   case refine_5=>rw[d4 8 (by omega) (by omega)];exact u8
   all_goals simp +contextual only[go_sem,q2,q3,q4,MT]
  |false =>
   simp (maxSteps:=2000000) +contextual only[go_sem,KK,q2,q3,q4,Cb,ey,mh,u8,NA,Z8,hd,bO,hc,Rm,Mg,ZH,Jl,UP,VP,ra,Nat.reducePow,ah1,ago,not_false_eq_true,d1];refine IH (i+1) _ _ (by omega) ⟨by omega,?_,?_,?_,?_,?_,by omega,d5 Xx,v',A_++[false],SK++ow,s'.next,n+ow.length,none,?_,Mv,by rw[alS];exact LQ,by rw[alS];exact how,?_,by rw[MT];simp;omega,?_,.inl rfl,by simp[SX],d3,by omega,by omega,by rw[agy];omega⟩
   case refine_5=>rw[d4 8 (by omega) (by omega)];exact u8
   all_goals simp +contextual only[go_sem,q2,q3,q4,q18,MT,Nat.add_zero]
 ·have xb:i=kids.length:=by omega
  subst xb;rw[alO,MF] at hv;subst hv;rw[alO,U0] at LQ how;simp only[alZ] at LQ how;subst LQ;subst how;simp (maxSteps:=2000000) +contextual only[go_sem,KK,q4,mh,u8,NA,Z8,alh];exact hk _ _ b' n cap (by simp +contextual only[go_sem,q4]) (by simp +contextual only[go_sem,Cb]) (by simp +contextual only[go_sem,q18]) (by simp +contextual only[go_sem,ey]) SX gb u8 Xx
theorem FH {x:Z5}:∀{l:List Z5},x∈l->leaves x<=ZS l
 |c::l,h=>by
  rw[ZS];rcases alL.1 h with rfl|h
  ·omega
  ·have:=FH h;omega
theorem ajM {last sym:Int}(hs:Qe sym)(hl : -1<=last/\last<65536):∀c:Z5,c.wf->leaves c<=2^20->∀ms,Km last c ms->∀rest,
  ZE U 176 [Zw c,.fz (ints (ms++rest)),.int .i64 last,.int .i64 sym]=some (.XU [.bool (RX last sym c (ms++rest)).1,.fz (ints (RX last sym c (ms++rest)).2.1),.fz (ints rest)]):=by
 intro c
 induction c using Z5.ind with
 |h k a b mi ma p nl kids ih =>
 intro S3 VY ms OG rest;have agn:=PS (sym:=sym) hl.1 _ S3 ms OG;have ME:=S3;rw[Z5.wf] at ME;obtain⟨⟨od,ha1⟩,⟨Er,UP⟩,⟨oq,Be⟩,⟨hM0,hM1⟩,hp,-,Cn,eT,aga,ZC,Bi,fY,nk⟩:=ME;have iL:=OG;rw[Km] at iL
 cases hk:XD k with
 |false =>
  rw[hk,if_neg (by decide)] at iL;obtain⟨m,rfl,hm⟩:=iL;have Tk:(ZF k).leaf=true:=by
   have:=Rf S3;rw[hk] at this;generalize ZF k=d at *
   cases d <;> first|rfl|(simp[YQ] at this;done)|(simp[Kd.known] at Cn;done)
  have:=agm (.mk k a b mi ma p nl kids) S3 Tk hm hs hl rest;rw[List.singleton_append,this,RX,hk];rfl
 |true =>
  rw[hk,if_pos rfl] at iL;obtain⟨r,rfl,hr⟩:=iL;obtain⟨BT,lu⟩:=QH (sym:=sym) kids r (fun x hx ms hm=>PS hl.1 x (nk x hx) ms hm) hr;obtain⟨bs,own,q1,q2,q3,q4,q5,q6,q7⟩:=lu rest;have hwv:RX last sym (.mk k a b mi ma p nl kids) (0::r++rest)=(match ZF k with|.QG=>!bs.any id|.OV=>bs.any id|_=>bs.all id,0::own,rest):=by
   rw[RX,hk,cond_true,alU,List.tail_cons,q1]<;>rfl
  rw[hwv,alU];simp only;have L6:ZS kids<=2^20:=by rw[leaves] at VY;omega
  refine ZR abC (by kernel_rfl) (by simp[ZU,Zt,still]) ?_;have Iv:=Gi 0 (r++rest);have EI:=Gh 0 (r++rest);have hw:Qe (Yv last sym):=by
   unfold Yv
   cases hd:decide (last<0) with
   |true=>exact hs
   |false=>have:=of_decide_eq_false hd;exact⟨by simp only[cond_false];omega,by simp only[cond_false];exact hl.2⟩
  have b1:=JH sym a hs.1 (by have:=hs.2;omega) od (by omega);have b2:=JH (Yv last sym) a hw.1 (by have:=hw.2;omega) od (by omega);have NA:=ZI nl (WW kids);rw[Yd] at NA;obtain⟨h0,h1,h2,h3,h4,h5,h6,h7,h8,h9,h10,h11,h12,h13,h14⟩:=UN k;have hco:(k==[110,111,116]||(k==[97,108,108]||k==[97,110,121]))=true:=hk;have Tk:(YQ (ZF k)).kids=true:=by rw[<-Rf S3];exact hk
  have mV:∀(x:AV),x=.bool (k==[110,111,116]&&(((N5 bs:Nat):Int)==0)||(k==[97,108,108]&&(((N5 bs:Nat):Int)==((kids.length:Nat):Int))||k==[97,110,121]&&decide (((N5 bs:Nat):Int)>0)))->x=.bool (match ZF k with|.QG=>!bs.any id|.OV=>bs.any id|_=>bs.all id):=by
   intro x hx;rw[hx,Kz,FJ,<-q5,FI,h12,h13,h14];generalize ZF k=d at *
   cases d <;> first|(simp[YQ] at Tk;done)|(simp;done)
  have Dc:∀x∈kids,∀ms,Km last x ms->dZ last sym x ms:=fun x hx ms hm=>PS hl.1 x (nk x hx) ms hm
  have ihL:∀x∈kids,∀ms,Km last x ms->∀rest,ZE U 176 [Zw x,.fz (ints (ms++rest)),.int .i64 last,.int .i64 sym]=some (.XU [.bool (RX last sym x (ms++rest)).1,.fz (ints (RX last sym x (ms++rest)).2.1),.fz (ints rest)]):=fun x hx=>ih x hx (nk x hx) (amA (FH hx) L6)
  rw[Zw]
  cases hf:decide (last<0) with
  |true =>
   have qp:Yv last sym=sym:=by unfold Yv;rw[hf];rfl
   rw[qp] at b2;generalize hkd:ZF k=dd at *
   cases dd
   all_goals simp only[reduceCtorEq,decide_true,decide_false] at h1 h2 h3 h4 h5 h6 h7 h8 h9 h10 h11 h12 h13 h14
   case QG =>
    simp (maxSteps:=2000000) +contextual only[go_sem,Pu,U4,Us,TB,Rw,Ps,hf,Iv,EI,b1,h7,h8,h9,h10,h11,h12];refine oR (ZB:=fun (o:Option AV)=>o=some (.XU [.bool _,.fz (ints (0::own)),.fz (ints rest)])) (k:=k) (p:=p) (a:=a) (b:=b) (mi:=mi) (ma:=ma) (nl:=nl) ihL Dc hr (rest:=rest) (b0:=26) L6 fY ?_ ?_ ?_ ?_ ?_ ?_ ?_ ?_ ?_ ?_ ?_ ?_ ?_
    case refine_13 =>
     intro e' s' b' n cap E4 iK FG iJ hn gb u8 Xx;rw[q1] at FG hn gb;simp only at FG hn gb;have Rk:=Ux (d:=37) (cap:=cap) gb;rw[<-hn,VD] at Rk;simp (maxSteps:=2000000) +contextual only[go_sem,E4,iK,FG,iJ,u8,h12,h13,h14];rw[Rk];simp only[Kz];rfl
    case refine_12 =>
     repeat first|exact Fr.own|apply Fr.new|apply Fr.put|apply Fr.upto
     all_goals simp +contextual only[go_sem]
     all_goals first|omega|decide
    all_goals simp +contextual only[go_sem]
    all_goals first|rfl|omega|decide
   case EU =>
    simp (maxSteps:=2000000) +contextual only[go_sem,Pu,U4,Us,TB,Rw,Ps,hf,Iv,EI,b1,h7,h8,h9,h10,h11,h12,h13];refine oR (ZB:=fun (o:Option AV)=>o=some (.XU [.bool _,.fz (ints (0::own)),.fz (ints rest)])) (k:=k) (p:=p) (a:=a) (b:=b) (mi:=mi) (ma:=ma) (nl:=nl) ihL Dc hr (rest:=rest) (b0:=26) L6 fY ?_ ?_ ?_ ?_ ?_ ?_ ?_ ?_ ?_ ?_ ?_ ?_ ?_
    case refine_13 =>
     intro e' s' b' n cap E4 iK FG iJ hn gb u8 Xx;rw[q1] at FG hn gb;simp only at FG hn gb;have Rk:=Ux (d:=37) (cap:=cap) gb;rw[<-hn,VD] at Rk;simp (maxSteps:=2000000) +contextual only[go_sem,E4,iK,FG,iJ,u8,NA,h12,h13,h14];rw[Rk];simp only[<-FI,q5];rfl
    case refine_12 =>
     repeat first|exact Fr.own|apply Fr.new|apply Fr.put|apply Fr.upto
     all_goals simp +contextual only[go_sem]
     all_goals first|omega|decide
    all_goals simp +contextual only[go_sem]
    all_goals first|rfl|omega|decide
   case OV =>
    simp (maxSteps:=2000000) +contextual only[go_sem,Pu,U4,Us,TB,Rw,Ps,hf,Iv,EI,b1,h7,h8,h9,h10,h11,h12,h13,h14];refine oR (ZB:=fun (o:Option AV)=>o=some (.XU [.bool _,.fz (ints (0::own)),.fz (ints rest)])) (k:=k) (p:=p) (a:=a) (b:=b) (mi:=mi) (ma:=ma) (nl:=nl) ihL Dc hr (rest:=rest) (b0:=26) L6 fY ?_ ?_ ?_ ?_ ?_ ?_ ?_ ?_ ?_ ?_ ?_ ?_ ?_
    case refine_13 =>
     intro e' s' b' n cap E4 iK FG iJ hn gb u8 Xx;rw[q1] at FG hn gb;simp only at FG hn gb;have Rk:=Ux (d:=37) (cap:=cap) gb;rw[<-hn,VD] at Rk;simp (maxSteps:=2000000) +contextual only[go_sem,E4,iK,FG,iJ,u8,h12,h13,h14];rw[Rk];simp only[FJ];rfl
    case refine_12 =>
     repeat first|exact Fr.own|apply Fr.new|apply Fr.put|apply Fr.upto
     all_goals simp +contextual only[go_sem]
     all_goals first|omega|decide
    all_goals simp +contextual only[go_sem]
    all_goals first|rfl|omega|decide
   all_goals (simp[YQ] at Tk)
  |false =>
   have qp:Yv last sym=last:=by unfold Yv;rw[hf];rfl
   rw[qp] at b2;generalize hkd:ZF k=dd at *
   cases dd
   all_goals simp only[reduceCtorEq,decide_true,decide_false] at h1 h2 h3 h4 h5 h6 h7 h8 h9 h10 h11 h12 h13 h14
   case QG =>
    simp (maxSteps:=2000000) +contextual only[go_sem,Pu,U4,Us,TB,Rw,Ps,hf,Iv,EI,b1,b2,h7,h8,h9,h10,h11,h12];refine oR (ZB:=fun (o:Option AV)=>o=some (.XU [.bool _,.fz (ints (0::own)),.fz (ints rest)])) (k:=k) (p:=p) (a:=a) (b:=b) (mi:=mi) (ma:=ma) (nl:=nl) ihL Dc hr (rest:=rest) (b0:=26) L6 fY ?_ ?_ ?_ ?_ ?_ ?_ ?_ ?_ ?_ ?_ ?_ ?_ ?_
    case refine_13 =>
     intro e' s' b' n cap E4 iK FG iJ hn gb u8 Xx;rw[q1] at FG hn gb;simp only at FG hn gb;have Rk:=Ux (d:=37) (cap:=cap) gb;rw[<-hn,VD] at Rk;simp (maxSteps:=2000000) +contextual only[go_sem,E4,iK,FG,iJ,u8,h12,h13,h14];rw[Rk];simp only[Kz];rfl
    case refine_12 =>
     repeat first|exact Fr.own|apply Fr.new|apply Fr.put|apply Fr.upto
     all_goals simp +contextual only[go_sem]
     all_goals first|omega|decide
    all_goals simp +contextual only[go_sem]
    all_goals first|rfl|omega|decide
   case EU =>
    simp (maxSteps:=2000000) +contextual only[go_sem,Pu,U4,Us,TB,Rw,Ps,hf,Iv,EI,b1,b2,h7,h8,h9,h10,h11,h12,h13];refine oR (ZB:=fun (o:Option AV)=>o=some (.XU [.bool _,.fz (ints (0::own)),.fz (ints rest)])) (k:=k) (p:=p) (a:=a) (b:=b) (mi:=mi) (ma:=ma) (nl:=nl) ihL Dc hr (rest:=rest) (b0:=26) L6 fY ?_ ?_ ?_ ?_ ?_ ?_ ?_ ?_ ?_ ?_ ?_ ?_ ?_
    case refine_13 =>
     intro e' s' b' n cap E4 iK FG iJ hn gb u8 Xx;rw[q1] at FG hn gb;simp only at FG hn gb;have Rk:=Ux (d:=37) (cap:=cap) gb;rw[<-hn,VD] at Rk;simp (maxSteps:=2000000) +contextual only[go_sem,E4,iK,FG,iJ,u8,NA,h12,h13,h14];rw[Rk];simp only[<-FI,q5];rfl
    case refine_12 =>
     repeat first|exact Fr.own|apply Fr.new|apply Fr.put|apply Fr.upto
     all_goals simp +contextual only[go_sem]
     all_goals first|omega|decide
    all_goals simp +contextual only[go_sem]
    all_goals first|rfl|omega|decide
   case OV =>
    simp (maxSteps:=2000000) +contextual only[go_sem,Pu,U4,Us,TB,Rw,Ps,hf,Iv,EI,b1,b2,h7,h8,h9,h10,h11,h12,h13,h14];refine oR (ZB:=fun (o:Option AV)=>o=some (.XU [.bool _,.fz (ints (0::own)),.fz (ints rest)])) (k:=k) (p:=p) (a:=a) (b:=b) (mi:=mi) (ma:=ma) (nl:=nl) ihL Dc hr (rest:=rest) (b0:=26) L6 fY ?_ ?_ ?_ ?_ ?_ ?_ ?_ ?_ ?_ ?_ ?_ ?_ ?_
    case refine_13 =>
     intro e' s' b' n cap E4 iK FG iJ hn gb u8 Xx;rw[q1] at FG hn gb;simp only at FG hn gb;have Rk:=Ux (d:=37) (cap:=cap) gb;rw[<-hn,VD] at Rk;simp (maxSteps:=2000000) +contextual only[go_sem,E4,iK,FG,iJ,u8,h12,h13,h14];rw[Rk];simp only[FJ];rfl
    case refine_12 =>
     repeat first|exact Fr.own|apply Fr.new|apply Fr.put|apply Fr.upto
     all_goals simp +contextual only[go_sem]
     all_goals first|omega|decide
    all_goals simp +contextual only[go_sem]
    all_goals first|rfl|omega|decide
   all_goals (simp[YQ] at Tk)
def T4 (x:RN):AV:=.agg [.int .i64 x.last,.fz (ints x.marks),.int .i64 x.cur.1,.int .i64 x.cur.2.1,.int .i64 x.cur.2.2]
theorem oH {S:St}{d n:Nat}{own:List Int}(hn:own.length=n):lG U S (d+1) 0 n 1 (some (.cells (ints own) 3 false 0 0))=some (.fz (ints own)):=by
 have e:n=(ints own).length:=by rw[YK,hn]
 rw[Wo,ah1,e,Ws,Ka,J',TX,if_pos (XR own),VC,Ua,Tb]
theorem hZ (p:Prog){H:List Bool}(hH:H.length=p.steps.length){a:Nat}{k g sym:Int}{own:List Int}{mb hb n8 nm:Nat}{Fm TN:Option Nat}(ha:a<p.steps.length)(hn:p.steps.length<2^30)(hk:0<=k/\k<=2^40)(hg:0<=g/\g<=2^40)
  {e:Env}{s:St}(g3:Env.get e 3=.ptr 8 0)(g6:Env.get e 6=.ptr 10 0)(g8:Env.get e 8=.sl hb 0 n8 TN 1)(g9:Env.get e 9=.ptr 11 0)
  (u8:s.get 8=some (.cells [.int .i64 p.lines,ZG p.nl (Zx p.steps)] 31 false 0 0))(fE:s.get 10=some (.cells [.int .i64 0,.ZW,.int .i64 0,.int .i64 0,.int .i64 0] 176 false 0 0))
  (A':s.get 11=some (.cells [.int .i64 sym,.sl mb 0 nm Fm 1,.int .i64 (a:Nat),.int .i64 k,.int .i64 g] 176 false 0 0))(uh:s.get hb=some (.cells (ZM H) 4 false 0 0))(h8:n8=H.length)(um:s.get mb=some (.cells (ints own) 3 false 0 0))(EV:own.length=nm)(hmb:12<=mb)(hhb:12<=hb) :
  ∃s',go U (Sx U [.cell 6 176,.tmp 7]) [] JB e s=some (.XU [.agg [.int .i64 sym,.sl mb 0 nm Fm 1,.int .i64 (fW (Tm p.steps) p.steps.length (JZ H) a k g).1.1,.int .i64 (fW (Tm p.steps) p.steps.length (JZ H) a k g).1.2.1,.int .i64 (fW (Tm p.steps) p.steps.length (JZ H) a k g).1.2.2],.bool (fW (Tm p.steps) p.steps.length (JZ H) a k g).2],s')/\s'.get mb=some (.cells (ints own) 3 false 0 0):=by
 have hx:=P7 (nl:=p.nl) ha;have fJ:(ZM H)[a]? = some (.bool (JZ H a)):=by simp[ZM,JZ,alM,aaa (show a<H.length by omega)]
 have w2:IntKind.i64.wrap (k+1)=k+1:=by rw[wrap_i64] <;> omega
 have w3:IntKind.i64.wrap ((a:Int)+1)=(a:Int)+1:=by rw[wrap_i64] <;> omega
 have ha8:a<n8:=by omega
 have f1:(10=mb)=False:=by simp;omega
 have f2:(11=mb)=False:=by simp;omega
 have f3:(10=hb)=False:=by simp;omega
 have f4:(11=hb)=False:=by simp;omega
 have Rk:=fun (S:St) (d:Nat)=>oH (S:=S) (d:=d) EV
 simp only[Step.T0] at hx;unfold fW;rw[G3 ha];generalize p.steps[a]=x at *
 cases h1:JZ H a with
 |false =>
  rw[h1] at fJ;simp only[go_sem,JB,g6,g8,g9,fE,A',uh,fJ,ha8,ald,ah1,amp,cond_true];refine⟨_,rfl,?_⟩;simp only[Z9,f1,if_false];exact um
 |true =>
  rw[h1] at fJ
  cases h2:decide (k+1<x.times) with
  |true =>
   simp only[go_sem,JB,g3,g6,g8,g9,u8,fE,A',uh,fJ,ha8,hx,w2,h2,ald,ah1,ama,cond_true,cond_false];refine⟨_,rfl,?_⟩;simp only[ZT,Z9,f1,f2,if_false];exact um
  |false =>
   have e9:(((a+1:Nat)):Int)=(a:Int)+1:=rfl
   cases h3:((a:Int)+1==(p.steps.length:Int)) with
   |true =>
    simp only[go_sem,JB,g3,g6,g8,g9,u8,fE,A',uh,fJ,ha8,hx,w2,w3,h2,h3,ZI,YY,ald,ah1,ama,cond_true,cond_false];refine⟨_,rfl,?_⟩;simp only[ZT,Z9,f1,f2,if_false];exact um
   |false =>
    simp only[go_sem,JB,g3,g6,g8,g9,u8,fE,A',uh,fJ,ha8,hx,w2,w3,h2,h3,ZI,YY,ald,ah1,ama,cond_true,cond_false];refine⟨_,rfl,?_⟩;simp only[ZT,Z9,f1,f2,if_false];exact um
theorem af8 (p:Prog){H:List Bool}(hH:H.length=p.steps.length){a:Nat}{k g sym:Int}{own:List Int}{mb hb n8 nm:Nat}{Fm TN:Option Nat}(ha:a<p.steps.length)(hn:p.steps.length<2^30)(hk:0<=k/\k<=2^30)(hg:0<=g/\g<=2^30)
  {e:Env}{s:St}(g3:Env.get e 3=.ptr 8 0)(g6:Env.get e 6=.ptr 10 0)(g8:Env.get e 8=.sl hb 0 n8 TN 1)(g9:Env.get e 9=.ptr 11 0)
  (u8:s.get 8=some (.cells [.int .i64 p.lines,ZG p.nl (Zx p.steps)] 31 false 0 0))(fE:s.get 10=some (.cells [.int .i64 0,.ZW,.int .i64 0,.int .i64 0,.int .i64 0] 176 false 0 0))
  (A':s.get 11=some (.cells [.int .i64 sym,.sl mb 0 nm Fm 1,.int .i64 (a:Nat),.int .i64 k,.int .i64 g] 176 false 0 0))(uh:s.get hb=some (.cells (ZM H) 4 false 0 0))(h8:n8=H.length)(um:s.get mb=some (.cells (ints own) 3 false 0 0))(EV:own.length=nm)(hmb:12<=mb)(hhb:12<=hb)(alC:mb<s.next)(alD:hb<s.next) :
  ∃s',go U (Sx U [.cell 6 176,.tmp 7]) [] F1 e s=some (.XU [.agg [.int .i64 sym,.sl mb 0 nm Fm 1,.int .i64 (oe (Wn p.steps) (Tm p.steps) p.steps.length (JZ H) a k g).1.1,.int .i64 (oe (Wn p.steps) (Tm p.steps) p.steps.length (JZ H) a k g).1.2.1,.int .i64 (oe (Wn p.steps) (Tm p.steps) p.steps.length (JZ H) a k g).1.2.2],.bool (oe (Wn p.steps) (Tm p.steps) p.steps.length (JZ H) a k g).2],s')/\s'.get mb=some (.cells (ints own) 3 false 0 0):=by
 have hx:=P7 (nl:=p.nl) ha;have w1:IntKind.i64.wrap (g+1)=g+1:=by rw[wrap_i64] <;> omega
 have h0:0<p.steps.length:=by omega
 have hWa:Wn p.steps a=p.steps[a].within:=D0 ha;have f2:(11=mb)=False:=by simp;omega
 have f4:(11=hb)=False:=by simp;omega
 unfold oe;rw[hWa];simp only[Step.T0] at hx;generalize p.steps[a]=x at *
 cases h1:decide (x.within>0) with
 |false =>
  simp only[go_sem,F1,g3,g9,u8,A',hx,h1];refine hZ p hH (TN:=TN) (Fm:=Fm) ha hn ⟨hk.1,by omega⟩ ⟨hg.1,by omega⟩ ?_ ?_ ?_ ?_ u8 fE A' uh h8 um EV hmb hhb
  all_goals simp only[go_sem,g3,g6,g8,g9]
 |true =>
  cases h2:decide (g+1>x.within) with
  |false =>
   simp only[go_sem,F1,g3,g9,u8,A',hx,h1,h2,w1,cond_true];refine hZ p hH (mb:=mb) (hb:=hb) (a:=a) (k:=k) (g:=g+1) (own:=own) (sym:=sym) (nm:=nm) (Fm:=Fm) (TN:=TN) ha hn ⟨hk.1,by omega⟩ ⟨by omega,by omega⟩ ?_ ?_ ?_ ?_ ?_ ?_ ?_ ?_ h8 ?_ EV hmb hhb
   all_goals simp only[go_sem,g3,g6,g8,g9,u8,fE,uh,um,f2,f4]
  |true =>
   simp only[go_sem,F1,g3,g9,u8,A',hx,h1,h2,w1,cond_true];refine hZ p hH (mb:=mb) (hb:=hb) (a:=0) (k:=0) (g:=0) (own:=own) (sym:=sym) (nm:=nm) (Fm:=Fm) (TN:=TN) h0 hn ⟨by omega,by omega⟩ ⟨by omega,by omega⟩ ?_ ?_ ?_ ?_ ?_ ?_ ?_ ?_ h8 ?_ EV hmb hhb
   all_goals simp only[go_sem,g3,g6,g8,g9,u8,fE,uh,um,f2,f4]
   all_goals rfl
theorem ajL {ks:List K}{ZB:Option (AV×St)->Prop}{p:Prog}{last sym:Int}(hs:Qe sym)(hl : -1<=last/\last<65536)(S3:∀s∈p.steps,s.cond.wf)(MZ:ZS (p.steps.map Step.cond)<=2^20)(hn:p.steps.length<=8){marks:List Int}(OG:MF last (p.steps.map Step.cond) marks){x2 x3 x4:AV}
  {e:Env}{s:St}(g2:Env.get e 2=.int .i64 sym)(g3:Env.get e 3=.ptr 8 0)(g4:Env.get e 4=.ptr 9 0)(g6:Env.get e 6=.ptr 10 0)(g8:Env.get e 8=.ZW)(g9:Env.get e 9=.ptr 11 0)(rb:Env.get e 10=.fz (ints marks))(fk:Env.get e 11=.int .i64 (0:Nat))
  (u8:s.get 8=some (.cells [.int .i64 p.lines,ZG p.nl (Zx p.steps)] 31 false 0 0))(u9:s.get 9=some (.cells [.int .i64 last,.fz (ints marks),x2,x3,x4] 176 false 0 0))(fE:s.get 10=some (.cells [.int .i64 0,.ZW,.int .i64 0,.int .i64 0,.int .i64 0] 176 false 0 0))
  (A':s.get 11=some (.cells [.int .i64 sym,.ZW,x2,x3,x4] 176 false 0 0))(aej:12<=s.next)(fr:Fr s)
  (hk:∀e' s' v8 mv,Env.get e' 3=.ptr 8 0->Env.get e' 6=.ptr 10 0->Env.get e' 9=.ptr 11 0->Env.get e' 8=v8->ZK s' 12 4 1 p.steps.length (ZM (U0 last sym (p.steps.map Step.cond) marks).1) v8->ZK s' 12 3 1 (U0 last sym (p.steps.map Step.cond) marks).2.1.length (ints (U0 last sym (p.steps.map Step.cond) marks).2.1) mv ->
   s'.get 8=some (.cells [.int .i64 p.lines,ZG p.nl (Zx p.steps)] 31 false 0 0)->s'.get 10=some (.cells [.int .i64 0,.ZW,.int .i64 0,.int .i64 0,.int .i64 0] 176 false 0 0)->s'.get 11=some (.cells [.int .i64 sym,mv,x2,x3,x4] 176 false 0 0)->Fr s'->ZB (goN U (Sx U [.cell 6 176,.tmp 7]) ks e' s')) :
  ZB (SD U (Sx U [.cell 6 176,.tmp 7]) (.bk 0::ks) Ht e s):=by
 have fc:∀c∈p.steps.map Step.cond,c.wf:=fun c hc=>by
  obtain⟨s,hs,rfl⟩:=alN.1 hc;exact S3 s hs
 have LP:=ZI p.nl (Zx p.steps);rw[YY] at LP;refine YP (σ:=Nat) (fun i=>p.steps.length-i) (fun i e' s'=>i<=p.steps.length/\Env.get e' 2=.int .i64 sym/\Env.get e' 3=.ptr 8 0/\Env.get e' 4=.ptr 9 0/\Env.get e' 6=.ptr 10 0/\Env.get e' 9=.ptr 11 0/\Env.get e' 11=.int .i64 (i:Nat) /\
   (∀j,j<11->s'.get j=s.get j)/\12<=s'.next/\Fr s' /\
   ∃v A_ SK v8 mv,Env.get e' 10=.fz (ints v)/\MF last ((p.steps.map Step.cond).drop i) v/\A_++(U0 last sym ((p.steps.map Step.cond).drop i) v).1=(U0 last sym (p.steps.map Step.cond) marks).1/\SK++(U0 last sym ((p.steps.map Step.cond).drop i) v).2.1=(U0 last sym (p.steps.map Step.cond) marks).2.1 /\
    A_.length=i/\SK.length+ZS ((p.steps.map Step.cond).drop i)<=2^20/\Env.get e' 8=v8/\ZK s' 12 4 1 i (ZM A_) v8/\s'.get 11=some (.cells [.int .i64 sym,mv,x2,x3,x4] 176 false 0 0)/\ZK s' 12 3 1 SK.length (ints SK) mv) 0 ?_
  ⟨aic _,g2,g3,g4,g6,g9,fk,fun _ _=>rfl,aej,fr,marks,[],[],.ZW,.ZW,rb,OG,rfl,rfl,rfl,by rw[amd];simp;omega,g8,ZK.nil _ _ _ _,A',ZK.nil _ _ _ _⟩
 rintro Lp i e' s' ⟨hi,q2,q3,q4,q6,q9,tT,hold,Vl,Xx,v,A_,SK,v8,mv,Cd,hv,LQ,how,Hd,hlen,q8,hr8,h11,hrm⟩ IH;have h8:=(hold 8 (by omega)).trans u8;have h9:=(hold 9 (by omega)).trans u9;by_cases hd:i<p.steps.length
 ·have my:i<(p.steps.map Step.cond).length:=by rw[agC];exact hd
  have hgc:(p.steps.map Step.cond)[i]=p.steps[i].cond:=by rw[List.getElem_map]
  have Rm:=ZN hd (by omega);have hx:=P7 (nl:=p.nl) hd;rw[abc my,MF,hgc] at hv;obtain⟨u,v',rfl,hu,Pd,Mv⟩:=hv;have af3:=S3 _ (adm hd);obtain⟨_,run⟩:=PS (sym:=sym) hl.1 p.steps[i].cond af3 u Pd;obtain⟨is,ow,e1,k1,k2,_,_⟩:=run v';rw[abc my,U0,hgc,e1] at LQ how;simp only at LQ how;rw[abc my,ZS,hgc] at hlen;have hc:=ajM (sym:=sym) hs hl p.steps[i].cond af3 (by omega) u Pd v';rw[e1] at hc;simp only at hc;rw[ZV] at hc;simp only[Z5.cells] at hc;simp only[Step.T0] at hx;have hlp:=RR p.steps[i].cond;generalize p.steps[i]=x at *;have b_:ow.length≠0:=by omega
  have Mg:=RJ ow;have ra:=YK ow;have ajN:=hr8.Xj;have ajO:=hrm.Xj;have UP:(i+1)*1<=1099511627776:=by omega
  have VP:i+1<=1099511627776:=by omega
  have Ba:(SK.length+ow.length)*8<=1099511627776:=by omega
  have hb4:SK.length+ow.length<=1099511627776:=by omega
  have Nc:=Xx.at;obtain⟨S2,hS2⟩:∃S2,S2=(s'.upto (s'.next+18)).new (.cells [.bool is] 4 false 0 0):=⟨_,rfl⟩;have gi:S2.next=s'.next+19:=by rw[hS2,Z_,Z6]
  have kS:∀j,j<s'.next->S2.get j=s'.get j:=fun j h=>by rw[hS2,Z7,Z6,if_neg (by omega),ZT]
  have AL:Fr S2:=by rw[hS2];exact (Xx.upto (by omega)).new _
  have bZ:ZK S2 12 4 1 i (ZM A_) v8:=hr8.XS (by omega) fun j c' h1 h2 h3=>by rw[kS j h2];exact h1
  have ajP:ZK S2 12 3 1 SK.length (ints SK) mv:=hrm.XS (by omega) fun j c' h1 h2 h3=>by rw[kS j h2];exact h1
  obtain⟨s3,a1,a2,a3,a4,a5⟩:=bZ.Gy (by omega) (m:=1) (new:=[.bool is]) (by omega) rfl rfl;have acE:s3.get 11=some (.cells [.int .i64 sym,mv,x2,x3,x4] 176 false 0 0):=by rw[a4 11 (by omega) (bZ.B8 (.inr (by omega))),kS 11 (by omega)];exact h11
  have bY:ZK s3 12 3 1 SK.length (ints SK) mv:=ajP.XS (by omega) fun j c' h1 h2 h3=>by
   rw[a4 j (by omega) (bZ.other h1 (by decide))];exact h1
  obtain⟨s4,b1,b2,b3,b4,b5⟩:=bY.Gy (by omega) (m:=ow.length) (new:=ints ow) b_ (by rw[YK];omega) (XR ow);have h114:s4.get 11=some (.cells [.int .i64 sym,mv,x2,x3,x4] 176 false 0 0):=by rw[b4 11 (by omega) (bY.B8 (.inr (by omega)))];exact acE
  simp only[go_sem,Ht,q2,q3,q4,q8,Cd,tT,h8,h9,LP,Z8,hd,hx,hc,ajN,ah1,ZH,Nat.reducePow,VP,not_false_eq_true];rw[<-hS2,a1];simp only[go_sem,q9,acE,Mg,ra,ajO,ZH,ah1,Nat.reducePow,Ba,hb4,b_,not_false_eq_true];rw[b1];simp only[go_sem,q9,tT,h114,Rm];have eb:ZM A_++[.bool is]=ZM (A_++[is]):=by simp[ZM]
  have ei:ints SK++ints ow=ints (SK++ow):=by simp[ints]
  rw[eb] at a3;rw[ei] at b3;have el:SK.length+ow.length=(SK++ow).length:=by rw[agy]
  refine IH (i+1) _ _ (by omega) ⟨by omega,?_,?_,?_,?_,?_,?_,fun j h1=>?_,by rw[Z'];omega,(b5 (a5 AL)).put (by omega) _,v',A_++[is],SK++ow,.sl S2.next 0 (i+1) none 1,.sl s3.next 0 (SK.length+ow.length) none 1,?_,Mv,by rw[alS];exact LQ,by rw[alS];exact how,by simp[Hd],by rw[agy];omega,?_,?_,?_,?_⟩
  case refine_7 =>
   rw[Z9,if_neg (by omega),b4 j (by omega) (bY.B8 (.inr (by omega))),a4 j (by omega) (bZ.B8 (.inr (by omega))),kS j (by omega),hold j h1]
  case refine_10 =>
   exact a3.XS (by rw[Z'];omega) fun j c' h1 h2 h3=>by
    rw[Z9,if_neg (by intro e;subst e;rw[acE] at h1;cases h1),b4 j (by omega) (bY.other h1 (by decide))];exact h1
  case refine_11=>rw[Z9,if_pos rfl]
  case refine_12 =>
   rw[<-el];exact b3.XS (by rw[Z'];omega) fun j c' h1 h2 h3=>by
    rw[Z9,if_neg (by intro e;subst e;rw[h114] at h1;cases h1)];exact h1
  all_goals simp only[go_sem,q2,q3,q4,q6,q9]
 ·have xb:i=p.steps.length:=by omega
  subst xb;have hdn:(p.steps.map Step.cond).drop p.steps.length=[]:=List.drop_eq_nil_of_le (by rw[agC];exact agB _);rw[hdn,MF] at hv;subst hv;rw[hdn,U0] at LQ how;simp only[alZ] at LQ how;subst LQ;subst how;simp only[go_sem,Ht,q3,tT,h8,LP,Z8,alh];refine hk _ _ v8 mv ?_ ?_ ?_ ?_ hr8 hrm h8 ((hold 10 (by omega)).trans fE) h11 Xx
  all_goals simp only[go_sem,q3,q6,q8,q9]
end Go.Am
namespace Go.Am
open Go
variable [Z4]
set_option maxRecDepth 100000
set_option maxHeartbeats 4000000
def Wq (c:Z5):Nat:=(WQ (ZF c.kind) c).toNat
def dgM (d:Kd)(m:Int):Nat:=match d with
 |.Vj|.gap=>(m+1).toNat
 |_=>m.toNat
mutual
def xB:Z5->List Nat
 |.mk k a b mi ma p nl kids=>bif XD k then 1::IC kids else [Wq (.mk k a b mi ma p nl kids)]
def IC:List Z5->List Nat
 |[]=>[]
 |c::l=>xB c++IC l
end
mutual
def Nd:Z5->List Int->List Nat
 |.mk k a b mi ma p nl kids,ms=>bif XD k then 0::PU kids ms.tail else [dgM (ZF k) (ms.headD 0)]
def PU:List Z5->List Int->List Nat
 |[],_=>[]
 |c::l,ms=>Nd c ms++PU l (ms.drop (leaves c))
end
theorem tX {c:Z5}(hc:c.wf):(Wq c:Int)=match ZF c.kind with
  |.Vj|.gap=>c.ma+3
  |.idle|.setup=>c.mi+2
  |.Uf=>4
  |_=>1:=by
 have h:=hc.A9;have h1:=h.mi;have h2:=h.ma;unfold Wq WQ
 cases ZF c.kind <;> simp only
 all_goals try rw[wrap_i64 (by omega) (by omega)]
 all_goals omega
theorem nS {c:Z5}(hc:c.wf){m last:Int}(h:xA (ZF c.kind) c m last):dgM (ZF c.kind) m<Wq c/\0<=tW (ZF c.kind) c m/\(tW (ZF c.kind) c m).toNat<Wq c:=by
 have hv:=tX hc;have hs:=hc.A9;have h1:=hs.mi;have h2:=hs.ma;generalize Wq c=z at *
 cases hd:ZF c.kind <;> rw[hd] at h hv <;> simp only[xA,dgM,tW] at h hv ⊢
 case Vj =>
  obtain⟨q1,q2,_⟩:=h;by_cases e:m = -1
  ·subst e;refine⟨by omega,?_,?_⟩ <;> simp <;> omega
  ·have e':(m == -1)=false:=by simpa using e
   rw[e',cond_false];omega
 case gap =>
  obtain⟨q1,q2,_⟩:=h;by_cases e:m = -1
  ·subst e;refine⟨by omega,?_,?_⟩ <;> simp <;> omega
  ·have e':(m == -1)=false:=by simpa using e
   rw[e',cond_false];omega
 case setup =>
  by_cases e:m=0
  ·subst e;refine⟨by omega,?_,?_⟩ <;> simp <;> omega
  ·have e':(m==0)=false:=by simpa using e
   rw[e',cond_false];omega
 case Uf =>
  obtain⟨q1,q2,_⟩:=h;have:m=0\/m=1\/m=2:=by omega
  rcases this with rfl|rfl|rfl <;> simp <;> omega
 all_goals omega
theorem fy {d:Kd}{c:Z5}{m m' last Pm:Int}(h:xA d c m last)(h':xA d c m' Pm)(e:dgM d m=dgM d m'):m=m':=by
 cases d <;> simp only[xA,dgM] at h h' e <;> omega
structure ads (last:Int)(c:Z5)(ms:List Int):Prop where
 Zd:US (xB c) (Nd c ms)
 app:∀v,Nd c (ms++v)=Nd c ms
 Yy:US ((Ve c).map Wq) ((LO c ms).map Int.toNat)
 pos:∀x∈LO c ms,0<=x
structure adt (last:Int)(l:List Z5)(ms:List Int):Prop where
 Zd:US (IC l) (PU l ms)
 app:∀v,PU l (ms++v)=PU l ms
 Yy:US ((ZJ l).map Wq) ((Jp l ms).map Int.toNat)
 pos:∀x∈Jp l ms,0<=x
theorem NT {last:Int}:∀(l:List Z5) (ms:List Int),(∀c∈l,∀ms,Km last c ms->ads last c ms)->MF last l ms->adt last l ms
 |[],ms,_,h=>⟨by rw[IC,PU];trivial,fun v=>by rw[PU,PU],by rw[ZJ,Jp];trivial,fun x hx=>by rw[Jp] at hx;simp at hx⟩
 |c::l,ms,hc,h=>by
  rw[MF] at h;obtain⟨u,v,rfl,hu,h1,h2⟩:=h;obtain⟨a1,a2,a3,a4⟩:=hc c (aba ..) u h1;obtain⟨b1,b2,b3,b4⟩:=NT l v (fun x hx=>hc x (aab _ hx)) h2;refine⟨?_,fun w=>?_,?_,fun x hx=>?_⟩
  ·rw[IC,PU,a2,<-hu,amy];exact Hm _ _ _ _ a1 b1
  ·rw[PU,PU,alS,a2,a2,<-hu,amy,amy,b2]
  ·rw[ZJ,Jp,LN c u v h1,<-hu,amy,alY,alY];exact Hm _ _ _ _ a3 b3
  ·rw[Jp,LN c u v h1,<-hu,amy] at hx;rcases amb.1 hx with hx|hx
   ·exact a4 x hx
   ·exact b4 x hx
theorem NS {last:Int}:∀c:Z5,c.wf->∀ms,Km last c ms->ads last c ms:=by
 intro c
 induction c using Z5.ind with
 |h k a b mi ma p nl kids ih =>
  intro S3 ms h;have ME:=S3;rw[Z5.wf] at ME;have QJ:∀x∈kids,x.wf:=ME.2.2.2.2.2.2.2.2.2.2.2.2;rw[Km] at h
  cases hk:XD k with
  |true =>
   rw[hk,if_pos rfl] at h;obtain⟨r,rfl,hr⟩:=h;obtain⟨a1,a2,a3,a4⟩:=NT kids r (fun x hx ms hm=>ih x hx (QJ x hx) ms hm) hr;refine⟨?_,fun v=>?_,?_,fun x hx=>?_⟩
   ·rw[xB,Nd,hk];exact⟨Nat.one_pos,a1⟩
   ·rw[Nd,Nd,hk];simp only[cond_true,alU,List.tail_cons,a2]
   ·rw[Ve,LO,hk];exact a3
   ·rw[LO,hk] at hx;exact a4 x hx
  |false =>
   rw[hk,if_neg (by decide)] at h;obtain⟨m,rfl,hm⟩:=h;obtain⟨d1,d2,d3⟩:=nS S3 hm;refine⟨?_,fun v=>?_,?_,fun x hx=>?_⟩
   ·rw[xB,Nd,hk];exact⟨d1,trivial⟩
   ·rw[Nd,Nd,hk];rfl
   ·rw[Ve,LO,hk];exact⟨d3,trivial⟩
   ·rw[LO,hk] at hx;rw[ake.1 hx];exact d2
theorem Hl {last Pm:Int}:∀(l:List Z5) (ms ns:List Int),(∀c∈l,∀ms ns,Km last c ms->Km Pm c ns->Nd c ms=Nd c ns->ms=ns)->(∀c∈l,c.wf)->MF last l ms->MF Pm l ns->PU l ms=PU l ns->ms=ns
 |[],ms,ns,_,_,h,h',_=>by rw[MF] at h h';rw[h,h']
 |c::l,ms,ns,hc,hw,h,h',e=>by
  rw[MF] at h h';obtain⟨u,v,rfl,hu,h1,h2⟩:=h;obtain⟨u',v',rfl,A8,h1',h2'⟩:=h';have d1:=NS c (hw c (aba ..)) u h1;have d2:=NS c (hw c (aba ..)) u' h1';have hl:∀(bs ds es:List Nat),US bs ds->US bs es->ds.length=es.length:=by
   intro bs
   induction bs with
   |nil=>intro ds es h h';cases ds <;> cases es <;> simp_all [US]
   |cons b bs ih=>intro ds es h h';cases ds <;> cases es <;> simp_all [US];exact ih _ _ h.2 h'.2
  rw[PU,PU,d1.app,d2.app] at e;have hlen:=hl _ _ _ d1.Zd d2.Zd;obtain⟨e1,e2⟩:=List.append_inj e hlen;have x1:(u++v).drop (leaves c)=v:=by rw[<-hu,amy]
  have x2:(u'++v').drop (leaves c)=v':=by rw[<-A8,amy]
  rw[x1,x2] at e2;rw[hc c (aba ..) u u' h1 h1' e1,Hl l v v' (fun x hx=>hc x (aab _ hx)) (fun x hx=>hw x (aab _ hx)) h2 h2' e2]
theorem nR {last Pm:Int}:∀c:Z5,c.wf->∀ms ns,Km last c ms->Km Pm c ns->Nd c ms=Nd c ns->ms=ns:=by
 intro c
 induction c using Z5.ind with
 |h k a b mi ma p nl kids ih =>
  intro S3 ms ns h h' e;have ME:=S3;rw[Z5.wf] at ME;have QJ:∀x∈kids,x.wf:=ME.2.2.2.2.2.2.2.2.2.2.2.2;rw[Km] at h h';rw[Nd,Nd] at e
  cases hk:XD k with
  |true =>
   rw[hk,if_pos rfl] at h h';rw[hk,cond_true,cond_true] at e;obtain⟨r,rfl,hr⟩:=h;obtain⟨r',rfl,Ur⟩:=h';simp only[List.tail_cons,List.cons.injEq,true_and] at e;rw[Hl kids r r' (fun x hx ms ns=>ih x hx (QJ x hx) ms ns) QJ hr Ur e]
  |false =>
   rw[hk,if_neg (by decide)] at h h';rw[hk,cond_false,cond_false] at e;obtain⟨m,rfl,hm⟩:=h;obtain⟨m',rfl,hm'⟩:=h';simp only[List.headD_cons,List.cons.injEq,and_true] at e;rw[fy hm hm' e]
theorem Kj:∀(l:List Z5),(∀c∈l,Ym (xB c)=Ym ((Ve c).map Wq))->Ym (IC l)=Ym ((ZJ l).map Wq)
 |[],_=>by rw[IC,ZJ];rfl
 |c::l,h=>by
  rw[IC,ZJ,alY,QI,QI,h c (aba ..),Kj l fun x hx=>h x (aab _ hx)]
theorem rJ:∀c:Z5,Ym (xB c)=Ym ((Ve c).map Wq):=by
 intro c
 induction c using Z5.ind with
 |h k a b mi ma p nl kids ih =>
  rw[xB,Ve]
  cases XD k with
  |true=>rw[cond_true,cond_true,Ym,amk];exact Kj kids ih
  |false=>rfl
def Xl (S:List Step)(m:Nat):Nat:=(m+1)*(Vd S*Ym ((ZJ (S.map Step.cond)).map Wq))
def A7 (S:List Step)(m:Nat)(x:RN):Nat:=IB ((m+1)::Vd S::IC (S.map Step.cond)) ((x.last+1).toNat::Rj S x.cur.1 x.cur.2.1.toNat x.cur.2.2.toNat::PU (S.map Step.cond) x.marks)
def rI (S:List Step)(m:Nat)(x:PN):Nat:=IB ((m+1)::Vd S::(ZJ (S.map Step.cond)).map Wq) ((x.last+1).toNat::Rj S x.cur.1 x.cur.2.1.toNat x.cur.2.2.toNat::x.Yy.map Int.toNat)
theorem Rh {S:List Step}:∀{a:Nat} {k g:Int},EY S (a,k,g)->IA S a k.toNat g.toNat:=by
 have key:∀(S:List Step) (a k g:Nat),a<S.length->(k:Int)<Tm S a->(g:Int)<=Wn S a->IA S a k g:=by
  intro S
  induction S with
  |nil=>intro a k g h;simp at h
  |cons s S ih =>
   intro a k g h1 h2 h3
   cases a with
   |zero =>
    have e1:Tm (s::S) 0=s.times:=rfl;have e2:Wn (s::S) 0=s.within:=rfl;rw[e1] at h2;rw[e2] at h3;rw[IA];omega
   |succ a =>
    have e1:Tm (s::S) (a+1)=Tm S a:=rfl;have e2:Wn (s::S) (a+1)=Wn S a:=rfl;rw[e1] at h2;rw[e2] at h3;rw[IA];exact ih a k g (by simpa using h1) h2 h3
 intro a k g h;have h1:=h.k;have h2:=h.g;simp only at h1 h2;exact key S a _ _ h.a (by omega) (by omega)
theorem LM {S:List Step}(h:Y0 S){m:Nat}{x:RN}(hx:Sj S m x):A7 S m x<Xl S m:=by
 obtain⟨marks,⟨a,k,g⟩,last⟩:=x;have d:=NT (last:=last) (S.map Step.cond) marks (fun c hc ms hm=>NS c (h.rH c hc) ms hm) hx.marks;have hl:=hx.last;simp only at hl;have:=CN ((m+1)::Vd S::IC (S.map Step.cond)) ((last+1).toNat::Rj S a k.toNat g.toNat::PU (S.map Step.cond) marks) ⟨by omega,PT S a _ _ (Rh hx.cur),d.Zd⟩;unfold Xl;rw[Ym,Ym,Kj _ fun c _=>rJ c] at this;exact this
theorem OX {S:List Step}(h:Y0 S){m:Nat}{x y:RN}(hx:Sj S m x)(hy:Sj S m y)(e:A7 S m x=A7 S m y):x=y:=by
 obtain⟨marks,⟨a,k,g⟩,last⟩:=x;obtain⟨xy,⟨a',k',g'⟩,Pm⟩:=y;have d:=NT (last:=last) (S.map Step.cond) marks (fun c hc ms hm=>NS c (h.rH c hc) ms hm) hx.marks;have d':=NT (last:=Pm) (S.map Step.cond) xy (fun c hc ms hm=>NS c (h.rH c hc) ms hm) hy.marks;have hl:=hx.last;have CM:=hy.last;simp only at hl CM;have he:=Hk _ _ _ (show US ((m+1)::Vd S::IC (S.map Step.cond)) ((last+1).toNat::Rj S a k.toNat g.toNat::PU (S.map Step.cond) marks) from⟨by omega,PT S a _ _ (Rh hx.cur),d.Zd⟩)
  (show US ((m+1)::Vd S::IC (S.map Step.cond)) ((Pm+1).toNat::Rj S a' k'.toNat g'.toNat::PU (S.map Step.cond) xy) from⟨by omega,PT S a' _ _ (Rh hy.cur),d'.Zd⟩) e
 simp only[List.cons.injEq] at he;obtain⟨e1,e2,e3⟩:=he;obtain⟨f1,f2,f3⟩:=Hj S _ _ _ _ _ _ (Rh hx.cur) (Rh hy.cur) e2;have k1:=hx.cur.k.1;have k2:=hy.cur.k.1;have g1:=hx.cur.g.1;have g2:=hy.cur.g.1;simp only at k1 k2 g1 g2;have e4:=Hl (S.map Step.cond) marks xy (fun c hc ms ns=>nR c (h.rH c hc) ms ns) h.rH hx.marks hy.marks e3;subst f1;subst e4;have:last=Pm:=by omega
 subst this;have:k=k':=by omega
 subst this;have:g=g':=by omega
 subst this;rfl
def QV (S:List Step)(m:Nat)(x:PN):Prop:=∃r,Sj S m r/\EW S r=x
theorem QV.Zd {S:List Step}(h:Y0 S){m:Nat}{x:PN}(hx:QV S m x):(US ((m+1)::Vd S::(ZJ (S.map Step.cond)).map Wq) ((x.last+1).toNat::Rj S x.cur.1 x.cur.2.1.toNat x.cur.2.2.toNat::x.Yy.map Int.toNat))/\(-1<=x.last/\x.last<m)/\EY S x.cur/\(∀s∈x.Yy,0<=s)/\x.Yy.length=(ZJ (S.map Step.cond)).length:=by
 obtain⟨⟨marks,⟨a,k,g⟩,last⟩,hr,rfl⟩:=hx;have d:=NT (last:=last) (S.map Step.cond) marks (fun c hc ms hm=>NS c (h.rH c hc) ms hm) hr.marks;have w:=QH (last:=last) (sym:=0) (S.map Step.cond) marks (fun c hc ms hm=>PS hr.last.1 c (h.rH c hc) ms hm) hr.marks;have hl:=hr.last;simp only at hl;exact⟨⟨by show (last+1).toNat<m+1;omega,PT S a _ _ (Rh hr.cur),d.Yy⟩,hl,hr.cur,d.pos,w.len⟩
theorem CL {S:List Step}(h:Y0 S){m:Nat}{x:PN}(hx:QV S m x):rI S m x<Xl S m:=by
 have:=CN _ _ (hx.Zd h).1;rw[Ym,Ym] at this;exact this
theorem toNat_inj:∀{a b:List Int},(∀x∈a,0<=x)->(∀x∈b,0<=x)->a.map Int.toNat=b.map Int.toNat->a=b
 |[],[],_,_,_=>rfl
 |x::a,y::b,h,h',e=>by
  simp only[alT,List.cons.injEq] at e;have h1:=h x (aba ..);have h2:=h' y (aba ..);rw[toNat_inj (fun z hz=>h z (aab _ hz)) (fun z hz=>h' z (aab _ hz)) e.2,show x=y by omega]
 |[],y::b,_,_,e=>by simp at e
 |x::a,[],_,_,e=>by simp at e
theorem Hi {S:List Step}(h:Y0 S){m:Nat}{x y:PN}(hx:QV S m x)(hy:QV S m y)(e:rI S m x=rI S m y):x=y:=by
 obtain⟨u1,l1,c1,p1,_⟩:=hx.Zd h;obtain⟨u2,l2,c2,p2,_⟩:=hy.Zd h;have he:=Hk _ _ _ u1 u2 e;obtain⟨Yy,⟨a,k,g⟩,last⟩:=x;obtain⟨alf,⟨a',k',g'⟩,Pm⟩:=y;simp only[List.cons.injEq] at he l1 l2 p1 p2;obtain⟨e1,e2,e3⟩:=he;obtain⟨f1,f2,f3⟩:=Hj S _ _ _ _ _ _ (Rh c1) (Rh c2) e2;have k1:=c1.k.1;have k2:=c2.k.1;have g1:=c1.g.1;have g2:=c2.g.1;simp only at k1 k2 g1 g2;have e4:=toNat_inj p1 p2 e3;subst f1;subst e4;have:last=Pm:=by omega
 subst this;have:k=k':=by omega
 subst this;have:g=g':=by omega
 subst this;rfl
end Go.Am
namespace Go.Am
open Go
variable [Z4]
set_option maxRecDepth 100000
set_option maxHeartbeats 8000000
theorem af7 {p:Prog}(hS:Y0 p.steps)(Ha:p.steps.length<=8)(MZ:ZS (p.steps.map Step.cond)<=2^20){m:Nat}(hm:m<=65536){x:RN}(hx:Sj p.steps m x){y:Nat}(hy:y<m) :
  ∃s' mb,go U (Sx U [.cell 6 176,.tmp 7]) [] abY (YX 0 [Vw p,T4 x,.int .i64 (y:Int)] .nil) (X8 U)=some (.XU [.agg [.int .i64 (Y_ p.steps x y).1.last,.sl mb 0 (Y_ p.steps x y).1.marks.length none 1,.int .i64 (Y_ p.steps x y).1.cur.1,.int .i64 (Y_ p.steps x y).1.cur.2.1,.int .i64 (Y_ p.steps x y).1.cur.2.2],.bool (Y_ p.steps x y).2],s')/\s'.get mb=some (.cells (ints (Y_ p.steps x y).1.marks) 3 false 0 0):=by
 obtain⟨marks,⟨a,k,g⟩,last⟩:=x;have hl:=hx.last;have ha:=hx.cur.a;have hk:=hx.cur.k;have hg:=hx.cur.g;have OG:=hx.marks;simp only at hl ha hk hg OG;have hT:Tm p.steps a<=64:=by rw[G3 ha];exact (hS.tm _ (adm ha)).2
 have hW:Wn p.steps a<=255:=by rw[D0 ha];exact (hS.wi _ (adm ha)).2
 have hb:=QH (last:=last) (sym:=(y:Int)) (p.steps.map Step.cond) marks (fun c hc ms hm=>PS hl.1 c (hS.rH c hc) ms hm) OG;obtain⟨_,run⟩:=hb;obtain⟨bs,own,e1,e2,e3,e4,e5,e6,e7⟩:=run [];rw[alZ] at e1;rw[agC] at e5;have hlp:0<own.length:=by
  rw[e3];have ZC:=hS.ne
  cases Xz:p.steps with
  |nil=>rw[Xz] at ZC;simp at ZC
  |cons s l=>rw[alT,ZS];have:=RR s.cond;omega
 have LP:=ZI p.nl (Zx p.steps);have nn:=ZL p.nl (Zx p.steps);have cn:=Zu p.nl (Zx p.steps);rw[X9];unfold Y_;simp only[e1];unfold T4;simp only[go_sem,abY];refine ajL (ZB:=fun (o:Option (AV×St))=>∃s' mb,o=some (.XU [.agg [.int .i64 (y:Int),.sl mb 0 own.length none 1,.int .i64 (oe (Wn p.steps) (Tm p.steps) p.steps.length (JZ bs) a k g).1.1,.int .i64 (oe (Wn p.steps) (Tm p.steps) p.steps.length (JZ bs) a k g).1.2.1,.int .i64 (oe (Wn p.steps) (Tm p.steps) p.steps.length (JZ bs) a k g).1.2.2],.bool (oe (Wn p.steps) (Tm p.steps) p.steps.length (JZ bs) a k g).2],s')/\s'.get mb=some (.cells (ints own) 3 false 0 0)) (p:=p) (last:=last) (sym:=(y:Int)) (marks:=marks) (x2:=.int .i64 (a:Nat)) (x3:=.int .i64 k) (x4:=.int .i64 g) ⟨by omega,by omega⟩ ⟨hl.1,by omega⟩ hS.wf MZ Ha OG ?_ ?_ ?_ ?_ ?_ ?_ ?_ ?_ ?_ ?_ ?_ ?_ ?_ ?_ ?_
 case refine_15 =>
  intro e' s' v8 mv E3 E6 E9 E8 hr8 hrm m8 m10 m11 Xx;rw[e1] at hr8 hrm;simp only at hr8 hrm;rcases hr8 with⟨h,_⟩|⟨_,_,TQ,b1,b2,rfl,b3⟩
  ·have:=hS.ne;omega
  rcases hrm with⟨h,_⟩|⟨_,_,mb',d1,d2,rfl,d3⟩
  ·omega
  obtain⟨s3,o1,o2⟩:=af8 p (H:=bs) e5 ha (by omega) ⟨hk.1,by omega⟩ ⟨hg.1,by omega⟩ E3 E6 E8 E9 m8 m10 m11 b3 e5.symm d3 rfl d1 b1 d2 b2;exact⟨s3,mb',o1,o2⟩
 case refine_14 =>
  repeat first|exact Fr.own|apply Fr.new|apply Fr.put|apply Fr.upto
  all_goals simp only[go_sem]
  all_goals first|omega|decide
 all_goals simp only[go_sem]
 all_goals first|rfl|omega
theorem KD {f:FuncId}{rs:List ResultVar}{r:RC}(h:Ze f=some (rs,r)){args:List AV}{s:St}{x:AV×St}(hg:go U (Sx U rs) [] r (YX 0 args .nil) s=some x):Oj U (Yf U) f args s=some x:=by
 obtain⟨fn,c,f1,f2,f3,f4⟩:=Nt h;exact KV U f1 f2 f3 f4 hg
theorem acF {S:St}{mb n:Nat}{own:List Int}{l a k g:Int}(hn:own.length=n)(h:S.get mb=some (.cells (ints own) 3 false 0 0))(d:Nat):Yn U S (d+4) (.agg [.int .i64 l,.sl mb 0 n none 1,.int .i64 a,.int .i64 k,.int .i64 g])=some (.agg [.int .i64 l,.fz (ints own),.int .i64 a,.int .i64 k,.int .i64 g]):=by
 have e:=Ux (d:=d+1) (cap:=none) h;rw[hn] at e;have hm:Y' (Yn U S (d+3)) [.int .i64 l,.sl mb 0 n none 1,.int .i64 a,.int .i64 k,.int .i64 g]=some [.int .i64 l,.fz (ints own),.int .i64 a,.int .i64 k,.int .i64 g]:=by
  simp only[Y',e];rfl
 rw[Vi,hm];rfl
theorem bW {S:St}{mb n:Nat}{own:List Int}{l a k g:Int}(hn:own.length=n)(h:S.get mb=some (.cells (ints own) 3 false 0 0))(d:Nat):XC U S (d+4) (.agg [.int .i64 l,.sl mb 0 n none 1,.int .i64 a,.int .i64 k,.int .i64 g])=some (.agg [.int .i64 l,.fz (ints own),.int .i64 a,.int .i64 k,.int .i64 g]):=by
 have e:=HG (d:=d+2) (cap:=none) (n:=n) (by rw[YK,hn]) h Ka J' (XR _) (JJ _ _ _);have hm:Y' (XC U S (d+3)) [.int .i64 l,.sl mb 0 n none 1,.int .i64 a,.int .i64 k,.int .i64 g]=some [.int .i64 l,.fz (ints own),.int .i64 a,.int .i64 k,.int .i64 g]:=by
  simp only[Y',e];rfl
 rw[XC,hm]
theorem iX {S:St}{d:Nat}{a b a' b':AV}(h1:Yn U S d a=some a')(h2:Yn U S d b=some b'):Yn U S (d+1) (.XU [a,b])=some (.XU [a',b']):=by
 have e:Y' (Yn U S d) [a,b]=some [a',b']:=by
  rw[Y',h1,Y',h2,Y']
 rw[sj,e];rfl
theorem ajV {p:Prog}(hS:Y0 p.steps)(Ha:p.steps.length<=8)(MZ:ZS (p.steps.map Step.cond)<=2^20){m:Nat}(hm:m<=65536){x:RN}(hx:Sj p.steps m x){y:Nat}(hy:y<m) :
  ZE U 108 [Vw p,T4 x,.int .i64 (y:Int)]=some (.XU [T4 (Y_ p.steps x y).1,.bool (Y_ p.steps x y).2]):=by
 obtain⟨s',mb,h1,h2⟩:=af7 hS Ha MZ hm hx hy;refine VL (by kernel_rfl) (by simp[ZU,X',T4,still]) ?_;unfold Yg;rw[KD afB h1];simp only[if_true];exact iX (acF (d:=35) rfl h2) rfl
theorem af9 {p:Prog}(hS:Y0 p.steps)(Ha:p.steps.length<=8)(MZ:ZS (p.steps.map Step.cond)<=2^20){m:Nat}(hm:m<=65536){x:RN}(hx:Sj p.steps m x){y:Nat}(hy:y<m)(S:St) :
  UR U 108 (some [Vw p,T4 x,.int .i64 (y:Int)]) S=some (.XU [T4 (Y_ p.steps x y).1,.bool (Y_ p.steps x y).2],S):=by
 obtain⟨s',mb,h1,h2⟩:=af7 hS Ha MZ hm hx hy;refine X0 U S ?_;unfold Yg;rw[KD afB h1];have MB:flat (.XU [.agg [.int .i64 (Y_ p.steps x y).1.last,.sl mb 0 (Y_ p.steps x y).1.marks.length none 1,.int .i64 (Y_ p.steps x y).1.cur.1,.int .i64 (Y_ p.steps x y).1.cur.2.1,.int .i64 (Y_ p.steps x y).1.cur.2.2],.bool (Y_ p.steps x y).2])=false:=rfl;simp only[ali,if_false,MB];exact Dv (bW (d:=35) rfl h2) rfl
theorem ajW {args:List AV}{s:St}(h:ZU args=false):X6 U (ZE U 108 args) 108 args s=UR U 108 (Y' (Yn U s 40) args) s:=Ke (by kernel_rfl) s h
def JG (x:RN):List Int:=x.last::x.cur.1::x.cur.2.1::x.cur.2.2::x.marks
theorem Gd (x:RN):(JG x).length=4+x.marks.length:=by unfold JG;simp;omega
theorem af_ {x:RN}(h0:x.marks≠[])(hl:x.marks.length<=2^20):∃s' b,go U (Sx U [.tmp 2]) [] abZ (YX 0 [T4 x] .nil) (X8 U)=some (.sl b 0 (4+x.marks.length) none 1,s')/\s'.get b=some (.cells (ints (JG x)) 3 false 0 0):=by
 obtain⟨marks,⟨a,k,g⟩,last⟩:=x;simp only at h0 hl;have Mg:=fun S=>RJ marks S
 have ra:=YK marks;have eB:marks.length≠0:=fun e=>h0 (al6.1 e)
 unfold T4;simp only[go_sem,abZ,Mg];have e1:∀S:St,S.get 9=some (.cells (ints [last,(a:Int),k,g]) 3 false 0 0)->B7 3 1 8 (.sl 9 0 4 (some 4) 1) (some (marks.length,ints marks)) S=some (.sl S.next 0 (4+marks.length) none 1,S.new (.cells (ints (last::(a:Int)::k::g::marks)) 3 false 0 0)):=fun S hg=>by
  have hz:Go.Am.Xj (.sl 9 0 4 (some 4) 1)=4:=rfl;rw[ZH (by rw[YK];omega) (by rw[hz];omega) (by rw[hz];omega) eB,T1 hg rfl (by omega)];rfl
 rw[e1 _ (by simp only[go_sem];rfl)];simp only[go_sem];exact⟨_,_,rfl,by simp only[go_sem];rfl⟩
theorem ajX {x:RN}(h0:x.marks≠[])(hl:x.marks.length<=2^20):ZE U 110 [T4 x]=some (.fz (ints (JG x))):=by
 obtain⟨s',b,h1,h2⟩:=af_ h0 hl;refine VL (by kernel_rfl) (by simp[ZU,T4,still]) ?_;unfold Yg;rw[KD afC h1];simp only[if_true];have:=Ux (d:=38) (cap:=none) h2
 rwa [Gd] at this
theorem af' {x:RN}(h0:x.marks≠[])(hl:x.marks.length<=2^20)(S:St):UR U 110 (some [T4 x]) S=some (.fz (ints (JG x)),S):=by
 obtain⟨s',b,h1,h2⟩:=af_ h0 hl;refine X0 U S ?_;unfold Yg;rw[KD afC h1];have MB:flat (.sl b 0 (4+x.marks.length) none 1)=false:=rfl;simp only[ali,if_false,MB];exact HG (d:=39) (cap:=none) (by rw[YK,Gd]) h2 Ka J' (XR _) (JJ _ _ _)
theorem ajY {args:List AV}{s:St}(h:ZU args=false):X6 U (ZE U 110 args) 110 args s=UR U 110 (Y' (Yn U s 40) args) s:=Ke (by kernel_rfl) s h
def nY (s:St)(bM:Nat)(l:List Int)(v:AV):Prop:=v=.fz (ints l)\/(v=.sl bM 0 l.length (some l.length) 1/\s.get bM=some (.cells (ints l) 3 false 0 0))
theorem nY.keep {s s':St}{bM:Nat}{l:List Int}{v:AV}(h:nY s bM l v)(hg:s'.get bM=s.get bM):nY s' bM l v:=by
 rcases h with h|⟨h1,h2⟩
 ·exact .inl h
 ·exact .inr ⟨h1,by rw[hg];exact h2⟩
def Vv (x:RN)(v:AV):List AV:=[.int .i64 x.last,v,.int .i64 x.cur.1,.int .i64 x.cur.2.1,.int .i64 x.cur.2.2]
theorem nY.Yn {s:St}{bM:Nat}{x:RN}{v:AV}(h:nY s bM x.marks v)(d:Nat):Go.Am.Yn U s (d+4) (.agg (Vv x v))=some (T4 x):=by
 have e:Go.Am.Yn U s (d+3) v=some (.fz (ints x.marks)):=by
  rcases h with rfl|⟨rfl,hg⟩
  ·rw[Bz]
  ·exact Ux (d:=d+1) (cap:=some x.marks.length) hg
 have hm:Y' (Go.Am.Yn U s (d+3)) (Vv x v)=some [.int .i64 x.last,.fz (ints x.marks),.int .i64 x.cur.1,.int .i64 x.cur.2.1,.int .i64 x.cur.2.2]:=by
  unfold Vv;simp only[Y',e];rfl
 rw[Vi,hm];rfl
theorem ad2 {p:Prog}(hS:Y0 p.steps)(Ha:p.steps.length<=8)(MZ:ZS (p.steps.map Step.cond)<=2^20){m:Nat}(hm:m<=65536){x:RN}(hx:Sj p.steps m x){y:Nat}(hy:y<m){s:St}{bM:Nat}{v:AV}(hv:nY s bM x.marks v) :
  X6 U (ZE U 108 [Vw p,.agg (Vv x v),.int .i64 (y:Int)]) 108 [Vw p,.agg (Vv x v),.int .i64 (y:Int)] s=some (.XU [T4 (Y_ p.steps x y).1,.bool (Y_ p.steps x y).2],s):=by
 rcases hv with rfl|⟨rfl,hg⟩
 ·have:=ajV hS Ha MZ hm hx hy;rw[show T4 x=.agg (Vv x (.fz (ints x.marks))) from rfl] at this;rw[this,U8]
 ·rw[ajW (by simp[ZU,Vv,still])];have e1:=nY.Yn (x:=x) (.inr ⟨rfl,hg⟩:nY s bM x.marks (.sl bM 0 x.marks.length (some x.marks.length) 1)) 36;have e2:Go.Am.Yn U s 40 (Vw p)=some (Vw p):=by
   rw[X9,Vi];simp only[Y',UL];rfl
  have hmm:Y' (Go.Am.Yn U s 40) [Vw p,.agg (Vv x (.sl bM 0 x.marks.length (some x.marks.length) 1)),.int .i64 (y:Int)]=some [Vw p,T4 x,.int .i64 (y:Int)]:=by
   simp only[Y',e1,e2];rfl
  rw[hmm];exact af9 hS Ha MZ hm hx hy s
theorem aak {x:RN}(h0:x.marks≠[])(hl:x.marks.length<=2^20){s:St}{bM:Nat}{v:AV}(hv:nY s bM x.marks v) :
  X6 U (ZE U 110 [.agg (Vv x v)]) 110 [.agg (Vv x v)] s=some (.fz (ints (JG x)),s):=by
 rcases hv with rfl|⟨rfl,hg⟩
 ·have:=ajX h0 hl;rw[show T4 x=.agg (Vv x (.fz (ints x.marks))) from rfl] at this;rw[this,U8]
 ·rw[ajY (by simp[ZU,Vv,still])];have e1:=nY.Yn (x:=x) (.inr ⟨rfl,hg⟩:nY s bM x.marks (.sl bM 0 x.marks.length (some x.marks.length) 1)) 36;have hm:Y' (Go.Am.Yn U s 40) [.agg (Vv x (.sl bM 0 x.marks.length (some x.marks.length) 1))]=some [T4 x]:=by
   simp only[Y',e1]
  rw[hm];exact af' h0 hl s
end Go.Am
namespace Go.Am
open Go
section
variable {S:Type} [DecidableEq S]
def XX:List S->S->Nat
 |[],_=>0
 |x::l,c=>if x=c then 0 else XX l c+1
theorem Q8:∀(l:List S) (c:S),XX l c<l.length<->c∈l
 |[],c=>by simp[XX]
 |x::l,c=>by
  have:=Q8 l c;rw[XX,akd,alL];by_cases h:x=c
  ·rw[if_pos h];exact⟨fun _=>.inl h.symm,fun _=>by omega⟩
  ·rw[if_neg h]
   constructor
   ·intro h2;exact .inr (this.1 (by omega))
   ·rintro (h2|h2)
    ·exact absurd h2.symm h
    ·have:=this.2 h2;omega
theorem tC:∀(l:List S) (c:S),XX l c<=l.length
 |[],c=>agB _
 |x::l,c=>by
  have:=tC l c;rw[XX,akd];by_cases h:x=c
  ·rw[if_pos h];omega
  ·rw[if_neg h];omega
theorem GN (c:S):∀(L R:List S),c∈L->XX (L++R) c=XX L c
 |[],R,h=>by simp at h
 |x::L,R,h=>by
  rw[alU,XX,XX];by_cases hx:x=c
  ·rw[if_pos hx,if_pos hx]
  ·rw[if_neg hx,if_neg hx,GN c L R (by
    rcases alL.1 h with h|h
    ·exact absurd h.symm hx
    ·exact h)]
theorem GL (c:S):∀(L:List S),c∉L->XX (L++[c]) c=L.length
 |[],_=>by simp[XX]
 |x::L,h=>by
  rw[alU,XX,if_neg (fun e=>h (by rw[e];exact aba ..)),GL c L fun h2=>h (aab _ h2)];rfl
theorem Lk (c:S):∀(L:List S),c∉L->XX L c=L.length
 |[],_=>rfl
 |x::L,h=>by
  rw[XX,if_neg (fun e=>h (by rw[e];exact aba ..)),Lk c L fun h2=>h (aab _ h2)];rfl
theorem Bv:∀{l:List S} {c:S},c∈l->l[XX l c]? = some c
 |[],c,h=>by simp at h
 |x::l,c,h=>by
  rw[XX];by_cases hx:x=c
  ·rw[if_pos hx,hx];rfl
  ·rw[if_neg hx,aml];exact Bv (by
    rcases alL.1 h with h|h
    ·exact absurd h.symm hx
    ·exact h)
def T5 (L:List S)(z:S):List S:=if z∈L then L else L++[z]
theorem Ll (L:List S)(z:S):∃R,T5 L z=L++R:=by
 unfold T5;by_cases h:z∈L
 ·exact⟨[],by rw[if_pos h,alZ]⟩
 ·exact⟨[z],by rw[if_neg h]⟩
theorem GM (L:List S)(z:S):z∈T5 L z:=by
 unfold T5;by_cases h:z∈L
 ·rw[if_pos h];exact h
 ·rw[if_neg h];exact List.mem_append_right _ (ake.2 rfl)
theorem rX {L:List S}{z c:S}(h:c∈T5 L z):c∈L\/c=z:=by
 unfold T5 at h;by_cases hz:z∈L
 ·rw[if_pos hz] at h;exact .inl h
 ·rw[if_neg hz] at h;rcases amb.1 h with h|h
  ·exact .inl h
  ·exact .inr (ake.1 h)
theorem aW {L:List S}(h:L.Nodup)(z:S):(T5 L z).Nodup:=by
 unfold T5;by_cases hz:z∈L
 ·rw[if_pos hz];exact h
 ·rw[if_neg hz];rw[List.nodup_append];refine⟨h,by simp,fun a ha b hb=>?_⟩;rw[ake.1 hb];rintro rfl;exact hz ha
def Vh (g:Nat->S):Nat->Nat->List S->List S
 |0,_,L=>L
 |r+1,y,L=>Vh g r (y+1) (T5 L (g y))
def Rd (nx:S->Nat->S)(m:Nat):Nat->Nat->List S->List S
 |0,_,L=>L
 |f+1,i,L=>match L[i]? with
  |none=>L
  |some x=>Rd nx m f (i+1) (Vh (nx x) m 0 L)
theorem Ff {Inv:S->Prop}{g:Nat->S}:∀(r y:Nat) (L:List S),(∀z,y<=z->z<y+r->Inv (g z))->L.Nodup->(∀x∈L,Inv x) ->
  (∃R,Vh g r y L=L++R)/\(Vh g r y L).Nodup/\(∀x∈Vh g r y L,Inv x)/\∀z,y<=z->z<y+r->g z∈Vh g r y L
 |0,y,L,_,h1,h2=>⟨⟨[],(alZ L).symm⟩,h1,h2,fun z a b=>by omega⟩
 |r+1,y,L,hg,h1,h2=>by
  obtain⟨R0,e0⟩:=Ll L (g y);obtain⟨⟨R,e⟩,k1,k2,k3⟩:=Ff (Inv:=Inv) (g:=g) r (y+1) (T5 L (g y)) (fun z a b=>hg z (by omega) (by omega)) (aW h1 _) fun x hx=>by
   rcases rX hx with h|h
   ·exact h2 x h
   ·rw[h];exact hg y (agB _) (by omega)
  refine⟨⟨R0++R,by rw[Vh,e,e0,alS]⟩,k1,k2,fun z a b=>?_⟩;by_cases hz:z=y
  ·subst hz;rw[Vh,e];exact List.mem_append_left _ (GM L (g z))
  ·exact k3 z (by omega) (by omega)
structure Bj (nx:S->Nat->S)(m:Nat)(Inv:S->Prop)(i:Nat)(L:List S):Prop where
 nd:L.Nodup
 inv:∀x∈L,Inv x
 le:i<=L.length
 cl:∀j,j<i->∀(h:j<L.length) y,y<m->nx L[j] y∈L
theorem Bj.len {nx:S->Nat->S}{m n:Nat}{Inv:S->Prop}{κ:S->Nat}(hκ:∀x,Inv x->κ x<n)(hinj:∀x y,Inv x->Inv y->κ x=κ y->x=y){i:Nat}{L:List S}(h:Bj nx m Inv i L):L.length<=n:=by
 have EG:((L.map κ).map id).Nodup:=by
  rw[List.map_id,List.nodup_iff_pairwise_ne,List.pairwise_map];exact (List.nodup_iff_pairwise_ne.1 h.nd).imp_of_mem fun ha hb (ZC:_≠_) e=>ZC (hinj _ _ (h.inv _ ha) (h.inv _ hb) e)
 have:=Vn EG (n:=n) fun a ha=>by
  obtain⟨x,hx,rfl⟩:=alN.1 ha;exact hκ x (h.inv x hx)
 rwa [agC] at this
theorem Bj.row {nx:S->Nat->S}{m:Nat}{Inv:S->Prop}(hI:∀x,Inv x->∀y,y<m->Inv (nx x y)){i:Nat}{L:List S}(h:Bj nx m Inv i L)(hi:i<L.length):Bj nx m Inv (i+1) (Vh (nx L[i]) m 0 L)/\∃R,Vh (nx L[i]) m 0 L=L++R:=by
 obtain⟨⟨R,e⟩,k1,k2,k3⟩:=Ff (Inv:=Inv) (g:=nx L[i]) m 0 L (fun z _ hz=>hI _ (h.inv _ (adm hi)) z (by omega)) h.nd h.inv;refine⟨⟨k1,k2,by rw[e,agy];omega,fun j hj hjl y hy=>?_⟩,R,e⟩;have hg:(Vh (nx L[i]) m 0 L)[j]=L[j]'(by omega):=by
  have:(L++R)[j]'(by rw[agy];omega)=L[j]'(by omega):=al2 (by omega);rw[<-this]
  congr 1
 rw[hg];by_cases hji:j=i
 ·subst hji;exact k3 y (aic _) (by omega)
 ·rw[e];exact List.mem_append_left _ (h.cl j (by omega) (by omega) y hy)
theorem Sd {nx:S->Nat->S}{m n:Nat}{Inv:S->Prop}{κ:S->Nat}(hI:∀x,Inv x->∀y,y<m->Inv (nx x y))(hκ:∀x,Inv x->κ x<n)(hinj:∀x y,Inv x->Inv y->κ x=κ y->x=y) :
  ∀(f i:Nat) (L:List S),Bj nx m Inv i L->n+1<=f+i->Bj nx m Inv (Rd nx m f i L).length (Rd nx m f i L)/\(Rd nx m f i L).length<=n/\∃R,Rd nx m f i L=L++R:=by
 have hlen:∀i L,Bj nx m Inv i L->L.length<=n:=fun i L h=>h.len hκ hinj
 intro f
 induction f with
 |zero =>
  intro i L h hf;have:=hlen i L h;have:=h.le;omega
 |succ f ih =>
  intro i L h hf;rw[Rd];by_cases hi:i<L.length
  ·rw[aaa hi];simp only;obtain⟨h',R,e⟩:=h.row hI hi;obtain⟨k1,k2,R2,e2⟩:=ih (i+1) _ h' (by omega);exact⟨k1,k2,R++R2,by rw[e2,e,alS]⟩
  ·rw[amm (by omega)];have:i=L.length:=by have:=h.le;omega
   subst this;exact⟨h,hlen _ _ h,[],(alZ L).symm⟩
end
end Go.Am
namespace Go.Am
open Go
variable [Z4]
set_option maxRecDepth 100000
set_option maxHeartbeats 8000000
structure Yld (fn:AV)(k B0:Nat)(G:Type)(CI:G->St->Prop)(fp:G->Nat->Prop)(Na:Nat->Nat->Prop)(y:Nat->Nat->Bool)(Jk:G->Nat->Nat->G->Prop):Prop where
 call:∀g c x s,Na c x->CI g s->Fr s->∃g' s',GR U fn [.agg (jh k c),.int .i64 (x:Int)] s=some (.bool (y c x),s')/\Jk g c x g'/\CI g' s'/\(∀j,fp g' j->fp g j\/s.next<=j)/\(∀j,j<s.next->¬fp g j->s'.get j=s.get j)/\s.next<=s'.next/\Fr s'
 keep:∀g s s',CI g s->s.next<=s'.next->(∀j,j<s.next->(fp g j\/j<B0)->s'.get j=s.get j)->CI g s'
 lt:∀g s,CI g s->∀j,fp g j->j<s.next
def fB (s:St)(N:Nat)(t:TypeId)(n:Nat)(cs:List AV)(v:AV):Prop:=∃b cap,v=.sl b 0 n cap 2/\(cap=none\/cap=some n)/\s.get b=some (.cells cs t false 0 0)/\cs.length=n*2/\N<=b/\b<s.next
theorem fB.keep {s s':St}{N n:Nat}{t:TypeId}{cs:List AV}{v:AV}(h:fB s N t n cs v)(hn:s.next<=s'.next)(hg:∀j,j<s.next->N<=j->s.get j=some (.cells cs t false 0 0)->s'.get j=s.get j):fB s' N t n cs v:=by
 obtain⟨b,cap,h1,h2,h3,h4,h5,h6⟩:=h;exact⟨b,cap,h1,h2,by rw[hg b h6 h5 h3];exact h3,h4,h5,by omega⟩
theorem fB.app {s:St}{N n:Nat}{t:TypeId}{cs:List AV}{v:AV}(h:fB s N t n cs v)(hN:N<=s.next)(x y:AV)(hx:Zz x=true)(hy:Zz y=true) :
  ∃s1,Rx t 2 1 [x,y] v s=some (.sl s.next 0 (n+1) none 2,s1)/\s1.next=s.next+1/\fB s1 N t (n+1) (cs++[x,y]) (.sl s.next 0 (n+1) none 2)/\(∀j,j<s.next->s.get j≠some (.cells cs t false 0 0)->s1.get j=s.get j)/\(Fr s->Fr s1):=by
 obtain⟨b,cap,rfl,h2,h3,h4,h5,h6⟩:=h;rcases h2 with rfl|rfl
 ·refine⟨(s.put b .gone).new (.cells (cs++[x,y]) t false 0 0),by rw[TR,h3,VA h4 (by omega) (by simp[hx,hy])],rfl,⟨s.next,none,rfl,.inl rfl,by rw[Z7,Z',if_pos rfl],by simp[h4];omega,hN,by rw[Z_,Z'];omega⟩,fun j hj ZC=>?_,fun hf=>(hf.put h6 _).new _⟩;have:b≠j:=by rintro rfl;exact ZC h3
  rw[Z7,Z',if_neg (by omega),Z9,if_neg this]
 ·refine⟨s.new (.cells (cs++[x,y]) t false 0 0),by rw[T1 h3 h4 (by omega)],rfl,⟨s.next,none,rfl,.inl rfl,by rw[Z7,if_pos rfl],by simp[h4];omega,hN,by rw[Z_];omega⟩,fun j hj ZC=>?_,fun hf=>hf.new _⟩;rw[Z7,if_neg (by omega)]
def pcs (k:Nat)(L:List Nat):List AV:=L.flatMap (jh k)
def scs (L:List (Int×Int)):List AV:=L.flatMap fun p=>[.int .i64 p.1,.int .i64 p.2]
def A9:List Ij->List (Int×Int)
 |[]=>[]
 |_::l=>(-1,0)::l.map fun t=>((t.2.1:Int),(t.2.2:Int))
def aaE (T:List Ij):List Nat:=T.map (·.1)
def gM (v:AV)(j:Nat):Prop:=∃n cap,v=.sl j 0 n cap 2
theorem fB.Xj {s:St}{N n:Nat}{t:TypeId}{cs:List AV}{v:AV}(h:fB s N t n cs v):Go.Am.Xj v=n:=by
 obtain⟨b,cap,rfl,_⟩:=h;rfl
inductive EE {G:Type} (Jk:G->Nat->Nat->G->Prop):G->List (Nat×Nat)->G->Prop
 |nil (g:G):EE Jk g [] g
 |snoc {g g1 g2:G} {l:List (Nat×Nat)} {c x:Nat}:EE Jk g l g1->Jk g1 c x g2->EE Jk g (l++[(c,x)]) g2
structure Wx (s:St)(N:Nat)(a b:Yi)(Ri:Nat->Prop)(A0 B0 mp pt:Nat)(T:List Ij)(pv sv:AV):Prop where
 gA:s.get A0=some (.cells [.int .i64 a.lines,ZG a.TH (a.next.map Zn),ZG a.S6 (a.ZD.map Zv)] 69 false 0 0)
 gB:s.get B0=some (.cells [.int .i64 b.lines,ZG b.TH (b.next.map Zn),ZG b.S6 (b.ZD.map Zv)] 69 false 0 0)
 gm:s.get mp=some (.map (afY b.fa.n (fun _=>.bool true) (aaE T) 0) false)
 hp:fB s N 186 T.length (pcs b.fa.n (aaE T)) pv
 hs:fB s N 262 T.length (scs (A9 T)) sv
 lt:A0<s.next/\B0<s.next/\mp<s.next/\pt<s.next/\N<=A0/\N<=B0/\N<=mp/\N<=pt
 fA:¬Ri A0/\¬Ri B0/\¬Ri mp/\¬Ri pt
 fp:∀j,gM pv j->¬Ri j/\j≠pt
 fs:∀j,gM sv j->¬Ri j
 np:A0≠pt/\B0≠pt/\mp≠pt
def alB (c x:Nat):List (Nat×Nat):=(List.range x).map fun z=>(c,z)
theorem EE.trans {G:Type}{Jk:G->Nat->Nat->G->Prop}{g g1 g2:G}{l l':List (Nat×Nat)}(h:EE Jk g l g1)(h':EE Jk g1 l' g2):EE Jk g (l++l') g2:=by
 induction h' with
 |nil=>rw[alZ];exact h
 |snoc h1 h2 ih=>rw[<-alS];exact .snoc ih h2
def qy (s:St)(N:Nat)(L:List Nat)(v:AV):Prop:=(v=.ZW/\L=[])\/∃w cap,v=.sl w 0 L.length cap 1/\s.get w=some (.cells (ZO L) 3 false 0 0)/\N<=w/\w<s.next/\L≠[]
end Go.Am
namespace Go.Am
open Go
variable [Z4]
structure aat (a b:Yi)(T:List Nat):Prop where
 pos:0<T.length
 nd:T.Nodup
 lt:∀c∈T,c<(aas a.fa b.fa).n
 cl:∀c∈T,∀x,x<2^a.lines.toNat->(aas a.fa b.fa).nx c x∈T
 hd:T[0]? = some 0
theorem aat.len {a b:Yi}{T:List Nat}(h:aat a b T):T.length<=a.fa.n*b.fa.n:=Vn (κ:=id) (by rw[List.map_id];exact h.nd) h.lt
end Go.Am
namespace Go.Am
open Go
variable [Z4]
set_option maxRecDepth 100000
set_option maxHeartbeats 8000000
theorem yf {s:St}{b d n:Nat}{cap:Option Nat}{t:TypeId}{l r:List AV}(hn:n=l.length)(hg:s.get b=some (.cells l t false 0 0))(Et:YC U t=some false)(VY:size U t=some 1)(Re:l.all Zz=true)(hf:Y' (XC U s d) l=some r) :
  XC U s (d+1) (.sl b 0 n cap 1)=some (.fz r):=by
 subst hn;simp only[XC,hg,ah1,Ws,Et,VY];rw[if_pos ⟨trivial,by omega,fun _=>⟨trivial,Re⟩⟩,VC,hf]
theorem uv (s:St)(d:Nat)(l:List Int):Y' (XC U s (d+1)) (ints l)=some (ints l):=UZ fun x hx=>by
 obtain⟨b,_,rfl⟩:=alN.1 hx;rfl
theorem ye (s:St)(d:Nat)(l:List Bool):Y' (XC U s (d+1)) (ZM l)=some (ZM l):=UZ fun x hx=>by
 obtain⟨b,_,rfl⟩:=alN.1 hx;rfl
theorem UQ.XC {s:St}{b d:Nat}{c:AV}{l:List AV}{t:TypeId}(h:UQ s b t c l)(Et:YC U t=some false)(VY:size U t=some 1)(Re:l.all Zz=true)(hf:Y' (Go.Am.XC U s d) l=some l):Go.Am.XC U s (d+1) c=some (.fz l):=by
 obtain⟨j,cap,rfl,_,_,_,h5⟩:=h;exact yf rfl h5 Et VY Re hf
theorem ZK.yd {s:St}{B:Nat}{t:TypeId}{l:List AV}{v:AV}(h:ZK s B t 1 l.length l v)(Et:YC U t=some false)(VY:size U t=some 1)(Re:l.all Go.Am.Zz=true)
  {d:Nat}{r:List AV}(hf:Y' (Go.Am.XC U s d) l=some r):Go.Am.XC U s (d+1) v=some (ZG true r):=by
 rcases h with⟨h0,rfl,_⟩|⟨h0,h1,b,_,_,rfl,hg⟩
 ·have:l=[]:=al6.1 h0;subst this
  cases hf
  rfl
 ·rw[yf rfl hg Et VY Re hf]
  cases r with
  |nil =>
   cases l with
   |nil=>simp at h0
   |cons x l =>
    rw[Y'] at hf
    cases h1:Go.Am.XC U s d x with
    |none=>rw[h1] at hf;cases hf
    |some y =>
     rw[h1] at hf
     cases h2:Y' (Go.Am.XC U s d) l with
     |none=>rw[h2] at hf;cases hf
     |some z=>rw[h2] at hf;cases hf
  |cons x r=>rfl
theorem Ts.XC {s:St}{b:Nat}{a:Yi}{cN cF:List AV}{v w:AV}(h:Ts s b a cN cF v w)(d:Nat):Go.Am.XC U s (d+3) v=some (ZG true ((Ml a.fa (XZ a)).map fun x=>AV.fz (ZO x.2)))/\Go.Am.XC U s (d+3) w=some (ZG true ((Ml a.fa (XZ a)).map fun x=>AV.fz (ZM (XF a.fa x.1)))) :=
 ⟨h.v.yd Ed Ec h.na.1 (d:=d+2) (Va h.ln fun j h1 h'=>(h.bn j h' h1).XC Ka J' (XR _) (uv _ _ _)),h.w.yd Eb Ea h.na.2 (d:=d+2) (Va h.lf fun j h1 h'=>(h.bf j h' h1).XC AI AH (U' _) (ye _ _ _))⟩
theorem qy.Yn {s:St}{N:Nat}{L:List Nat}{v:AV}(h:qy s N L v)(d:Nat):Go.Am.Yn U s (d+2) v=some (ZG true (ZO L)):=by
 rcases h with⟨rfl,rfl⟩|⟨w,cap,rfl,h2,h3,h4,h5⟩
 ·rfl
 ·rw[VD,h2,Wo,ah1,<-Ww L,Ws,Ka,J',TX];unfold ZO;rw[if_pos (XR _),VC,Ua s d (PV L),Tb]
  cases L with
  |nil=>exact absurd rfl h5
  |cons x l=>rfl
theorem qy.len {s:St}{N:Nat}{L:List Nat}{v:AV}(h:qy s N L v):Ti v=some (.int .i64 (L.length:Nat)):=by
 rcases h with⟨rfl,rfl⟩|⟨w,cap,rfl,_⟩ <;> rfl
theorem qy.na {s:St}{N:Nat}{L:List Nat}{v:AV}(h:qy s N L v):Zz v=true:=by
 rcases h with⟨rfl,rfl⟩|⟨w,cap,rfl,_⟩ <;> rfl
end Go.Am
namespace Go.Am
open Go
def sx (l:List Bool)(t:Nat):Prop:=l.getD t false=true
structure uH (n:Nat)(z z':List Bool×List Nat)(P:Nat->Prop):Prop where
 len:z'.1.length=n
 seen:∀t,sx z'.1 t<->sx z.1 t\/P t
 lay:∀t,t∈z'.2<->t∈z.2\/(P t/\¬sx z.1 t)
theorem uH.trans {n:Nat}{z z1 z2:List Bool×List Nat}{P Q:Nat->Prop}(h:uH n z z1 P)(h':uH n z1 z2 Q):uH n z z2 fun t=>P t\/Q t:=by
 refine⟨h'.len,fun t=>?_,fun t=>?_⟩
 ·rw[h'.seen,h.seen,or_assoc]
 ·rw[h'.lay,h.lay,h.seen];by_cases h1:P t <;> by_cases h2:Q t <;> by_cases h3:sx z.1 t <;> simp[h1,h2,h3]
theorem uH.congr {n:Nat}{z z':List Bool×List Nat}{P Q:Nat->Prop}(h:uH n z z' P)(e:∀t,P t<->Q t):uH n z z' Q:=by
 have:P=Q:=funext fun t=>propext (e t)
 rw[<-this];exact h
end Go.Am
namespace Go.Am
open Go
variable [Z4]
end Go.Am
namespace Go.Am
open Go
variable [Z4]
set_option maxRecDepth 100000
set_option maxHeartbeats 8000000
theorem HS.LD {s:St}{N:Nat}{L:List Nat}{v:AV}(h:HS s N L v){j:Nat}(hj:Xb v j):j<s.next/\s.get j=some (.cells (ZO L) 3 false 0 0):=by
 rcases h with⟨rfl,_⟩|⟨b,rfl,h2,h3,h4⟩
 ·exact absurd hj (V' j)
 ·rw[Yl] at hj;subst hj;exact⟨h4,h2⟩
structure SpI (s:St)(b5 b6 sb n:Nat)(z:List Bool×List Nat)(lv:AV):Prop where
 g5:s.get b5=some (.cells [.sl sb 0 n (some n) 1] 43 false 0 0)
 gs:s.get sb=some (.cells (ZM z.1) 4 false 0 0)
 g6:s.get b6=some (.cells [lv] 40 false 0 0)
 gl:HS s 0 z.2 lv
 lt:b5<s.next/\b6<s.next/\sb<s.next
 len:z.1.length=n
 cnt:z.2.length+z.1.count false<=n
theorem SpI.keep {s s':St}{b5 b6 sb n:Nat}{z:List Bool×List Nat}{lv:AV}(h:SpI s b5 b6 sb n z lv)(hn:s.next<=s'.next)(hg:∀j,j<s.next->j=b5\/j=b6\/j=sb\/Xb lv j->s'.get j=s.get j):SpI s' b5 b6 sb n z lv:=by
 obtain⟨g5,gs,g6,gl,⟨l1,l2,l3⟩,len,cnt⟩:=h;exact⟨(hg _ l1 (by simp)).trans g5,(hg _ l3 (by simp)).trans gs,(hg _ l2 (by simp)).trans g6,gl.keep hn fun j h1 _ h3=>hg j h1 (by simp[h3]),by omega,len,cnt⟩
theorem EE.map {G H:Type}{Jk:G->Nat->Nat->G->Prop}{ad6:H->Nat->Nat->H->Prop}{φ:G->H}(h:∀g c x g',Jk g c x g'->ad6 (φ g) c x (φ g')){g g':G}{l:List (Nat×Nat)}(hs:EE Jk g l g'):EE ad6 (φ g) l (φ g'):=by
 induction hs with
 |nil=>exact .nil _
 |snoc h1 h2 ih=>exact .snoc ih (h _ _ _ _ h2)
theorem tE {α:Type}(A:List α){m:Nat}(v d:α)(h:A.length<m):(A++List.replicate (m-A.length) d).set A.length v=(A++[v])++List.replicate (m-(A++[v]).length) d:=by
 rw[List.set_append_right _ _ (agB _),Nat.sub_self,agy,alW,show m-A.length=(m-(A.length+1))+1 by omega,List.replicate_succ,List.set_cons_zero,alS];rfl
theorem qk (a b:List Int):Qd a b=decide (a=b):=by
 by_cases h:a=b
 ·subst h;rw[My];simp
 ·rw[decide_eq_false h]
  revert b
  induction a with
  |nil=>intro b h;cases b with
   |nil=>exact absurd rfl h
   |cons y b=>exact Ns (by simp)
  |cons x a ih =>
   intro b h
   cases b with
   |nil=>exact Ns (by simp)
   |cons y b =>
    rw[Qd];by_cases hxy:x=y
    ·subst hxy;rw[ih b fun e=>h (by rw[e])];simp
    ·have:(x==y)=false:=by simpa using hxy
     simp[];intro e;exact absurd e hxy
theorem kY {x y:RN}(h:JG x=JG y):x=y:=by
 obtain⟨m,⟨a,k,g⟩,l⟩:=x;obtain⟨m',⟨a',k',g'⟩,l'⟩:=y;unfold JG at h;simp only[List.cons.injEq] at h;obtain⟨h1,h2,h3,h4,h5⟩:=h;have h2:a=a':=by omega
 subst h1;subst h2;subst h3;subst h4;subst h5;rfl
theorem kX (x y:RN):Qd (JG x) (JG y)=decide (x=y):=by
 rw[qk];by_cases h:x=y
 ·subst h;simp
 ·rw[decide_eq_false h,decide_eq_false fun e=>h (kY e)]
def fV (s:St)(N:Nat)(t:TypeId)(k n:Nat)(cs:List AV)(v:AV):Prop:=∃b cap,v=.sl b 0 n cap k/\(cap=none\/cap=some n)/\s.get b=some (.cells cs t false 0 0)/\cs.length=n*k/\N<=b/\b<s.next
def Sy (k:Nat)(v:AV)(j:Nat):Prop:=∃n cap,v=.sl j 0 n cap k
theorem Rc (k b n j:Nat)(cap:Option Nat):Sy k (.sl b 0 n cap k) j<->b=j:=by
 constructor
 ·rintro⟨m,c,h⟩;cases h;rfl
 ·rintro rfl;exact⟨n,cap,rfl⟩
theorem fV.app {s:St}{N k n:Nat}{t:TypeId}{cs:List AV}{v:AV}(h:fV s N t k n cs v)(hN:N<=s.next)(hk:k≠0){nc:List AV}(hl:nc.length=k)(Re:nc.all Zz=true) :
  ∃s1,Rx t k 1 nc v s=some (.sl s.next 0 (n+1) none k,s1)/\s1.next=s.next+1/\fV s1 N t k (n+1) (cs++nc) (.sl s.next 0 (n+1) none k)/\s1.get s.next=some (.cells (cs++nc) t false 0 0)/\(∀j,j<s.next->¬Sy k v j->s1.get j=s.get j)/\(Fr s->Fr s1):=by
 obtain⟨b,cap,rfl,h2,h3,h4,h5,h6⟩:=h;have hlen:(cs++nc).length=(n+1)*k:=by rw[agy,h4,hl,amx,amk]
 rcases h2 with rfl|rfl
 ·have g:((s.put b .gone).new (.cells (cs++nc) t false 0 0)).get s.next=some (.cells (cs++nc) t false 0 0):=by rw[Z7,Z',if_pos rfl]
  refine⟨(s.put b .gone).new (.cells (cs++nc) t false 0 0),by rw[TR,h3,VA h4 (by omega) Re],rfl,⟨s.next,none,rfl,.inl rfl,g,hlen,hN,by rw[Z_,Z'];omega⟩,g,fun j hj ZC=>?_,fun hf=>(hf.put h6 _).new _⟩;rw[Rc] at ZC;rw[Z7,Z',if_neg (by omega),Z9,if_neg ZC]
 ·have g:(s.new (.cells (cs++nc) t false 0 0)).get s.next=some (.cells (cs++nc) t false 0 0):=by rw[Z7,if_pos rfl]
  refine⟨s.new (.cells (cs++nc) t false 0 0),by rw[T1 h3 h4 (by omega)],rfl,⟨s.next,none,rfl,.inl rfl,g,hlen,hN,by rw[Z_];omega⟩,g,fun j hj ZC=>?_,fun hf=>hf.new _⟩;rw[Z7,if_neg (by omega)]
def rcs (E:List (RN×AV)):List AV:=E.flatMap fun p=>Vv p.1 p.2
theorem zj (p:RN×AV)(E:List (RN×AV)):rcs (p::E)=.int .i64 p.1.last::p.2::.int .i64 p.1.cur.1::.int .i64 p.1.cur.2.1::.int .i64 p.1.cur.2.2::rcs E:=rfl
theorem eF (E:List (RN×AV))(p:RN×AV):rcs (E++[p])=rcs E++Vv p.1 p.2:=by simp[rcs]
theorem GO:∀(E:List (RN×AV)) (i:Nat) (h:i<E.length),XA 5 (i*5) (rcs E)=some (Vv E[i].1 E[i].2)
 |p::E,0,_=>by
  rw[zj,Nat.zero_mul];simp[Sr,Sq,Vv]
 |p::E,i+1,h=>by
  have:=GO E i (by rw[akd] at h;omega);rw[show (i+1)*5=i*5+5 by omega,zj];exact this
structure n_ (s:St)(bM:Nat)(L:List RN)(E:List (RN×AV)):Prop where
 fst:E.map (·.1)=L
 vs:∀p∈E,nY s bM p.1.marks p.2
theorem n_.len {s:St}{bM:Nat}{L:List RN}{E:List (RN×AV)}(h:n_ s bM L E):E.length=L.length:=by
 rw[<-h.fst,agC]
theorem n_.keep {s s':St}{bM:Nat}{L:List RN}{E:List (RN×AV)}(h:n_ s bM L E)(hg:s'.get bM=s.get bM):n_ s' bM L E:=⟨h.fst,fun p hp=>(h.vs p hp).keep hg⟩
def mkB (x:RN):Prop:=x.marks≠[]/\x.marks.length<=2^20
theorem ahS {β:Type}{fin:Fl->β}{ks:List K}{ZB:β->Prop}{N bM ps:Nat}{L:List RN}{E:List (RN×AV)}{pv:AV}{z:RN}(hLl:L.length<=2^20)(hB:∀x∈L,mkB x)(hz:mkB z)
  {e:Env}{s:St}(g5:Env.get e 5=pv)(fk:Env.get e 11=.ptr ps 0)(Bl:Env.get e 13=.int .i64 (0:Nat))(hp:fV s N 176 5 L.length (rcs E) pv)(hE:n_ s bM L E)(gz:s.get ps=some (.cells (Vv z (.fz (ints z.marks))) 176 false 0 0))(fr:Fr s)
  (hk:∀e' s',(∀t:Nat,t<67->t≠13->Env.get e' t=Env.get e t)->Env.get e' 13=.int .i64 (XX L z:Nat)->(∀j,s'.get j=s.get j)->s.next<=s'.next->Fr s'->ZB (goN U fin ks e' s')) :
  ZB (SD U fin (.bk 6::ks) Ge e s):=by
 obtain⟨bp,cap,AN,EF,G',wu,aH,hp6⟩:=hp;rw[AN] at g5;have hEl:=hE.len;refine YP (σ:=Nat) (fun i=>L.length-i) (fun i e' s'=>i<=L.length/\(∀t:Nat,t<67->t≠13->Env.get e' t=Env.get e t)/\Env.get e' 13=.int .i64 (i:Nat)/\(∀j,s'.get j=s.get j)/\s.next<=s'.next/\Fr s'/\i+XX (L.drop i) z=XX L z) 0 ?_
  ⟨aic _,fun _ _ _=>rfl,Bl,fun _=>rfl,agB _,fr,by rw[amd,ald]⟩
 rintro Lp i e' s' ⟨hi,hold,Cb,hs,Vl,Xx,YA⟩ IH;have q5:=(hold 5 (by omega) (by omega)).trans g5;have tT:=(hold 11 (by omega) (by omega)).trans fk;have u3:=(hs bp).trans G';have uz:=(hs ps).trans gz;have Nc:=Xx.at;have Ib:∀t:Nat,t<67->t≠13->(13=t)=False/\∀k:Nat,67<=k->(k=t)=False:=fun t h1 h2=>⟨by simp;omega,fun k hk=>by simp;omega⟩
 by_cases hd:i<L.length
 ·have Rm:=ZN hd (by omega);have ni:i<E.length:=by omega
  have hEi:E[i].1=L[i]:=by
   have:(E.map (·.1))[i]'(by rw[agC];exact ni)=L[i]:=by simp only[hE.fst]
   rwa [List.getElem_map] at this
  have gr:=GO E i ni;have OG:=hE.vs E[i] (adm ni);have fJ:=hB L[i] (adm hd);rw[hEi] at gr OG;generalize E[i].2=V at *;have k1:=aak fJ.1 fJ.2 (s:=s'.upto (s'.next+15)) (OG.keep (by rw[ZT,hs]));have k2:=aak hz.1 hz.2 (s:=s'.upto (s'.next+15)) (bM:=bM) (.inl rfl);have k3:=aaT false false (JG L[i]) (JG z) (by rw[Gd];have:=fJ.2;omega);rw[WH,WH,kX] at k3;rw[abc hd,XX] at YA;generalize L[i]=x at *;unfold Vv at gr k1 k2 uz;by_cases hxz:x=z
  ·rw[if_pos hxz] at YA;rw[decide_eq_true hxz] at k3;simp only[go_sem,Ge,q5,tT,Cb,Z8,hd,u3,uz,gr,k1,k2,k3,ald];refine hk _ _ (fun t h1 h2=>?_) ?_ (fun j=>?_) ?_ ?_
   ·obtain⟨mC,ZC⟩:=Ib t h1 h2;simp only[go_sem,ZC];exact hold t h1 h2
   ·simp only[go_sem,Cb];rw[<-YA];rfl
   ·rw[ZT];exact hs j
   ·rw[Z6];omega
   ·exact Xx.upto (by omega)
  ·rw[if_neg hxz] at YA;rw[decide_eq_false hxz] at k3;simp only[go_sem,Ge,q5,tT,Cb,Z8,hd,u3,uz,gr,k1,k2,k3,Rm,ald];refine IH (i+1) _ _ (by omega) ⟨by omega,fun t h1 h2=>?_,?_,fun j=>?_,?_,?_,by omega⟩
   ·obtain⟨mC,ZC⟩:=Ib t h1 h2;simp only[go_sem,mC,ZC];exact hold t h1 h2
   ·simp only[go_sem]
   ·rw[ZT];exact hs j
   ·rw[Z6];omega
   ·exact Xx.upto (by omega)
 ·have xb:i=L.length:=by omega
  subst xb;rw[alO,XX] at YA;simp only[go_sem,Ge,q5,Cb,Z8,alh];refine hk _ _ (fun t h1 h2=>?_) ?_ (fun j=>?_) ?_ ?_
  ·obtain⟨mC,ZC⟩:=Ib t h1 h2;simp only[go_sem,ZC];exact hold t h1 h2
  ·simp only[go_sem,Cb];rw[<-YA];rfl
  ·rw[ZT];exact hs j
  ·rw[Z6];omega
  ·exact Xx.upto (by omega)
theorem ak0 {Yy:List Int}{a k g last:Int}(X5:r7 (a::k::g::last::Yy))(h0:Yy≠[])(hl:Yy.length<=2^20):∃s',go U (Sx U [.tmp 6]) [] ez (YX 0 [.fz (ints Yy),.agg [.int .i64 a,.int .i64 k,.int .i64 g],.int .i64 last] .nil) (X8 U)=some (.str (Qn (a::k::g::last::Yy)),s'):=by
 obtain⟨L,hL⟩:∃L,L=a::k::g::last::Yy:=⟨_,rfl⟩;have hLl:L.length=4+Yy.length:=by rw[hL];simp;omega
 have eB:Yy.length≠0:=fun e=>h0 (al6.1 e)
 rw[<-hL] at X5 ⊢;have Mg:=fun S=>RJ Yy S
 simp only[go_sem,ez,Mg];have e1:B7 3 1 8 (.sl 10 0 4 (some 4) 1) (some (Yy.length,ints Yy)) ((((X8 U).new (.cells [.int .i64 a,.int .i64 k,.int .i64 g] 167 false 0 0)).new (.cells [.Vk,.ZW] 207 false 0 0)).new (.cells [.int .i64 a,.int .i64 k,.int .i64 g,.int .i64 last] 3 false 0 0))=some (.sl 11 0 (4+Yy.length) none 1,((((X8 U).new (.cells [.int .i64 a,.int .i64 k,.int .i64 g] 167 false 0 0)).new (.cells [.Vk,.ZW] 207 false 0 0)).new (.cells [.int .i64 a,.int .i64 k,.int .i64 g,.int .i64 last] 3 false 0 0)).new (.cells (ints L) 3 false 0 0)):=by
  have hz:Go.Am.Xj (.sl 10 0 4 (some 4) 1)=4:=rfl;rw[ZH (by rw[YK];omega) (by rw[hz];omega) (by rw[hz];omega) eB,T1 (cs:=[.int .i64 a,.int .i64 k,.int .i64 g,.int .i64 last]) (lo:=0) (hi:=0) (by simp only[go_sem]) rfl (by omega)];rw[hL];rfl
 rw[e1];simp only[go_sem];obtain⟨S0,J8⟩:∃S0,S0=((((X8 U).new (.cells [.int .i64 a,.int .i64 k,.int .i64 g] 167 false 0 0)).new (.cells [.Vk,.ZW] 207 false 0 0)).new (.cells [.int .i64 a,.int .i64 k,.int .i64 g,.int .i64 last] 3 false 0 0)).new (.cells (ints L) 3 false 0 0):=⟨_,rfl⟩;rw[<-J8];have EO:S0.next=12:=by rw[J8];simp only[go_sem]
 have gL0:S0.get 11=some (.cells (ints L) 3 false 0 0):=by rw[J8];simp only[go_sem]
 have gb0:S0.get 9=some (.cells [.Vk,.ZW] 207 false 0 0):=by rw[J8];simp only[go_sem]
 have fr0:Fr S0:=by rw[J8];exact (((Fr.own.new _).new _).new _).new _
 rw[<-hLl];refine YP (ZB:=fun (o:Option (AV×St))=>∃s',o=some (.str (Qn L),s')) (σ:=Nat) (fun i=>L.length-i) (fun i e' s'=>i<=L.length/\Env.get e' 7=.ptr 9 0/\Env.get e' 19=.sl 11 0 L.length none 1/\Env.get e' 20=.int .i64 (L.length:Nat)/\Env.get e' 21=.int .i64 (i:Nat)/\s'.get 11=some (.cells (ints L) 3 false 0 0)/\12<=s'.next/\Fr s'/\Iq s' 9 (Qn (L.take i))) 0 ?_
  ⟨aic _,?_,?_,?_,?_,gL0,by omega,fr0,⟨.Vk,.ZW,gb0,.inl rfl,by omega,ZK.nil _ _ _ _⟩⟩
 ·rintro Lp i e' s' ⟨hi,q7,ey,mh,q21,gL,Vl,Xx,hB⟩ IH;by_cases hd:i<L.length
  ·have hw:=ZN hd (by omega);have hx:(ints L)[i]? = some (.int .i64 L[i]):=by rw[ints,alV,aaa hd];rfl
   obtain⟨o1,o2⟩:=X5 L[i] (adm hd);have hit:=aad L[i] o1 o2;obtain⟨f1,f2,_,_⟩:=Qm o1 o2;have NA:=Oy (L.take i) fun x hx=>X5 x (List.mem_of_mem_take hx)
   rw[amr] at NA;obtain⟨s1,r1,h131,B1,mg,n1,K1⟩:=af hB Xx (Bf L[i]) f1 (by omega);obtain⟨s2,h130,B2,O1,n2,K2⟩:=ae B1 mg 32 (by rw[agy];omega);have g1:=K1 11 _ _ (by omega) (by omega) gL (by decide);have gL1:=g1.trans gL;have g2:=K2 11 _ _ (by omega) (by omega) gL1 (by decide);have gL2:=g2.trans gL1;have h130:Rl U 130 [.ptr 9 0,.int .u8 32] s1=some (.TO,s2):=h130;simp only[go_sem,K9,q7,ey,mh,q21,Z8,hd,gL,hx,hit,mj,h131,aac,h130,hw,ald,ah1];refine IH (i+1) _ _ (by omega) ⟨by omega,?_,?_,?_,?_,gL2,by omega,O1,?_⟩
   case refine_5=>rw[Oz hd,zV];exact B2
   all_goals simp only[go_sem,q7,ey,mh]
  ·have xb:i=L.length:=by omega
   subst xb;rw[amH] at hB;have NA:=Oy L X5;obtain⟨s3,h133,n3,rC,_⟩:=mf hB Xx (by omega);simp only[go_sem,K9,q7,mh,q21,Z8,alh,ta,h133];exact⟨_,rfl⟩
 all_goals simp only[go_sem]
 all_goals rfl
theorem ahi {Yy:List Int}{a k g last:Int}(X5:r7 (a::k::g::last::Yy))(h0:Yy≠[])(hl:Yy.length<=2^20)(S:St):UR U 175 (some [.fz (ints Yy),.agg [.int .i64 a,.int .i64 k,.int .i64 g],.int .i64 last]) S=some (.str (Qn (a::k::g::last::Yy)),S):=by
 obtain⟨s',h1⟩:=ak0 X5 h0 hl;refine X0 U S ?_;unfold Yg;rw[KD aeh h1];rfl
def M4 (x:PN):XV:=Qn ((x.cur.1:Int)::x.cur.2.1::x.cur.2.2::x.last::x.Yy)
structure PB (x:PN):Prop where
 ok:r7 ((x.cur.1:Int)::x.cur.2.1::x.cur.2.2::x.last::x.Yy)
 ne:x.Yy≠[]
 le:x.Yy.length<=2^20
theorem xS {x y:PN}(hx:PB x)(hy:PB y)(e:M4 x=M4 y):x=y:=by
 have h:=xT _ _ hx.ok hy.ok e;obtain⟨l,⟨a,k,g⟩,m⟩:=x;obtain⟨l',⟨a',k',g'⟩,m'⟩:=y;simp only[List.cons.injEq] at h;obtain⟨h1,h2,h3,h4,h5⟩:=h;have h1:a=a':=by omega
 subst h1;subst h2;subst h3;subst h4;subst h5;rfl
theorem gy {L:List PN}(hL:∀x∈L,PB x){z:PN}(hz:PB z):XX (L.map M4) (M4 z)=XX L z:=by
 induction L with
 |nil=>rfl
 |cons x l ih =>
  have hx:=hL x (aba ..);rw[alT,XX,XX,ih fun y hy=>hL y (aab _ hy)];by_cases h:x=z
  ·subst h;rw[if_pos rfl,if_pos rfl]
  ·rw[if_neg h,if_neg fun e=>h (xS hx hz e)]
def iu (s:St)(bS:Nat)(l:List Int)(v:AV):Prop:=v=.fz (ints l)\/(v=.sl bS 0 l.length none 1/\s.get bS=some (.cells (ints l) 3 false 0 0))
theorem iu.keep {s s':St}{bS:Nat}{l:List Int}{v:AV}(h:iu s bS l v)(hg:∀c,s.get bS=some (.cells c 3 false 0 0)->s'.get bS=some (.cells c 3 false 0 0)):iu s' bS l v:=by
 rcases h with h|⟨h1,h2⟩
 ·exact .inl h
 ·exact .inr ⟨h1,hg _ h2⟩
theorem iu.Yn {s:St}{bS:Nat}{l:List Int}{v:AV}(h:iu s bS l v)(d:Nat):Go.Am.Yn U s (d+2) v=some (.fz (ints l)):=by
 rcases h with rfl|⟨rfl,hg⟩
 ·rw[Bz]
 ·exact Ux (d:=d) (cap:=none) hg
theorem iu.Zz {s:St}{bS:Nat}{l:List Int}{v:AV}(h:iu s bS l v):Go.Am.Zz v=true:=by
 rcases h with rfl|⟨rfl,hg⟩ <;> rfl
def VZ (x:PN)(v:AV):List AV:=[v,.int .i64 x.cur.1,.int .i64 x.cur.2.1,.int .i64 x.cur.2.2,.int .i64 x.last]
theorem ahj {x:PN}(hx:PB x){s:St}{bS:Nat}{v:AV}(hv:iu s bS x.Yy v) :
  X6 U (ZE U 175 [v,.agg [.int .i64 x.cur.1,.int .i64 x.cur.2.1,.int .i64 x.cur.2.2],.int .i64 x.last]) 175 [v,.agg [.int .i64 x.cur.1,.int .i64 x.cur.2.1,.int .i64 x.cur.2.2],.int .i64 x.last] s=some (.str (M4 x),s):=by
 rcases hv with rfl|⟨rfl,hg⟩
 ·rw[ah6 hx.ok hx.ne hx.le,U8];rfl
 ·rw[ah5 (by simp[ZU,still])];have e1:Go.Am.Yn U s 40 (.sl bS 0 x.Yy.length none 1)=some (.fz (ints x.Yy)):=Ux (d:=38) (cap:=none) hg;have hm:Y' (Go.Am.Yn U s 40) [.sl bS 0 x.Yy.length none 1,.agg [.int .i64 x.cur.1,.int .i64 x.cur.2.1,.int .i64 x.cur.2.2],.int .i64 x.last]=some [.fz (ints x.Yy),.agg [.int .i64 x.cur.1,.int .i64 x.cur.2.1,.int .i64 x.cur.2.2],.int .i64 x.last]:=by
   simp only[Y',e1];rfl
  rw[hm];exact ahi hx.ok hx.ne hx.le s
def LV:List XV->Nat->List (AV×AV)
 |[],_=>[]
 |k::ks,i=>(.str k,.int .i64 (i:Int))::LV ks (i+1)
theorem Fb (k:XV):∀(ks:List XV) (i:Nat),UM (.str k) (LV ks i)=some (bif decide (XX ks k<ks.length) then some (.int .i64 ((i+XX ks k:Nat):Int)) else none)
 |[],i=>rfl
 |x::l,i=>by
  rw[LV,UM,VQ,XX];by_cases h:x=k
  ·subst h;rw[if_pos rfl];simp
  ·have ZC:(k==x)=false:=by simpa using fun e=>h (Eq.symm e)
   rw[ZC,if_neg h];simp only[akd];rw[Fb k l (i+1)];have e:decide (XX l k+1<l.length+1)=decide (XX l k<l.length):=by congr 1;apply propext;omega
   rw[e]
   congr 2
   rw[show i+1+XX l k=i+(XX l k+1) by omega]
theorem CP (k:XV):∀(ks:List XV) (i:Nat),k∉ks->Ir (.str k) (.int .i64 ((i+ks.length:Nat):Int)) (LV ks i)=some (LV (ks++[k]) i)
 |[],i,_=>rfl
 |x::l,i,h=>by
  rw[alL,not_or] at h;have ZC:(k==x)=false:=by simpa using h.1
  have ih:=CP k l (i+1) h.2;rw[show i+1+l.length=i+(x::l).length by rw[akd];omega] at ih;rw[LV,Ir,VQ,ZC,alU,LV];simp only[ih]
theorem oA {s:St}{m:Nat}{ks:List XV}(h:s.get m=some (.map (LV ks 0) false))(k:XV):VK U 251 (.map m) (.str k) true s=some (bif decide (XX ks k<ks.length) then .XU [.int .i64 ((XX ks k:Nat):Int),.bool true] else .XU [.int .i64 0,.bool false]):=by
 have hu:U.Zd 251=some (.map 9 3):=by kernel_rfl
 have h9:U.Zd 9=some .string:=by kernel_rfl
 have hz:zero U 3=some (.int .i64 0):=by kernel_rfl
 unfold VK;rw[hu];simp only[Uq,h9,if_true,h,Fb,ald]
 cases decide (XX ks k<ks.length) with
 |true=>rfl
 |false=>simp only[cond_false,hz]
theorem oz {s:St}{m:Nat}{ks:List XV}(h:s.get m=some (.map (LV ks 0) false)){k:XV}(hk:k∉ks):UX U 251 (.map m) (.str k) (.int .i64 ((ks.length:Nat):Int)) s=some (s.put m (.map (LV (ks++[k]) 0) false)):=by
 have hu:U.Zd 251=some (.map 9 3):=by kernel_rfl
 have h9:U.Zd 9=some .string:=by kernel_rfl
 have:=CP k ks 0 hk;rw[ald] at this;unfold UX;rw[hu];simp only[Uq,h9,if_true,h,this]
def aI (E:List (PN×AV)):List AV:=E.flatMap fun p=>VZ p.1 p.2
structure OR (s:St)(bS mm mb nb N:Nat)(L:List PN)(E:List (PN×AV))(pv:AV):Prop where
 fst:E.map (·.1)=L
 vs:∀p∈E,iu s bS p.1.Yy p.2
 map:s.get mm=some (.map (LV (L.map M4) 0) false)
 AJ:s.get mb=some (.cells [.map mm] 251 false 0 0)
 VZ:s.get nb=some (.cells [pv] 252 false 0 0)
 row:ZK s N 254 5 L.length (aI E) pv
 lt:bS<N/\mm<N/\mb<N/\nb<N/\N<=s.next
theorem agx {s:St}{bS mm mb nb N:Nat}{L:List PN}{E:List (PN×AV)}{pv:AV}(h:OR s bS mm mb nb N L E pv)(hL:∀x∈L,PB x)(hlen:L.length<=2^20){z:PN}(hz:PB z){V:AV}(hV:iu s bS z.Yy V)(fr:Fr s) :
  ∃s' E' PW,Rl U 174 [.agg (VZ z V),.ptr mb 0,.ptr nb 0] s=some (.int .i64 (XX L z:Nat),s')/\OR s' bS mm mb nb N (T5 L z) E' PW/\Fr s'/\s.next<=s'.next/\(∀j c t lo hi,s.get j=some (.cells c t false lo hi)->j<s.next->t≠254->t≠252->s'.get j=some (.cells c t false lo hi))/\(∀j,j<s.next->j≠mm->j≠nb->¬Sy 5 pv j->s'.get j=s.get j)/\∀j,Sy 5 PW j->Sy 5 pv j\/s.next<=j:=by
 obtain⟨n1,n2,n3,n4,n5⟩:=h.lt;have hk:=ahj hz (s:=s.new (.cells (Go.Am.VZ z V) 254 false 0 0)) (hV.keep fun c hc=>by rw[Z7,if_neg (by omega)];exact hc);have hik:=gy hL hz;have gx:(s.new (.cells (Go.Am.VZ z V) 254 false 0 0)).get mm=some (.map (LV (L.map M4) 0) false):=by rw[Z7,if_neg (by omega)];exact h.map
 have pZ:=oA gx (M4 z);rw[hik,agC] at pZ;unfold Go.Am.VZ at hk pZ gx;have f1:(s.next=mb)=False:=by simp;omega
 have f2:(s.next=nb)=False:=by simp;omega
 have qI:=h.AJ;have gK:=h.VZ;have Re:=hV.Zz;by_cases Ue:z∈L
 ·refine⟨s.new (.cells (Go.Am.VZ z V) 254 false 0 0),E,pv,?_,?_,fr.new _,by rw[Z_];omega,fun j c t lo hi hj Yh _ _=>by rw[Z7,if_neg (by omega)];exact hj,fun j h1 _ _ _=>by rw[Z7,if_neg (by omega)],fun j hj=>.inl hj⟩
  ·refine VE afD (by kernel_rfl) ?_;have Yh:=(Q8 L z).2 Ue;rw[decide_eq_true Yh,cond_true] at pZ;unfold Go.Am.VZ;simp only[go_sem,ab0,hk,qI,pZ,f1]
  ·rw[T5,if_pos Ue];exact⟨h.fst,fun p hp=>(h.vs p hp).keep fun c hc=>by rw[Z7,if_neg (by omega)];exact hc,by rw[Z7,if_neg (by omega)];exact h.map,by rw[Z7,if_neg (by omega)];exact h.AJ,by rw[Z7,if_neg (by omega)];exact h.VZ,h.row.mono (by rw[Z_];omega) fun j h1 h2=>by rw[Z7,if_neg (by omega)],by rw[Z_];omega⟩
 ·have Yh:¬XX L z<L.length:=fun h'=>Ue ((Q8 L z).1 h')
  have hix:XX L z=L.length:=Lk z L Ue;rw[decide_eq_false Yh,cond_false] at pZ;have hmm:((mm=nb)=False)/\((mm=mb)=False)/\((nb=mb)=False):=by
   refine⟨eq_false fun e=>?_,eq_false fun e=>?_,eq_false fun e=>?_⟩
   ·have:=h.map;rw[e,gK] at this;cases this
   ·have:=h.map;rw[e,qI] at this;cases this
   ·rw[e,qI] at gK;cases gK
  obtain⟨m1,m2,m3⟩:=hmm;have Cn:M4 z∉L.map M4:=fun hm=>by
   obtain⟨x,hx,e⟩:=alN.1 hm;exact Ue (xS (hL x hx) hz e ▸ hx)
  have ie:=oz gx Cn;rw[agC] at ie;have ot:=h.row.len;have Jl:=h.row.Xj;have UP:(L.length+1)*56<=1099511627776:=by omega
  have VP:L.length+1<=1099511627776:=by omega
  have f3:(mm=s.next)=False:=by simp;omega
  have f4:∀k,(s.next+k=nb)=False:=fun k=>by simp;omega
  obtain⟨S1,hS1⟩:∃S1,S1=((s.new (.cells [V,.int .i64 z.cur.1,.int .i64 z.cur.2.1,.int .i64 z.cur.2.2,.int .i64 z.last] 254 false 0 0)).put mm (.map (LV (L.map M4++[M4 z]) 0) false)).new (.cells [V,.int .i64 z.cur.1,.int .i64 z.cur.2.1,.int .i64 z.cur.2.2,.int .i64 z.last] 254 false 0 0):=⟨_,rfl⟩;have alH:S1.next=s.next+2:=by rw[hS1,Z_,Z',Z_]
  have k1:∀j,j<s.next->j≠mm->S1.get j=s.get j:=fun j h1 h2=>by rw[hS1,Z7,Z',Z_,if_neg (by omega),Z9,if_neg h2.symm,Z7,if_neg (by omega)]
  have k1m:S1.get mm=some (.map (LV (L.map M4++[M4 z]) 0) false):=by rw[hS1,Z7,Z',Z_,if_neg (by omega),Z9,if_pos rfl]
  have AL:Fr S1:=by rw[hS1];exact ((fr.new _).put (by rw[Z_];omega) _).new _
  have AK:ZK S1 N 254 5 L.length (aI E) pv:=h.row.mono (by omega) fun j h1 h2=>k1 j h2 (by omega)
  obtain⟨s2,a1,a2,a3,a4,a5⟩:=AK.Gy (by omega) (m:=1) (new:=[V,.int .i64 z.cur.1,.int .i64 z.cur.2.1,.int .i64 z.cur.2.2,.int .i64 z.last]) (by omega) rfl (by rw[List.all_cons,Re];rfl);have rQ:∀j c t lo hi,s.get j=some (.cells c t false lo hi)->j<s.next->t≠254->s2.get j=some (.cells c t false lo hi):=fun j c t lo hi hj Yh ht=>by
   have hjm:j≠mm:=fun e=>by
    have:=h.map;rw[<-e,hj] at this;cases this
   have hj1:=(k1 j Yh hjm).trans hj;rw[a4 j (by omega) (AK.other hj1 ht)];exact hj1
  have knb:=rQ nb _ _ _ _ gK (by omega) (by decide);have kmb:=rQ mb _ _ _ _ qI (by omega) (by decide);have kmm:s2.get mm=some (.map (LV (L.map M4++[M4 z]) 0) false):=by rw[a4 mm (by omega) (AK.B8 (.inr (by omega)))];exact k1m
  have YA:Rl U 174 [.agg (Go.Am.VZ z V),.ptr mb 0,.ptr nb 0] s=some (.int .i64 (L.length:Nat),s2.put nb (.cells [.sl S1.next 0 (L.length+1) none 5] 252 false 0 0)):=by
   refine VE afD (by kernel_rfl) ?_;unfold Go.Am.VZ;simp only[go_sem,ab0,hk,qI,gK,pZ,f1,f2,f3,ot,ie,m1,ZH,Nat.reducePow,amk,Jl,UP,VP];rw[<-hS1,a1];simp only[go_sem,knb]
  rw[hix];refine⟨_,E++[(z,V)],.sl S1.next 0 (L.length+1) none 5,YA,?_,(a5 AL).put (by omega) _,by rw[Z'];omega,fun j c t lo hi hj Yh h1 h2=>?_,fun j h1 h2 h3 h4=>?_,fun j hj=>?_⟩
  ·rw[T5,if_neg Ue];have hbS:∀c,s.get bS=some (.cells c 3 false 0 0)->(s2.put nb (.cells [.sl S1.next 0 (L.length+1) none 5] 252 false 0 0)).get bS=some (.cells c 3 false 0 0):=fun c hc=>by
    rw[Z9,if_neg (fun e=>by rw[e,hc] at gK;cases gK)];exact rQ bS _ _ _ _ hc (by omega) (by decide)
   refine⟨by rw[alY,h.fst];rfl,fun p hp=>?_,?_,?_,by rw[Z9,if_pos rfl],?_,by rw[Z'];omega⟩
   ·rcases amb.1 hp with hp|hp
    ·exact (h.vs p hp).keep hbS
    ·rw[ake.1 hp];exact hV.keep hbS
   ·rw[Z9,if_neg (fun e=>by rw[e] at m1;simp at m1),alY];exact kmm
   ·rw[Z9,if_neg (fun e=>by rw[e] at m3;simp at m3)];exact kmb
   ·have:aI (E++[(z,V)])=aI E++[V,.int .i64 z.cur.1,.int .i64 z.cur.2.1,.int .i64 z.cur.2.2,.int .i64 z.last]:=by simp[aI,Go.Am.VZ]
    rw[this,agy,alW];exact a3.mono (by rw[Z'];omega) fun j h1 h2=>by rw[Z9,if_neg (by omega)]
  ·rw[Z9,if_neg (fun e=>by rw[e,hj] at gK;cases gK;exact h2 rfl)];exact rQ j c t lo hi hj Yh h1
  ·rw[Z9,if_neg h3.symm,a4 j (by omega) (fun e=>h4 ⟨_,_,e⟩),k1 j h1 h2]
  ·rw[Rc] at hj;right;omega
theorem rK:∀(bs ds:List Nat),US bs ds->(∀d∈ds,d<Ym bs)/\1<=Ym bs
 |[],[],_=>⟨fun d h=>by simp at h,agB 1⟩
 |b::bs,d::ds,h=>by
  obtain⟨h1,h2⟩:=h;obtain⟨k1,k2⟩:=rK bs ds h2;have hb:1<=b:=by omega
  rw[Ym];refine⟨fun x hx=>?_,Nat.mul_pos hb k2⟩;rcases alL.1 hx with rfl|hx
  ·calc x<b:=h1
    _=b*1:=(ah1 b).symm
    _<=b*Ym bs:=Nat.mul_le_mul_left b k2
  ·calc x<Ym bs:=k1 x hx
    _=1*Ym bs:=(amk _).symm
    _<=b*Ym bs:=amt _ hb
 |[],d::ds,h=>by simp[US] at h
 |b::bs,[],h=>by simp[US] at h
theorem QV.pb {S:List Step}(h:Y0 S)(Ha:S.length<=8){m:Nat}(hm:2<=m/\m<=16)(hz:Xl S m<=512)(hL:(ZJ (S.map Step.cond)).length<=2^20){x:PN}(hx:QV S m x) :
  PB x/\(∀s∈x.Yy,0<=s/\s<=256)/\x.Yy.length=(ZJ (S.map Step.cond)).length:=by
 obtain⟨u,l,c,p,e⟩:=hx.Zd h;obtain⟨_,uc,us⟩:=u;obtain⟨k1,k2⟩:=rK _ _ us;have hT:1<=Vd S:=by omega
 have VY:Ym ((ZJ (S.map Step.cond)).map Wq)<=170:=by
  unfold Xl at hz;generalize Ym ((ZJ (S.map Step.cond)).map Wq)=P at *;have h1:P<=Vd S*P:=by calc P=1*P:=(amk P).symm
    _<=Vd S*P:=amt P hT
  have h2:3*(Vd S*P)<=(m+1)*(Vd S*P):=amt _ (by omega);omega
 have hs:∀s∈x.Yy,0<=s/\s<=170:=fun s hs=>by
  have h1:=p s hs;have h2:=k1 s.toNat (alN.2 ⟨s,hs,rfl⟩);omega
 have ZC:x.Yy≠[]:=fun e'=>by
  rw[e'] at e;exact sB h.rH (fun e2=>by have:=h.ne;rw[List.map_eq_nil_iff] at e2;rw[e2] at this;simp at this) (al6.1 e.symm)
 have ha:=c.a;have hk:=c.k;have hg:=c.g;have ht:=h.tm S[x.cur.1] (adm ha);have hw:=h.wi S[x.cur.1] (adm ha);rw[G3 ha] at hk;rw[D0 ha] at hg;refine⟨⟨fun n hn=>?_,ZC,by omega⟩,fun s h=>by have:=hs s h;omega,e⟩;simp only[alL] at hn;rcases hn with rfl|rfl|rfl|rfl|hn
 ·omega
 ·omega
 ·omega
 ·omega
 ·have:=hs n hn;omega
theorem rY {S:List Step}(h:Y0 S){m:Nat}{x:PN}(hx:QV S m x){y:Nat}(hy:y<m):QV S m (YG S x y).1:=by
 obtain⟨r,hr,rfl⟩:=hx;obtain⟨a,b,c⟩:=So h hr hy;exact⟨_,c,a⟩
def PL (S:List Step)(m:Nat):List PN:=Rd (fun x y=>(YG S x y).1) m (Xl S m+1) 0 [AO S]
theorem pI0 {S:List Step}(h:Y0 S){m:Nat}:Bj (fun x y=>(YG S x y).1) m (QV S m) 0 [AO S] :=
 ⟨by simp,fun x hx=>by rw[ake.1 hx];exact⟨_,(Sn h).2,(Sn (m:=m) h).1⟩,aic _,fun j hj=>by omega⟩
theorem pIn {S:List Step}(h:Y0 S){m:Nat}:∀x,QV S m x->∀y,y<m->QV S m (YG S x y).1:=fun x hx y hy=>rY h hx hy
theorem Kb {S:List Step}(h:Y0 S)(m:Nat):Bj (fun x y=>(YG S x y).1) m (QV S m) (PL S m).length (PL S m)/\(PL S m).length<=Xl S m/\∃R,PL S m=AO S::R:=by
 obtain⟨a,b,R,e⟩:=Sd (n:=Xl S m) (κ:=rI S m) (pIn h) (fun x=>CL h) (fun x y=>Hi h) (Xl S m+1) 0 [AO S] (pI0 h) (by omega);exact⟨a,b,R,e⟩
end Go.Am
namespace Go.Am
open Go
variable [Z4]
theorem JO {n:Nat}:∀(cs st:List Nat),(∀a∈cs,a<n)->(∀a∈st,a<n)->∀a∈(Zs id cs st).1,a<n
 |[],st,_,h=>h
 |c::cs,st,h1,h2=>by
  rw[Zs]
  cases decide (Xq (st.map id) (id c)<st.length) with
  |true=>exact JO cs st (fun a ha=>h1 a (aab _ ha)) h2
  |false =>
   exact JO cs (st++[c]) (fun a ha=>h1 a (aab _ ha)) fun a ha=>by
    rcases amb.1 ha with h|h
    ·exact h2 a h
    ·rw[ake.1 h];exact h1 c (aba ..)
structure dM (a:Yi)(fin:List Nat):Prop where
 le:fin.length<=a.fa.n
 pos:0<fin.length
 lt:∀c∈fin,c<a.fa.n
 can:∀c∈fin,YM a.fa c=c
 z:fin[0]? = some (YM a.fa 0)
 len:(U7 a.fa).length=fin.length
 key:∀i (h:i<(U7 a.fa).length),fin[i]? = some (U7 a.fa)[i].1
 row:∀i (h:i<(U7 a.fa).length),(U7 a.fa)[i].2.length=a.fa.m/\∀x,x<a.fa.m->fin[(U7 a.fa)[i].2.getD x 0]? = some (YM a.fa (a.fa.nx (U7 a.fa)[i].1 x))
theorem dM.nx {a:Yi}{fin:List Nat}(h:dM a fin){i x:Nat}(hi:i<fin.length)(hx:x<a.fa.m):(Zl a).fa.nx i x=((U7 a.fa)[i]'(by rw[h.len];exact hi)).2.getD x 0:=by
 have MW:i<(U7 a.fa).length:=by rw[h.len];exact hi
 have NI:x<(U7 a.fa)[i].2.length:=by rw[(h.row i MW).1];exact hx
 show ((((U7 a.fa).map fun x=>(false,PV x.2)).getD i (true,[])).2.getD x 0).toNat=_;have e:((U7 a.fa).map fun x=>(false,PV x.2)).getD i (true,[])=(false,PV (U7 a.fa)[i].2):=by
  rw[XK (by rw[agC];exact MW),List.getElem_map]
 rw[e];show ((PV (U7 a.fa)[i].2).getD x 0).toNat=_;rw[XK (by rw[Q0];exact NI),XK NI];simp[PV]
theorem dM.fr {a:Yi}{fin:List Nat}(h:dM a fin){i x:Nat}(hi:i<fin.length)(hx:x<a.fa.m):(Zl a).fa.fr i x=a.fa.fr (fin[i]) x:=by
 have MW:i<(U7 a.fa).length:=by rw[h.len];exact hi
 have hk:=h.key i MW;rw[aaa hi] at hk;show (((U7 a.fa).map fun x=>(false,XF a.fa x.1)).getD i (true,[])).2.getD x false=_;have e:((U7 a.fa).map fun x=>(false,XF a.fa x.1)).getD i (true,[])=(false,XF a.fa (U7 a.fa)[i].1):=by
  rw[XK (by rw[agC];exact MW),List.getElem_map]
 rw[e,Option.some.inj hk];show (XF a.fa (U7 a.fa)[i].1).getD x false=_;rw[XK (by rw[S9];exact hx),BH _ _ hx]
section
variable {a b:Yi}{f:Bool->Bool->Bool}{i x:Nat}
end
theorem Jx {row:Nat->List Nat}{n:Nat}(M_:∀a,a<n->∀b∈row a,b<n):∀(f f' i:Nat) (st:List Nat),(st.map id).Nodup->(∀a∈st,a<n)->i<=st.length->n+1<=f+i->n+1<=f'+i->UE id row f i st=UE id row f' i st
 |0,_,i,st,h,hn,hi,hf,_=>by
  have:=Vn h hn;omega
 |_+1,0,i,st,h,hn,hi,_,hf=>by
  have:=Vn h hn;omega
 |f+1,f'+1,i,st,h,hn,hi,hf,Dp=>by
  rw[UE,UE]
  cases hs:st[i]? with
  |none=>rfl
  |some s =>
   have ra:i<st.length:=(alQ.1 hs).1;have hsn:=hn s (amu hs);obtain⟨n1,n2,_⟩:=TF (row s) st h;simp only;rw[Jx M_ f f' (i+1) _ n1 (JO _ _ (M_ s hsn) hn) (by omega) (by omega) (by omega)]
theorem iY {a q:Yi}(ha:a.ok)(hq:q.ok)(hl:q.lines=a.lines){ψ:Nat->Nat}(h0:ψ 0=0)(Yh:∀i,i<q.fa.n->ψ i<a.fa.n)
  (Vl:∀i x,i<q.fa.n->x<a.fa.m->ψ (q.fa.nx i x)=a.fa.nx (ψ i) x)(PX:∀i x,i<q.fa.n->x<a.fa.m->q.fa.fr i x=a.fa.fr (ψ i) x):Zl q=Zl a:=by
 have hA:=ha.M9;have hQ:=hq.M9;have hm:q.fa.m=a.fa.m:=by show 2^q.lines.toNat=2^a.lines.toNat;rw[hl]
 have ajT:∀i j,i<q.fa.n->j<q.fa.n->(YM q.fa i=YM q.fa j<->YM a.fa (ψ i)=YM a.fa (ψ j)):=fun i j hi hj=>by
  constructor
  ·intro h;refine Hg (A:=a.fa) (B:=fun u v=>∃i j,i<q.fa.n/\j<q.fa.n/\YM q.fa i=YM q.fa j/\u=ψ i/\v=ψ j) ⟨?_,?_,?_⟩ _ _ ⟨i,j,hi,hj,h,rfl,rfl⟩
   ·rintro u v ⟨i,j,hi,hj,_,rfl,rfl⟩;exact⟨Yh i hi,Yh j hj⟩
   ·rintro u v ⟨i,j,hi,hj,h,rfl,rfl⟩ x hx;rw[<-PX i x hi hx,<-PX j x hj hx];exact ((UD hQ hi hj).1 h x (by rw[hm];exact hx)).1
   ·rintro u v ⟨i,j,hi,hj,h,rfl,rfl⟩ x hx;have NI:x<q.fa.m:=by rw[hm];exact hx
    exact⟨_,_,hQ.lt i x hi NI,hQ.lt j x hj NI,((UD hQ hi hj).1 h x NI).2,(Vl i x hi hx).symm,(Vl j x hj hx).symm⟩
  ·intro h;refine Hg (A:=q.fa) (B:=fun u v=>u<q.fa.n/\v<q.fa.n/\YM a.fa (ψ u)=YM a.fa (ψ v)) ⟨fun u v k=>⟨k.1,k.2.1⟩,?_,?_⟩ _ _ ⟨hi,hj,h⟩
   ·rintro u v ⟨hu,hv,h⟩ x hx;have NI:x<a.fa.m:=by rw[<-hm];exact hx
    rw[PX u x hu NI,PX v x hv NI];exact ((UD hA (Yh u hu) (Yh v hv)).1 h x NI).1
   ·rintro u v ⟨hu,hv,h⟩ x hx;have NI:x<a.fa.m:=by rw[<-hm];exact hx
    refine⟨hQ.lt u x hu hx,hQ.lt v x hv hx,?_⟩;rw[Vl u x hu NI,Vl v x hv NI];exact ((UD hA (Yh u hu) (Yh v hv)).1 h x NI).2
 obtain⟨e1,k1⟩:=min_eq hQ (cl:=YM q.fa) fun _ _ _ _=>Iff.rfl
 have hr:∀s,s<q.fa.n->(fun c=>(XM a.fa c).map (YM a.fa)) (YM a.fa (ψ s))=(XM q.fa s).map (fun i=>YM a.fa (ψ i))/\∀b∈XM q.fa s,b<q.fa.n:=fun s hs=>by
  have BN:=Yh s hs;refine⟨?_,fun b hb=>?_⟩
  ·have CM:YM a.fa (ψ s)<a.fa.n:=amw ((WM a.fa).le _) BN;have he:=(UD hA CM BN).1 ((WM a.fa).fix (ψ s));simp only[XM,List.map_map];rw[hm];refine amc fun x hx=>?_
   have hx:=al4.1 hx;show YM a.fa (a.fa.nx (YM a.fa (ψ s)) x)=YM a.fa (ψ (q.fa.nx s x));rw[(he x hx).2,Vl s x hs hx]
  ·obtain⟨x,hx,rfl⟩:=alN.1 hb;exact hQ.lt s x hs (al4.1 hx)
 obtain⟨e2,_⟩:=Lo (κ:=YM q.fa) (ρ:=fun i=>YM a.fa (ψ i)) (Q:=fun i=>i<q.fa.n) ajT (row:=XM q.fa) (mD:=fun c=>(XM a.fa c).map (YM a.fa)) hr (q.fa.n+1+(a.fa.n+1)) 0 [0] fun b hb=>by rw[ake.1 hb];exact hQ.pos
 obtain⟨e3,k3⟩:=Lo (κ:=YM q.fa) (ρ:=YM q.fa) (Q:=fun i=>i<q.fa.n) (fun _ _ _ _=>Iff.rfl) (row:=XM q.fa) (mD:=fun c=>(XM q.fa c).map (YM q.fa)) (fun s hs=>by
  refine⟨?_,fun b hb=>?_⟩
  ·have CM:YM q.fa s<q.fa.n:=amw ((WM q.fa).le _) hs;have he:=(UD hQ CM hs).1 ((WM q.fa).fix s);simp only[XM,List.map_map];refine amc fun x hx=>?_
   exact (he x (al4.1 hx)).2
  ·obtain⟨x,hx,rfl⟩:=alN.1 hb;exact hQ.lt s x hs (al4.1 hx)) (q.fa.n+1+(a.fa.n+1)) 0 [0] fun b hb=>by rw[ake.1 hb];exact hQ.pos
 have af5:∀s,s<a.fa.n->∀b∈(XM a.fa s).map (YM a.fa),b<a.fa.n:=fun s hs b hb=>by
  obtain⟨c,hc,rfl⟩:=alN.1 hb;obtain⟨x,hx,rfl⟩:=alN.1 hc;exact amw ((WM a.fa).le _) (hA.lt s x hs (al4.1 hx))
 have af6:∀s,s<q.fa.n->∀b∈(XM q.fa s).map (YM q.fa),b<q.fa.n:=fun s hs b hb=>by
  obtain⟨c,hc,rfl⟩:=alN.1 hb;obtain⟨x,hx,rfl⟩:=alN.1 hc;exact amw ((WM q.fa).le _) (hQ.lt s x hs (al4.1 hx))
 have m1:U7 a.fa=(UE (YM q.fa) (XM q.fa) (q.fa.n+1+(a.fa.n+1)) 0 [0]).map fun x=>(YM a.fa (ψ x.1),x.2):=by
  rw[<-e2];show UE id (fun c=>(XM a.fa c).map (YM a.fa)) (a.fa.n+1) 0 [YM a.fa 0]=UE id (fun c=>(XM a.fa c).map (YM a.fa)) (q.fa.n+1+(a.fa.n+1)) 0 [YM a.fa (ψ 0)];rw[h0];exact Jx af5 _ _ 0 _ (by simp) (fun c hc=>by rw[ake.1 hc];exact amw ((WM a.fa).le _) hA.pos) (by simp) (by omega) (by omega)
 have m2:U7 q.fa=(UE (YM q.fa) (XM q.fa) (q.fa.n+1+(a.fa.n+1)) 0 [0]).map fun x=>(YM q.fa x.1,x.2):=by
  rw[<-e3];show UE id (fun c=>(XM q.fa c).map (YM q.fa)) (q.fa.n+1) 0 [YM q.fa 0]=UE id (fun c=>(XM q.fa c).map (YM q.fa)) (q.fa.n+1+(a.fa.n+1)) 0 [YM q.fa 0];exact Jx af6 _ _ 0 _ (by simp) (fun c hc=>by rw[ake.1 hc];exact amw ((WM q.fa).le _) hQ.pos) (by simp) (by omega) (by omega)
 unfold Zl;rw[m1,m2,hl];simp only[List.map_map,Function.comp_def];have ajU:∀x∈UE (YM q.fa) (XM q.fa) (q.fa.n+1+(a.fa.n+1)) 0 [0],XF q.fa (YM q.fa x.1)=XF a.fa (YM a.fa (ψ x.1)):=fun x hx=>by
  have hxn:=k3 x hx;unfold XF;rw[hm];refine amc fun y hy=>?_
  have hy:=al4.1 hy;rw[wV hQ hxn (by rw[hm];exact hy),wV hA (Yh _ hxn) hy,PX _ y hxn hy]
 congr 1
 exact amc fun x hx=>by rw[ajU x hx]
end Go.Am
namespace Go.Am
open Go
variable [Z4]
set_option maxRecDepth 100000
set_option maxHeartbeats 4000000
section
variable {S:Type} [DecidableEq S]
def YF (nx:S->Nat->S×Bool)(L:List S)(m:Nat)(x:S):List Nat:=(List.range m).map fun y=>XX L (nx x y).1
def YB (nx:S->Nat->S×Bool)(m:Nat)(x:S):List Bool:=(List.range m).map fun y=>(nx x y).2
def Kk (lines:Int)(nx:S->Nat->S×Bool)(L:List S):Yi :=
 ⟨lines,true,L.map fun x=>(false,PV (YF nx L (2^lines.toNat) x)),true,L.map fun x=>(false,YB nx (2^lines.toNat) x)⟩
variable {lines:Int}{nx:S->Nat->S×Bool}{L:List S}{Inv:S->Prop}
theorem iP:(Kk lines nx L).fa.n=L.length:=by
 show (L.map _).length=_;rw[agC]
theorem iO {i x:Nat}(hi:i<L.length)(hx:x<2^lines.toNat):(Kk lines nx L).fa.nx i x=XX L (nx L[i] x).1:=by
 have e:(L.map fun z=>(false,PV (YF nx L (2^lines.toNat) z))).getD i (true,[])=(false,PV (YF nx L (2^lines.toNat) L[i])):=by
  rw[XK (by rw[agC];exact hi),List.getElem_map]
 show ((((L.map fun z=>(false,PV (YF nx L (2^lines.toNat) z))).getD i (true,[])).2.getD x 0).toNat)=_;rw[e];show ((PV (YF nx L (2^lines.toNat) L[i])).getD x 0).toNat=_;have hl:x<(PV (YF nx L (2^lines.toNat) L[i])).length:=by rw[Q0];simp[YF];exact hx
 rw[XK hl];simp[PV,YF]
theorem iN {i x:Nat}(hi:i<L.length)(hx:x<2^lines.toNat):(Kk lines nx L).fa.fr i x=(nx L[i] x).2:=by
 have e:(L.map fun z=>(false,YB nx (2^lines.toNat) z)).getD i (true,[])=(false,YB nx (2^lines.toNat) L[i]):=by
  rw[XK (by rw[agC];exact hi),List.getElem_map]
 show (((L.map fun z=>(false,YB nx (2^lines.toNat) z)).getD i (true,[])).2.getD x false)=_;rw[e];show (YB nx (2^lines.toNat) L[i]).getD x false=_;have hl:x<(YB nx (2^lines.toNat) L[i]).length:=by simp[YB];exact hx
 rw[XK hl];simp[YB]
theorem Cj (hl:1<=lines/\lines<=4)(h:Bj (fun x y=>(nx x y).1) (2^lines.toNat) Inv L.length L)(h0:0<L.length)(hf:L.length<=512):(Kk lines nx L).ok:=by
 refine⟨hl,by simp only[Kk,agC];exact h0,by simp only[Kk,agC];exact hf,by simp only[Kk,agC],fun i hi=>?_,fun i hi=>?_⟩
 ·have MW:i<L.length:=by simpa only[Kk,agC] using hi
  simp only[Kk,List.getElem_map,agC];refine⟨by simp[PV,YF],fun x hx=>?_⟩;simp only[PV,YF,List.map_map,alN,al4,Function.comp] at hx;obtain⟨z,hz,rfl⟩:=hx;have:=(Q8 _ _).2 (h.cl i MW MW z hz);omega
 ·have MW:i<L.length:=by simpa only[Kk,agC] using hi
  simp[Kk,YB]
end
theorem aa8 {S S':Type} [DecidableEq S] [DecidableEq S'] {lines:Int}{nx:S->Nat->S×Bool}{nx':S'->Nat->S'×Bool}{L:List S}{L':List S'}{Inv:S->Prop}{aa9:S'->Prop}{ψ:S'->S}(hl:1<=lines/\lines<=4)
  (h:Bj (fun x y=>(nx x y).1) (2^lines.toNat) Inv L.length L)(h':Bj (fun x y=>(nx' x y).1) (2^lines.toNat) aa9 L'.length L'){x0:S}{x0':S'}(e0:L[0]? = some x0)(e0':L'[0]? = some x0')(aj6:ψ x0'=x0)
  (hψ:∀x,aa9 x->∀y,y<2^lines.toNat->ψ (nx' x y).1=(nx (ψ x) y).1/\(nx' x y).2=(nx (ψ x) y).2)(hm:∀x∈L',ψ x∈L)(hf:L.length<=512)(Dp:L'.length<=512):Zl (Kk lines nx' L')=Zl (Kk lines nx L):=by
 obtain⟨p0,_⟩:=alQ.1 e0;obtain⟨p0',_⟩:=alQ.1 e0';have Aj:∀i,i<L'.length->∃z,L'[i]? = some z/\ψ z∈L:=fun i hi=>⟨L'[i],aaa hi,hm _ (adm hi)⟩
 obtain⟨φ,hφ⟩:∃φ:Nat->Nat,φ=fun i=>match L'[i]? with|some z=>XX L (ψ z)|none=>0:=⟨_,rfl⟩
 have acL:∀i (hi:i<L'.length),φ i=XX L (ψ L'[i]):=fun i hi=>by rw[hφ];simp only[aaa hi]
 have r_:∀i,i<L'.length->φ i<L.length:=fun i hi=>by rw[acL i hi];exact (Q8 _ _).2 (hm _ (adm hi))
 have acM:∀i (hi:i<L'.length),L[φ i]? = some (ψ L'[i]):=fun i hi=>by rw[acL i hi];exact Bv (hm _ (adm hi))
 refine iY (Cj hl h p0 hf) (Cj hl h' p0' Dp) rfl (ψ:=φ) ?_ ?_ ?_ ?_
 ·have h1:=acM 0 p0';have h2:L'[0]=x0':=by rw[aaa p0'] at e0';exact Option.some.inj e0'
  rw[h2,aj6] at h1;have Af:=r_ 0 p0';rw[aaa Af] at h1;rw[aaa p0] at e0;exact (List.getElem_inj h.nd).1 (by rw[Option.some.inj h1,Option.some.inj e0])
 ·intro i hi;rw[iP] at hi ⊢;exact r_ i hi
 ·intro i x hi hx;rw[iP] at hi;have hx:x<2^lines.toNat:=hx;have hc:=h'.cl i hi hi x hx;have Yh:XX L' (nx' L'[i] x).1<L'.length:=(Q8 _ _).2 hc;have h1:=acM i hi;have Af:=r_ i hi;rw[aaa Af] at h1;have h1:=Option.some.inj h1;rw[iO hi hx,iO Af hx,h1];have h3:=Bv hc;rw[aaa Yh] at h3;rw[acL _ Yh,Option.some.inj h3,(hψ _ (h'.inv _ (adm hi)) x hx).1]
 ·intro i x hi hx;rw[iP] at hi;have hx:x<2^lines.toNat:=hx;have h1:=acM i hi;have Af:=r_ i hi;rw[aaa Af] at h1;have h1:=Option.some.inj h1;rw[iN hi hx,iN Af hx,h1,(hψ _ (h'.inv _ (adm hi)) x hx).2]
end Go.Am
namespace Go.Am
open Go
variable [Z4]
set_option maxRecDepth 100000
set_option maxHeartbeats 8000000
section
variable {S:Type} [DecidableEq S]
theorem JU (g:Nat->S):∀(r y:Nat) (L:List S),∃R,Vh g r y L=L++R
 |0,y,L=>⟨[],by rw[Vh,alZ]⟩
 |r+1,y,L=>by
  obtain⟨R0,e0⟩:=Ll L (g y);obtain⟨R,e⟩:=JU g r (y+1) (T5 L (g y));exact⟨R0++R,by rw[Vh,e,e0,alS]⟩
theorem Sc (nx:S->Nat->S×Bool)(L:List S)(m:Nat)(x:S):(YF nx L m x).length=m:=by simp[YF]
theorem Sb (nx:S->Nat->S×Bool)(m:Nat)(x:S):(YB nx m x).length=m:=by simp[YB]
theorem wT (nx:S->Nat->S×Bool)(F:List S)(x:S){y m:Nat}(h:y<m):(YF nx F y x++List.replicate (m-y) 0).set y (XX F (nx x y).1)=YF nx F (y+1) x++List.replicate (m-(y+1)) 0:=by
 have:=tE (YF nx F y x) (m:=m) (XX F (nx x y).1) 0 (by rw[Sc];exact h);rw[agy,alW,Sc] at this;rw[this];have e:YF nx F (y+1) x=YF nx F y x++[XX F (nx x y).1]:=by unfold YF;rw[List.range_succ,alY];rfl
 rw[e]
theorem wS (nx:S->Nat->S×Bool)(x:S){y m:Nat}(h:y<m):(YB nx y x++List.replicate (m-y) false).set y (nx x y).2=YB nx (y+1) x++List.replicate (m-(y+1)) false:=by
 have:=tE (YB nx y x) (m:=m) (nx x y).2 false (by rw[Sb];exact h);rw[agy,alW,Sb] at this;rw[this];have e:YB nx (y+1) x=YB nx y x++[(nx x y).2]:=by unfold YB;rw[List.range_succ,alY];rfl
 rw[e]
end
theorem tD {last:Int}:∀(l:List Z5) (ms:List Int),MF last l ms->ms.length=ZS l
 |[],ms,h=>by rw[MF] at h;subst h;rw[ZS];rfl
 |c::l,ms,h=>by
  rw[MF] at h;obtain⟨u,v,rfl,hu,_,h2⟩:=h;rw[agy,hu,tD l v h2,ZS]
theorem Sj.mkB {p:Prog}(hS:Y0 p.steps)(MZ:ZS (p.steps.map Step.cond)<=2^20){m:Nat}{x:RN}(h:Sj p.steps m x):Go.Am.mkB x:=by
 have hl:=tD _ _ h.marks;refine⟨fun e=>?_,by omega⟩;rw[e] at hl;have ZC:=hS.ne
 cases Xz:p.steps with
 |nil=>rw[Xz] at ZC;simp at ZC
 |cons s l =>
  rw[Xz,alT,ZS] at hl;have:=RR s.cond;simp at hl;omega
theorem ahR {β:Type}{fin:Fl->β}{ks:List K}{ZB:β->Prop}{p:Prog}(hS:Y0 p.steps)(Ha:p.steps.length<=8)(MZ:ZS (p.steps.map Step.cond)<=2^20){m:Nat}(hm:m<=65536){N bM nb fb i:Nat}{L0 L1 F:List RN}{E0:List (RN×AV)}{x0:RN}{pv:AV}
  (hI:∀x∈L0,Sj p.steps m x)(Iv:L0[i]? = some x0)(oh:Vh (fun y=>(Y_ p.steps x0 y).1) m 0 L0=L1)(hL1:L1.length<=2^20)(hF:∃R,F=L1++R)
  {e:Env}{s:St}(g1:Env.get e 1=.ptr 8 0)(g5:Env.get e 5=pv)(g7:Env.get e 7=.int .i64 (i:Nat))(g8:Env.get e 8=.sl nb 0 m (some m) 1)(g9:Env.get e 9=.sl fb 0 m (some m) 1)(rb:Env.get e 10=.int .i64 (0:Nat))
  (gP:s.get 8=some (.cells [.int .i64 p.lines,ZG p.nl (Zx p.steps)] 31 false 0 0))(gn:s.get nb=some (.cells (ZO (List.replicate m 0)) 3 false 0 0))(gf:s.get fb=some (.cells (ZM (List.replicate m false)) 4 false 0 0))
  (hp:fV s N 176 5 L0.length (rcs E0) pv)(hE:n_ s bM L0 E0)(Yh:8<N/\bM<N/\N<=nb/\N<=fb/\nb<s.next/\fb<s.next/\N<=s.next)(fr:Fr s)
  (hk:∀e' s' PW E',(∀t:Nat,t<10->t≠5->Env.get e' t=Env.get e t)->Env.get e' 5=PW->fV s' N 176 5 L1.length (rcs E') PW->n_ s' bM L1 E'->s'.get nb=some (.cells (ZO (YF (Y_ p.steps) F m x0)) 3 false 0 0)->s'.get fb=some (.cells (ZM (YB (Y_ p.steps) m x0)) 4 false 0 0)->(∀j,j<s.next->j≠nb->j≠fb->¬Sy 5 pv j->s'.get j=s.get j)->s.next<=s'.next->Fr s'->ZB (goN U fin ks e' s')) :
  ZB (SD U fin (.bk 4::ks) Ce e s):=by
 obtain⟨l1,l2,l3,l4,l5,l6,l7⟩:=Yh;have nnf:=Ya gn gf (by decide);have ra:=(alQ.1 Iv).1;refine YP (σ:=Nat) (fun x=>m-x) (fun x e' s'=>x<=m/\(∀t:Nat,t<10->t≠5->Env.get e' t=Env.get e t)/\Env.get e' 10=.int .i64 (x:Nat)/\(∀j,j<s.next->j≠nb->j≠fb->¬Sy 5 pv j->s'.get j=s.get j)/\s.next<=s'.next/\Fr s' /\
   s'.get nb=some (.cells (ZO (YF (Y_ p.steps) F x x0++List.replicate (m-x) 0)) 3 false 0 0)/\s'.get fb=some (.cells (ZM (YB (Y_ p.steps) x x0++List.replicate (m-x) false)) 4 false 0 0) /\
   ∃L' E' PW,Env.get e' 5=PW/\Vh (fun y=>(Y_ p.steps x0 y).1) (m-x) x L'=L1/\(∀z∈L',Sj p.steps m z)/\L'[i]? = some x0/\fV s' N 176 5 L'.length (rcs E') PW/\n_ s' bM L' E'/\(∀j,Sy 5 PW j->Sy 5 pv j\/s.next<=j)) 0 ?_
  ⟨aic _,fun _ _ _=>rfl,rb,fun _ _ _ _ _=>rfl,agB _,fr,gn,gf,L0,E0,pv,g5,by rw[Nat.sub_zero];exact oh,hI,Iv,hp,hE,fun j hj=>.inl hj⟩
 rintro Lp x e' s' ⟨hx,hold,Cd,hs,Vl,Xx,qn,qf,L',E',PW,q5,YA,H',NI,wI,fU,hB⟩ IH;have q1:=(hold 1 (by omega) (by omega)).trans g1;have q7:=(hold 7 (by omega) (by omega)).trans g7;have q8:=(hold 8 (by omega) (by omega)).trans g8;have q9:=(hold 9 (by omega) (by omega)).trans g9;have npv:∀j,j<N->¬Sy 5 pv j:=fun j hj h=>by
  obtain⟨b,cap,rfl,_,_,_,h5,_⟩:=hp;rw[Rc] at h;omega
 have uP:=(hs 8 (by omega) (by omega) (by omega) (npv 8 l1)).trans gP;obtain⟨bp,cap,AN,EF,G',wu,aH,hp6⟩:=wI;have q5':=q5.trans AN;have hnB:∀j,Sy 5 PW j<->bp=j:=fun j=>by rw[AN,Rc]
 by_cases hd:x<m
 ·have hw:=ZN hd (by omega);rw[show m-x=(m-(x+1))+1 by omega,Vh] at YA;have MW:=(alQ.1 NI).1;have hEl:=fU.len;have ni:i<E'.length:=by omega
  have hEi:E'[i].1=x0:=by
   have h1:(E'.map (·.1))[i]? = some x0:=by rw[fU.fst];exact NI
   rw[alV,aaa ni] at h1;exact Option.some.inj h1
  have gr:=GO E' i ni;have OG:=fU.vs E'[i] (adm ni);rw[hEi] at gr OG;generalize E'[i].2=V at *;have ad1:=H' x0 (amu NI);have k1:=ad2 hS Ha MZ hm ad1 hd (s:=s'.upto (s'.next+13)) (OG.keep (by rw[ZT]));have hzI:=(So hS ad1 hd).2.2;have hzB:=hzI.mkB hS MZ;rw[X9] at k1;have QR:=wT (Y_ p.steps) F x0 hd;have az:=wS (Y_ p.steps) x0 hd;obtain⟨RL,eH⟩:=JU (fun y=>(Y_ p.steps x0 y).1) (m-(x+1)) (x+1) (T5 L' (Y_ p.steps x0 x).1);rw[YA] at eH;generalize Y_ p.steps x0 x=zb at *;obtain⟨z,bz⟩:=zb;simp only at YA QR az k1 hzI hzB eH;unfold T4 at k1;unfold Vv at gr k1;have Nc:=Xx.at;have f4:∀q,(s'.next+q=bp)=False:=fun q=>by simp;omega
  have f5:∀q,(s'.next+q=8)=False:=fun q=>by simp;omega
  simp only[go_sem,Ce,q1,q5',q7,q8,Cd,Z8,hd,uP,G',MW,gr,k1,Nc,ald];have ad3:L'.length<=L1.length:=by
   have h1:(T5 L' z).length<=L1.length:=by rw[eH,agy];omega
   obtain⟨R0,e0⟩:=Ll L' z;rw[e0,agy] at h1;omega
  have Aj:XX F z=XX L' z:=by
   obtain⟨R,hR⟩:=hF;rw[hR,eH,alS,GN z _ _ (GM L' z)];by_cases Ue:z∈L'
   ·rw[T5,if_pos Ue]
   ·rw[T5,if_neg Ue,GL z L' Ue,Lk z L' Ue]
  obtain⟨SS,DS⟩:∃SS,SS=((s'.upto (s'.next+13)).put (s'.next+10) (.cells [.int .i64 0,.ZW,.int .i64 0,.int .i64 0,.int .i64 0] 176 false 0 0)).put (s'.next+10) (.cells [.int .i64 z.last,.fz (ints z.marks),.int .i64 (z.cur.1:Nat),.int .i64 z.cur.2.1,.int .i64 z.cur.2.2] 176 false 0 0):=⟨_,rfl⟩;rw[<-DS];have gi:SS.next=s'.next+13:=by rw[DS];simp only[Z',Z6]
  have kS:∀j,j<s'.next->SS.get j=s'.get j:=fun j h1=>by rw[DS,Z9,if_neg (by omega),Z9,if_neg (by omega),ZT]
  have AL:Fr SS:=by
   rw[DS]
   repeat first|exact Xx|apply Fr.new|apply Fr.put|apply Fr.upto
   all_goals try simp only[Z',Z6]
   all_goals omega
  have up2:SS.get (s'.next+10)=some (.cells (Vv z (.fz (ints z.marks))) 176 false 0 0):=by rw[DS,Z9,if_pos rfl];rfl
  have hle:=tC L' z;have ad4:∀t:Nat,t<11->(11=t)=False/\(12=t)=False/\(13=t)=False/\∀k:Nat,51<=k->(k=t)=False:=fun t ht=>⟨by simp;omega,by simp;omega,by simp;omega,fun k hk=>by simp;omega⟩
  refine ahS (ZB:=ZB) (N:=N) (bM:=bM) (ps:=s'.next+10) (L:=L') (E:=E') (pv:=PW) (z:=z) (by omega) (fun y hy=>(H' y hy).mkB hS MZ) hzB ?_ ?_ ?_ ⟨bp,cap,AN,EF,by rw[kS bp hp6];exact G',wu,aH,by omega⟩ (fU.keep (kS bM (by omega))) up2 AL ?_
  case refine_4 =>
   intro e2 s2 QF Aw S4 rD O1;have E2:∀t:Nat,t<11->Env.get e2 t=Env.get e' t:=fun t ht=>by
    rw[QF t (by omega) (by omega)];obtain⟨wR,xE,mC,ZC⟩:=ad4 t ht;simp only[go_sem,wR,xE,mC,ZC]
   have p5:=(E2 5 (by omega)).trans q5';have p8:=(E2 8 (by omega)).trans q8;have p9:=(E2 9 (by omega)).trans q9;have p10:=(E2 10 (by omega)).trans Cd;have p11:Env.get e2 11=.ptr (s'.next+10) 0:=by rw[QF 11 (by omega) (by omega)];simp only[go_sem]
   have p12:Env.get e2 12=.bool bz:=by rw[QF 12 (by omega) (by omega)];simp only[go_sem]
   have k2:∀j,j<s'.next->s2.get j=s'.get j:=fun j h1=>(S4 j).trans (kS j h1)
   have v2:=(S4 _).trans up2;unfold Vv at v2;have vn:=(k2 nb (by omega)).trans qn;have vf:=(k2 fb (by omega)).trans qf;have vp:=(k2 bp hp6).trans G';have Ee:(YF (Y_ p.steps) F x x0++List.replicate (m-x) 0).length=m:=by rw[agy,Sc,List.length_replicate];omega
   have uq:(YB (Y_ p.steps) x x0++List.replicate (m-x) false).length=m:=by rw[agy,Sb,List.length_replicate];omega
   have y1:=Xd (l:=YF (Y_ p.steps) F x x0++List.replicate (m-x) 0) (i:=x) (XX L' z) (by omega);have y2:=DR (l:=YB (Y_ p.steps) x x0++List.replicate (m-x) false) (i:=x) bz (by omega);rw[<-Aj,QR] at y1;rw[az] at y2;have eG:=Ya G' qn (by decide);have hbf:=Ya G' qf (by decide);by_cases Ue:z∈L'
   ·have ahT:=(Q8 L' z).2 Ue;rw[T5,if_pos Ue] at YA;have heq:(((XX L' z:Nat):Int)==((L'.length:Nat):Int))=false:=by simp;omega
    rw[<-Aj] at Aw heq;have zfn:(nb=fb)=False:=eq_false nnf;simp only[go_sem,p5,p8,p9,p10,p12,Aw,heq,vn,vf,hd,y1,y2,zfn,hw,ald,ah1];refine IH (x+1) _ _ (by omega) ⟨by omega,fun t h1 h2=>?_,?_,fun j h1 h2 h3 h4=>?_,?_,?_,?_,?_,L',E',PW,?_,YA,H',NI,⟨bp,cap,AN,EF,?_,wu,aH,?_⟩,fU.keep ?_,hB⟩
    ·have ZC:∀k:Nat,10<=k->(k=t)=False:=fun k hk=>by simp;omega
     simp only[go_sem,ZC];exact (E2 t (by omega)).trans (hold t h1 h2)
    ·simp only[go_sem]
    ·rw[Z9,if_neg h3.symm,Z9,if_neg h2.symm,k2 j (by omega),hs j h1 h2 h3 h4]
    ·simp only[Z'];omega
    ·repeat first|exact O1|apply Fr.put
     all_goals try simp only[Z']
     all_goals omega
    ·rw[Z9,if_neg nnf.symm,Z9,if_pos rfl]
    ·rw[Z9,if_pos rfl]
    ·simp only[go_sem,(E2 5 (by omega)).trans q5]
    ·rw[Z9,if_neg hbf.symm,Z9,if_neg eG.symm];exact vp
    ·simp only[Z'];omega
    ·rw[Z9,if_neg (by omega),Z9,if_neg (by omega)];exact k2 bM (by omega)
   ·have ahT:¬XX L' z<L'.length:=fun h=>Ue ((Q8 _ _).1 h)
    rw[T5,if_neg Ue] at YA;have heq:(((XX L' z:Nat):Int)==((L'.length:Nat):Int))=true:=by rw[Lk z L' Ue];simp
    rw[<-Aj] at Aw heq;have UP:(L'.length+1)*56<=1099511627776:=by omega
    have VP:L'.length+1<=1099511627776:=by omega
    simp only[go_sem,p5,p11,Aw,heq,v2,amk,ZH,Nat.reducePow,UP,VP];have P1:fV (s2.new (.cells (Vv z (.fz (ints z.marks))) 176 false 0 0)) N 176 5 L'.length (rcs E') PW:=⟨bp,cap,AN,EF,by rw[Z7,if_neg (by omega)];exact vp,wu,aH,by rw[Z_];omega⟩;obtain⟨s4,d1,d2,d3,d3b,d4,d5⟩:=P1.app (by rw[Z_];omega) (by decide) (nc:=Vv z (.fz (ints z.marks))) rfl rfl;rw[AN] at d1;simp only[Z_] at d1 d2 d3 d3b d4;unfold Vv at d1;rw[d1];have k4:∀j,j<s2.next->j≠bp->s4.get j=s2.get j:=fun j h1 h2=>by rw[d4 j (by omega) fun h=>h2 ((hnB j).1 h).symm,Z7,if_neg (by omega)]
    have zn:=(k4 nb (by omega) eG.symm).trans vn;have zf:=(k4 fb (by omega) hbf.symm).trans vf;have zfn:(nb=fb)=False:=eq_false nnf;simp only[go_sem,p8,p9,p10,p12,Aw,zn,zf,hd,y1,y2,zfn,hw,ald,ah1];have hl5:(L'++[z]).length=L'.length+1:=by simp
    refine IH (x+1) _ _ (by omega) ⟨by omega,fun t h1 h2=>?_,?_,fun j h1 h2 h3 h4=>?_,?_,?_,?_,?_,L'++[z],E'++[(z,.fz (ints z.marks))],.sl (s2.next+1) 0 (L'.length+1) none 5,?_,YA,fun y hy=>?_,?_,?_,⟨?_,fun q hq=>?_⟩,fun j hj=>?_⟩
    ·have ZC:∀k:Nat,10<=k->(k=t)=False:=fun k hk=>by simp;omega
     have h5':(5=t)=False:=by simp;omega
     simp only[go_sem,ZC,h5'];exact (E2 t (by omega)).trans (hold t h1 h2)
    ·simp only[go_sem]
    ·have mB:j≠bp:=fun e=>by
      rcases hB j ((hnB j).2 e.symm) with h|h
      ·exact h4 h
      ·omega
     rw[Z9,if_neg h3.symm,Z9,if_neg h2.symm,k4 j (by omega) mB,k2 j (by omega),hs j h1 h2 h3 h4]
    ·simp only[Z'];omega
    ·have:=d5 (O1.new _)
     repeat first|exact this|apply Fr.put
     all_goals try simp only[Z']
     all_goals omega
    ·rw[Z9,if_neg nnf.symm,Z9,if_pos rfl]
    ·rw[Z9,if_pos rfl]
    ·simp only[go_sem]
    ·rcases amb.1 hy with h|h
     ·exact H' y h
     ·rw[ake.1 h];exact hzI
    ·rw[al0 MW];exact NI
    ·rw[eF,hl5];obtain⟨bq,ad5,e1,e2q,e3,e4,e5,e6⟩:=d3
     cases e1
     exact⟨_,none,rfl,.inl rfl,by rw[Z9,if_neg (by omega),Z9,if_neg (by omega)];exact e3,e4,e5,by simp only[Z'];omega⟩
    ·rw[alY,fU.fst];rfl
    ·rcases amb.1 hq with h|h
     ·refine (fU.vs q h).keep ?_;rw[Z9,if_neg (by omega),Z9,if_neg (by omega),k4 bM (by omega) (by omega),k2 bM (by omega)]
     ·rw[ake.1 h];exact .inl rfl
    ·rw[Rc] at hj;right;omega
  all_goals simp only[go_sem,q5]
  all_goals rfl
 ·have hxe:x=m:=by omega
  subst hxe;rw[Nat.sub_self,Vh] at YA;subst YA;rw[Nat.sub_self,List.replicate_zero,alZ] at qn qf;simp only[go_sem,Ce,q8,Cd,Z8,alh];refine hk _ _ PW E' (fun t h1 h2=>?_) ?_ ⟨bp,cap,AN,EF,G',wu,aH,hp6⟩ fU qn qf hs Vl Xx
  ·have ZC:∀k:Nat,10<=k->(k=t)=False:=fun k hk=>by simp;omega
   simp only[go_sem,ZC];exact hold t h1 h2
  ·simp only[go_sem,q5]
end Go.Am
namespace Go.Am
open Go
variable [Z4]
set_option maxRecDepth 100000
set_option maxHeartbeats 8000000
theorem OR.B8 {s:St}{bS mm mb nb N:Nat}{L:List PN}{E:List (PN×AV)}{pv:AV}(h:OR s bS mm mb nb N L E pv){j:Nat}(hj:j<N):¬Sy 5 pv j:=by
 rintro⟨n,cap,rfl⟩;rcases h.row with⟨_,h,_⟩|⟨_,_,b,h1,h2,h3,_⟩
 ·cases h
 ·cases h3;omega
theorem OR.mono {s s':St}{bS mm mb nb N:Nat}{L:List PN}{E:List (PN×AV)}{pv:AV}(h:OR s bS mm mb nb N L E pv)(hn:s.next<=s'.next)(hg:∀j,j<s.next->s'.get j=s.get j):OR s' bS mm mb nb N L E pv:=by
 obtain⟨n1,n2,n3,n4,n5⟩:=h.lt;exact⟨h.fst,fun p hp=>(h.vs p hp).keep fun c hc=>by rw[hg _ (by omega)];exact hc,by rw[hg _ (by omega)];exact h.map,by rw[hg _ (by omega)];exact h.AJ,by rw[hg _ (by omega)];exact h.VZ,h.row.mono hn fun j _ h2=>hg j h2,by omega⟩
noncomputable def Fu:RC:=(sO [Zr 71 2 1,ZX 72 1 10,Zr 73 3 72,Oe 74 16,Pa 75 99 71 73 74,Oe 70 75,Zi 76 70 0,Zi 77 70 1,o 17 (.al [(iI 0),(iI 0),(iI 0)] 167),YU 3 17 76,Oe 18 77] (oP [Oe 78 11,Oe 79 7,Oe 80 15,Zr 81 3 17,Oe 82 13,o 83 (.On [.ZW,(iI 0),(iI 0),(iI 0),(iI 0)] [(0,1,(.t 80)),(1,3,(.t 81)),(4,1,(.t 82))]),zo 84 79 83,RQ 85 3 1 1 0 0 1 84,WZ 86 3 1 8 78 85,Oe 87 12,Oe 88 18,o 89 (.U3 4 1 1 [bF] [(0,1,(.t 88))]),WZ 90 4 1 1 87 89,Oe 11 86,Oe 12 90]))
theorem L3:Hu=(.seq (.ops [o 49 (.bin .lss 3 false (.t 48) (.t 47))]) (.seq (.cond (.t 49) .skip (.exit 2)) (.seq (.block 3 (.seq (.ops [o 50 (.O9 (.t 48)),o 13 (.O9 (.t 50))]) (.seq (.ops [o 51 (.O9 (.t 13)),o 52 (.fa 4 (.t 10)),o 53 (.SL (.t 52)),o 54 (.fa 4 (.t 10)),o 55 (.SL (.t 54)),o 56 (.bin .lss 3 true (.t 55) (.v (.int .i64 0))),o 57 (.On [(.int .i64 0),(.int .i64 0),(.bool false)] [(0,1,(.t 51)),(1,1,(.t 53)),(2,1,(.t 56))]),o 14 (.al [(.int .i64 0),(.int .i64 0),(.bool false)] 158),oS (.st 3 (.t 14) (.t 57))]) (.seq (.seq (.ops [o 58 (.fa 2 (.t 14)),o 59 (.SL (.t 58))]) (.cond (.t 59) (.ops [o 60 (.O9 (.t 13)),o 61 (.fa 1 (.t 14)),oS (.st 1 (.t 61) (.t 60))]) .skip)) (.seq (.ops [o 63 (.NQ 3 (.t 3)),o 64 (.fa 0 (.t 10)),o 65 (.SL (.t 64)),o 66 (.NQ 3 (.t 14)),o 67 (.call 93 [(.t 63),(.t 65),(.t 66)]),o 62 (.O9 (.t 67)),o 68 (.ext (.t 62) 0),o 69 (.ext (.t 62) 1),o 15 (.O9 (.t 68)),o 16 (.O9 (.t 69))]) Fu))))) (.ops [o 91 (.bin .add 3 true (.t 48) (.v (.int .i64 1))),o 48 (.O9 (.t 91))])))):=by
 unfold Hu Fu;rfl
theorem adi {β:Type}{fin:Fl->β}{ks:List K}{ZB:β->Prop}{lines:Int}{sp:AV}{bs:List Bool}{z x0:PN}{bz:Bool}{bS m q y B:Nat}{L':List PN}{E':List (PN×AV)}{PW w1 w2 V:AV}{a1:List Nat}{a2:List Bool}
  (oJ:ZE U 99 [.agg [.int .i64 lines,sp],.agg [.int .i64 x0.cur.1,.int .i64 x0.cur.2.1,.int .i64 x0.cur.2.2],ZG true (ZM bs)]=some (.XU [.agg [.int .i64 z.cur.1,.int .i64 z.cur.2.1,.int .i64 z.cur.2.2],.bool bz]))
  (hpz:PB z)(hzl:z.last=(y:Int))(hL:∀x∈L',PB x)(hlen:L'.length<=2^20)(hy:y<=65536)(h8m:8<m)
  {e:Env}{s:St}(g1:Env.get e 1=.ptr 8 0)(g7:Env.get e 7=.fn (.func 174) [] [.ptr (m+2) 0,.ptr (m+3) 0])(rb:Env.get e 10=.ptr q 0)(fk:Env.get e 11=w1)(Iw:Env.get e 12=w2)(Bl:Env.get e 13=.int .i64 (y:Nat))(vQ:Env.get e 15=.fz (ints z.Yy))(Il:Env.get e 16=ZG true (ZM bs))
  (u8:s.get 8=some (.cells [.int .i64 lines,sp] 25 false 0 0))(uq:s.get q=some (.cells (VZ x0 V) 254 false 0 0))(hq:q<s.next)(hN:OR s bS (m+1) (m+2) (m+3) (m+4) L' E' PW)(hw1:ZK s B 3 1 y (ZO a1) w1)(Mx:ZK s B 4 1 y (ZM a2) w2)(hB:m+4<=B/\B<=s.next)(fr:Fr s)
  (hk:∀e' s' E2 tO w1' w2',(∀t:Nat,t<50->t≠11->t≠12->t≠17->t≠18->Env.get e' t=Env.get e t)->OR s' bS (m+1) (m+2) (m+3) (m+4) (T5 L' z) E2 tO->Env.get e' 11=w1'->ZK s' B 3 1 (y+1) (ZO (a1++[XX L' z])) w1'->Env.get e' 12=w2'->ZK s' B 4 1 (y+1) (ZM (a2++[bz])) w2' ->
   (∀j,j<B->j≠m+1->j≠m+3->¬Sy 5 PW j->s'.get j=s.get j)->s.next<=s'.next->(∀j,Sy 5 tO j->Sy 5 PW j\/s.next<=j)->Fr s'->ZB (goN U fin ks e' s')) :
  ZB (go U fin ks Fu e s):=by
 have f1:(s.next=8)=False:=by have:=hN.lt;simp;omega
 unfold VZ at uq;obtain⟨S,Cw⟩:∃S,S=(s.new (.cells [.int .i64 0,.int .i64 0,.int .i64 0] 167 false 0 0)).put s.next (.cells [.int .i64 z.cur.1,.int .i64 z.cur.2.1,.int .i64 z.cur.2.2] 167 false 0 0):=⟨_,rfl⟩;have gi:S.next=s.next+1:=by rw[Cw,Z',Z_]
 have kS:∀j,j<s.next->S.get j=s.get j:=fun j h1=>by rw[Cw,Z9,if_neg (by omega),Z7,if_neg (by omega)]
 have AL:Fr S:=by rw[Cw];exact (fr.new _).put (by rw[Z_];omega) _
 have hNS:=hN.mono (s':=S) (by omega) kS;obtain⟨s2,E2,tO,r1,r2,r3,r4,r5,r6,r7⟩:=agx hNS hL hlen hpz (V:=.fz (ints z.Yy)) (.inl rfl) AL;rw[XI] at r1;unfold VZ at r1;rw[hzl] at r1;have aaz:ZK s2 B 3 1 y (ZO a1) w1:=hw1.XS (by omega) fun j c h1 h2 _=>r5 j _ _ _ _ (by rw[kS j h2];exact h1) (by omega) (by decide) (by decide)
 have aaA:ZK s2 B 4 1 y (ZM a2) w2:=Mx.XS (by omega) fun j c h1 h2 _=>r5 j _ _ _ _ (by rw[kS j h2];exact h1) (by omega) (by decide) (by decide)
 have Af:=aaz.Xj;have B_:=aaA.Xj;have UP:(y+1)*8<=1099511627776:=by omega
 have VP:y+1<=1099511627776:=by omega
 have Ba:(y+1)*1<=1099511627776:=by omega
 simp only[go_sem,Fu,g1,g7,rb,fk,Bl,vQ,Il,u8,uq,oJ];rw[<-Cw,r1];simp only[go_sem,ah1,ZH,Nat.reducePow,Af,UP,VP];have adM:ZK (s2.new (.cells [.int .i64 (XX L' z:Nat)] 3 false 0 0)) B 3 1 y (ZO a1) w1:=aaz.mono (by rw[Z_];omega) fun j _ h2=>by rw[Z7,if_neg (by omega)]
 obtain⟨s3,d1,d2,d3,d4,d5,d6⟩:=adM.wC (by rw[Z_];omega) (.int .i64 (XX L' z:Nat)) rfl;rw[d1];have adF:ZK s3 B 4 1 y (ZM a2) w2:=aaA.XS (by rw[d2,Z_];omega) fun j c h1 h2 _=>d4 j _ _ _ _ (by rw[Z7,if_neg (by omega)];exact h1) (by rw[Z_];omega) (by decide)
 have afZ:ZK (s3.new (.cells [.bool bz] 4 false 0 0)) B 4 1 y (ZM a2) w2:=adF.mono (by rw[Z_];omega) fun j _ h2=>by rw[Z7,if_neg (by omega)]
 rw[Z_] at d1 d2 d3;have af4:=adF.Xj;simp only[go_sem,Iw,ah1,ZH,Nat.reducePow,af4,VP];obtain⟨s4,c1,c2,c3,c4,c5,c6⟩:=afZ.wC (by rw[Z_];omega) (.bool bz) rfl;rw[c1];rw[Z_] at c1 c2 c3;simp only[go_sem];have k4:∀j c t,s2.get j=some (.cells c t false 0 0)->j<s2.next->t≠3->t≠4->s4.get j=some (.cells c t false 0 0):=fun j c t h1 h2 h3 h4=>c4 j c t 0 0 (by rw[Z7,if_neg (by omega)];exact d4 j c t 0 0 (by rw[Z7,if_neg (by omega)];exact h1) (by rw[Z_];omega) h3) (by rw[Z_];omega) h4
 have k5:∀j,j<B->s4.get j=s2.get j:=fun j h1=>by rw[c5 j h1,Z7,if_neg (by omega),d5 j h1,Z7,if_neg (by omega)]
 obtain⟨n1,n2,n3,n4,n5⟩:=r2.lt;have xg:OR s4 bS (m+1) (m+2) (m+3) (m+4) (T5 L' z) E2 tO :=
  ⟨r2.fst,fun p hp=>(r2.vs p hp).keep fun c hc=>by rw[k5 bS (by omega)];exact hc,by rw[k5 _ (by omega)];exact r2.map,by rw[k5 _ (by omega)];exact r2.AJ,by rw[k5 _ (by omega)];exact r2.VZ,by
   rcases r2.row with⟨h0,h1,h2⟩|⟨h0,h1,b,h2,h3,h4,h5⟩
   ·exact .inl ⟨h0,h1,h2⟩
   ·exact .inr ⟨h0,h1,b,h2,by omega,h4,k4 b _ _ h5 h3 (by decide) (by decide)⟩,by omega⟩
 have e1:ZO (a1++[XX L' z])=ZO a1++[.int .i64 (XX L' z:Nat)]:=by simp[ZO,ints,PV]
 have e2:ZM (a2++[bz])=ZM a2++[.bool bz]:=by simp[ZM]
 refine hk _ _ E2 tO _ _ (fun t h1 h2 h3 h4 h5=>?_) xg ?_ (e1 ▸ d3.XS (by rw[c2];omega) fun j c h1 h2 _=>c4 j _ _ 0 0 (by rw[Z7,if_neg (by omega)];exact h1) (by rw[Z_];omega) (by decide)) ?_ (e2 ▸ c3) (fun j h1 h2 h3 h4=>?_) (by omega) (fun j hj=>?_) (c6 ((d6 (r3.new _)).new _))
 ·have ZC:∀k:Nat,50<=k->(k=t)=False:=fun k hk=>by simp;omega
  have wR:(11=t)=False:=by simp;omega
  have xE:(12=t)=False:=by simp;omega
  have n17:(17=t)=False:=by simp;omega
  have n18:(18=t)=False:=by simp;omega
  simp only[go_sem,ZC,wR,xE,n17,n18]
 ·simp only[go_sem]
 ·simp only[go_sem]
 ·rw[k5 j h1,r6 j (by omega) h2 h3 h4,kS j (by omega)]
 ·rcases r7 j hj with h|h
  ·exact .inl h
  ·right;omega
theorem abo {β:Type}{fin:Fl->β}{ks:List K}{ZB:β->Prop}{p:Prog}(hS:Y0 p.steps)(Ha:p.steps.length<=8)(hL:(ZJ (p.steps.map Step.cond)).length<=2^20){m0:Nat}(hm:2<=m0/\m0<=16)(hz:Xl p.steps m0<=512){bS m q:Nat}{v lv sv V pv:AV}{L0 L1 F:List PN}{E0:List (PN×AV)}{x0:PN}{sm:St}
  (hI:∀x∈L0,QV p.steps m0 x)(Iv:QV p.steps m0 x0)(oh:Vh (fun y=>(YG p.steps x0 y).1) m0 0 L0=L1)(hL1:L1.length<=2^20)(hF:∃R,F=L1++R)(MZ:still lv=false)
  (ny:∀s',(∀j,j<=m->s'.get j=sm.get j)->m<s'.next->Yn U s' 40 (.agg [v,lv,sv])=some (.agg [.fz ((p.steps.map Step.cond).map Zw),.fz ((ZJ (p.steps.map Step.cond)).map Zw),.fz ((ZJ (p.steps.map Step.cond)).map WO)]))
  (gm:sm.get m=some (.cells [v,lv,sv] 152 false 0 0))(gp:sm.get 8=some (.cells [.int .i64 p.lines,ZG p.nl (Zx p.steps)] 25 false 0 0))(h8m:8<m)(hbS:bS<m)(hV:iu sm bS x0.Yy V)
  {e:Env}{s:St}(g1:Env.get e 1=.ptr 8 0)(g3:Env.get e 3=.ptr m 0)(g7:Env.get e 7=.fn (.func 174) [] [.ptr (m+2) 0,.ptr (m+3) 0])(rb:Env.get e 10=.ptr q 0)(fk:Env.get e 11=.ZW)(Iw:Env.get e 12=.ZW)(g47:Env.get e 47=.int .i64 (m0:Nat))(g48:Env.get e 48=.int .i64 (0:Nat))
  (old:∀j,j<=m->s.get j=sm.get j)(gq:s.get q=some (.cells (VZ x0 V) 254 false 0 0))(hq:m+4<=q/\q<s.next)(hqv:¬Sy 5 pv q)(hN:OR s bS (m+1) (m+2) (m+3) (m+4) L0 E0 pv)(fr:Fr s)
  (hk:∀e' s' PW E' w1 w2,(∀t:Nat,t<11->Env.get e' t=Env.get e t)->OR s' bS (m+1) (m+2) (m+3) (m+4) L1 E' PW->Env.get e' 11=w1->ZK s' s.next 3 1 m0 (ZO (YF (YG p.steps) F m0 x0)) w1->Env.get e' 12=w2->ZK s' s.next 4 1 m0 (ZM (YB (YG p.steps) m0 x0)) w2 ->
   (∀j,j<s.next->j≠m+1->j≠m+3->¬Sy 5 pv j->s'.get j=s.get j)->s.next<=s'.next->(∀j,Sy 5 PW j->Sy 5 pv j\/s.next<=j)->Fr s'->ZB (goN U fin ks e' s')) :
  ZB (SD U fin (.bk 2::ks) Hu e s):=by
 have fC:=fun x hx=>QV.pb hS Ha hm hz hL (x:=x) hx
 have hCw:=hS.rH;refine YP (σ:=Nat) (fun y=>m0-y) (fun y e' s'=>y<=m0/\(∀t:Nat,t<11->Env.get e' t=Env.get e t)/\Env.get e' 47=.int .i64 (m0:Nat)/\Env.get e' 48=.int .i64 (y:Nat)/\(∀j,j<s.next->j≠m+1->j≠m+3->¬Sy 5 pv j->s'.get j=s.get j)/\s.next<=s'.next/\Fr s' /\
   ∃L' E' PW w1 w2,OR s' bS (m+1) (m+2) (m+3) (m+4) L' E' PW/\Vh (fun y=>(YG p.steps x0 y).1) (m0-y) y L'=L1/\(∀z∈L',QV p.steps m0 z)/\(∀j,Sy 5 PW j->Sy 5 pv j\/s.next<=j)/\Env.get e' 11=w1/\ZK s' s.next 3 1 y (ZO (YF (YG p.steps) F y x0)) w1/\Env.get e' 12=w2/\ZK s' s.next 4 1 y (ZM (YB (YG p.steps) y x0)) w2) 0 ?_
  ⟨aic _,fun _ _=>rfl,g47,g48,fun _ _ _ _ _=>rfl,agB _,fr,L0,E0,pv,.ZW,.ZW,hN,by rw[Nat.sub_zero];exact oh,hI,fun j hj=>.inl hj,fk,ZK.nil _ _ _ _,Iw,ZK.nil _ _ _ _⟩
 rintro Lp y e' s' ⟨hy,hold,q47,q48,hs,Vl,Xx,L',E',PW,w1,w2,xK,YA,H',hB,tT,hw1,fK,Mx⟩ IH;have q1:=(hold 1 (by omega)).trans g1;have q3:=(hold 3 (by omega)).trans g3;have q7:=(hold 7 (by omega)).trans g7;have Cd:=(hold 10 (by omega)).trans rb;have bG:∀j,j<=m->s'.get j=sm.get j:=fun j hj=>(hs j (by have:=hN.lt;omega) (by omega) (by omega) (hN.B8 (by omega))).trans (old j hj)
 have uq:=(hs q hq.2 (by omega) (by omega) hqv).trans gq;have um:=(bG m (agB _)).trans gm;have up:=(bG 8 (by omega)).trans gp;by_cases hd:y<m0
 ·have Rm:=ZN hd (by omega);rw[show m0-y=(m0-(y+1))+1 by omega,Vh] at YA;obtain⟨eB,hsb,LP⟩:=fC x0 Iv;have Io:EY p.steps x0.cur:=(Iv.Zd hS).2.2.1;have Je:=(Iv.Zd hS).2.1;have hzI:=rY hS Iv hd;have hpz:=(fC _ hzI).1;have WE:∀S:St,(∀j,j<=m->S.get j=sm.get j)->m<S.next->X6 U (ZE U 93 [.agg [v,lv,sv],V,.agg [.int .i64 (y:Int),.int .i64 (Yv x0.last y),.bool (decide (x0.last<0))]]) 93 [.agg [v,lv,sv],V,.agg [.int .i64 (y:Int),.int .i64 (Yv x0.last y),.bool (decide (x0.last<0))]] S =
    some (.XU [.fz (ints (YG p.steps x0 y).1.Yy),ZG true (ZM (outs (p.steps.map Step.cond) (Xu (y:Int) (Yv x0.last y) (decide (x0.last<0)) (ZJ (p.steps.map Step.cond)) x0.Yy)))],S):=fun S h1 h2=>by
   rw[z93 (by simp[ZU,still,MZ])];have e1:=ny S h1 h2;have e2:=(hV.keep (s':=S) fun c hc=>by rw[h1 bS (by omega)];exact hc).Yn 38;have e3:Y' (Yn U S 40) [.agg [v,lv,sv],V,.agg [.int .i64 (y:Int),.int .i64 (Yv x0.last y),.bool (decide (x0.last<0))]] =
     some [.agg [.fz ((p.steps.map Step.cond).map Zw),.fz ((ZJ (p.steps.map Step.cond)).map Zw),.fz ((ZJ (p.steps.map Step.cond)).map WO)],.fz (ints x0.Yy),.agg [.int .i64 (y:Int),.int .i64 (Yv x0.last y),.bool (decide (x0.last<0))]]:=by
    rw[Xn,e1,Xn,e2,Xn,RF,Vi];rfl
   rw[e3];have hz:=aiL (p.steps.map Step.cond) x0.Yy (y:Int) (Yv x0.last y) (decide (x0.last<0)) hCw (by rw[agC];omega) hsb LP hL ⟨by omega,by omega⟩ (by unfold Yv;cases hc:decide (x0.last<0) with
    |true=>exact⟨by rw[cond_true];omega,by rw[cond_true];omega⟩
    |false=>have:=of_decide_eq_false hc;exact⟨by rw[cond_false];omega,by rw[cond_false];omega⟩) S
   rw[Yc] at hz;rw[hz];rfl
  have zL:=Io.a;have hkb:0<=x0.cur.2.1/\x0.cur.2.1<=2^40:=by
   have h1:=Io.k;rw[G3 zL] at h1;have:=hS.tm _ (adm zL);omega
  have hgb:0<=x0.cur.2.2/\x0.cur.2.2<=2^40:=by
   have h1:=Io.g;rw[D0 zL] at h1;have:=hS.wi _ (adm zL);omega
  have oJ:=c99 p (outs (p.steps.map Step.cond) (Xu (y:Int) (Yv x0.last y) (decide (x0.last<0)) (ZJ (p.steps.map Step.cond)) x0.Yy)) true x0.cur.1 x0.cur.2.1 x0.cur.2.2 Io.a (by rw[zu,agC]) (by omega) hkb hgb;rw[X9] at oJ;have hmv:(eS (Wn p.steps) (Tm p.steps) p.steps.length (JZ (outs (p.steps.map Step.cond) (Xu (y:Int) (Yv x0.last y) (decide (x0.last<0)) (ZJ (p.steps.map Step.cond)) x0.Yy))) x0.cur.1 x0.cur.2.1 x0.cur.2.2)=((YG p.steps x0 y).1.cur,(YG p.steps x0 y).2):=rfl;rw[hmv] at oJ;simp only[Ft] at oJ;have hzl:(YG p.steps x0 y).1.last=(y:Int):=rfl;have f1:∀k,(s'.next+k=8)=False:=fun k=>by simp;omega
  have f1':(s'.next=8)=False:=by simp;omega
  have f2:(s'.next=m)=False:=by simp;omega
  have f3:(s'.next=q)=False:=by simp;omega
  have QR:Yv x0.last y=bif decide (x0.last<0) then (y:Int) else x0.last:=rfl;unfold VZ at uq;have hLb:∀x∈L',PB x:=fun x hx=>(fC x (H' x hx)).1
  obtain⟨RL,eH⟩:=JU (fun y=>(YG p.steps x0 y).1) (m0-(y+1)) (y+1) (T5 L' (YG p.steps x0 y).1);have ad3:L'.length<=2^20:=by
   rw[YA] at eH;have h1:(T5 L' (YG p.steps x0 y).1).length<=L1.length:=by rw[eH,agy];omega
   obtain⟨R0,e0⟩:=Ll L' (YG p.steps x0 y).1;rw[e0,agy] at h1;omega
  have Aj:XX F (YG p.steps x0 y).1=XX L' (YG p.steps x0 y).1:=by
   obtain⟨R,hR⟩:=hF;rw[YA] at eH;rw[hR,eH,alS,GN _ _ _ (GM L' _)];by_cases Ue:(YG p.steps x0 y).1∈L'
   ·rw[T5,if_pos Ue]
   ·rw[T5,if_neg Ue,GL _ L' Ue,Lk _ L' Ue]
  have hrN:YF (YG p.steps) F y x0++[XX L' (YG p.steps x0 y).1]=YF (YG p.steps) F (y+1) x0:=by
   rw[<-Aj];unfold YF;rw[List.range_succ,alY];rfl
  have hrF:YB (YG p.steps) y x0++[(YG p.steps x0 y).2]=YB (YG p.steps) (y+1) x0:=by
   unfold YB;rw[List.range_succ,alY];rfl
  have npv:¬Sy 5 PW q:=fun h=>by
   rcases hB q h with h|h
   ·exact hqv h
   ·omega
  have tail:∀(ee:Env) (S:St),S.next=s'.next+1->(∀j,j<s'.next->S.get j=s'.get j)->Fr S->(∀t:Nat,t<11->Env.get ee t=Env.get e' t)->Env.get ee 11=w1->Env.get ee 12=w2->Env.get ee 13=.int .i64 (y:Nat)->Env.get ee 15=.fz (ints (YG p.steps x0 y).1.Yy)->Env.get ee 16=ZG true (ZM (outs (p.steps.map Step.cond) (Xu (y:Int) (Yv x0.last y) (decide (x0.last<0)) (ZJ (p.steps.map Step.cond)) x0.Yy)))->Env.get ee 47=.int .i64 (m0:Nat)->Env.get ee 48=.int .i64 (y:Nat) ->
    ZB (go U fin (.bk 3::.sq (.ops [o 91 (.bin .add 3 true (.t 48) (.v (.int .i64 1))),o 48 (.O9 (.t 91))])::.lp Lp::.bk 2::ks) Fu ee S):=by
   intro ee S h1 h2 h3 h4 h11 h12 h13 h15 h16 h47 h48;refine adi (ZB:=ZB) (bS:=bS) (m:=m) (q:=q) (y:=y) (B:=s.next) (x0:=x0) (V:=V) (w1:=w1) (w2:=w2) (L':=L') (E':=E') (PW:=PW) (a1:=YF (YG p.steps) F y x0) (a2:=YB (YG p.steps) y x0) oJ hpz hzl hLb ad3 (by omega) h8m ((h4 1 (by omega)).trans q1) ((h4 7 (by omega)).trans q7) ((h4 10 (by omega)).trans Cd) h11 h12 h13 h15 h16 ((h2 8 (by have:=xK.lt;omega)).trans up) ((h2 q (by omega)).trans uq) (by omega) (xK.mono (by omega) h2) (hw1.mono (by omega) fun j _ hj=>h2 j hj) (Mx.mono (by omega) fun j _ hj=>h2 j hj) (by have:=hN.lt;omega) h3 ?_;intro e2 s2 E2 tO w1' w2' g2 n2 k11 r1 k12 r2 kp kn kb O1;have j48:=(g2 48 (by omega) (by omega) (by omega) (by omega) (by omega)).trans h48;have j47:=(g2 47 (by omega) (by omega) (by omega) (by omega) (by omega)).trans h47;simp only[go_sem,j48,Rm];rw[hrN] at r1;rw[hrF] at r2;refine IH (y+1) _ _ (by omega) ⟨by omega,fun t ht=>?_,?_,?_,fun j a1 a2 a3 a4=>?_,by omega,O1,T5 L' (YG p.steps x0 y).1,E2,tO,w1',w2',n2,YA,fun z f_=>?_,fun j hj=>?_,?_,r1,?_,r2⟩
   ·have ZC:∀k:Nat,11<=k->(k=t)=False:=fun k hk=>by simp;omega
    simp only[go_sem,ZC];exact ((g2 t (by omega) (by omega) (by omega) (by omega) (by omega)).trans (h4 t ht)).trans (hold t ht)
   ·simp only[go_sem,j47]
   ·simp only[go_sem]
   ·rw[kp j a1 a2 a3 (fun h=>by
     rcases hB j h with h|h
     ·exact a4 h
     ·omega),h2 j (by omega),hs j a1 a2 a3 a4]
   ·rcases rX f_ with h|h
    ·exact H' z h
    ·rw[h];exact hzI
   ·rcases kb j hj with h|h
    ·exact hB j h
    ·right;omega
   ·simp only[go_sem,k11]
   ·simp only[go_sem,k12]
  have tz:∀t:Nat,t<11->∀k:Nat,11<=k->(k=t)=False:=fun t ht k hk=>by simp;omega
  have EV:=xK.lt
  cases hc:decide (x0.last<0) with
  |true =>
   rw[hc] at WE QR tail;rw[cond_true] at QR;rw[QR] at WE tail;simp only[go_sem,L3,q3,Cd,q47,q48,Z8,hd,uq,um,f2,f3,hc];rw[WE _ (fun j hj=>by rw[Z9,if_neg (by omega),Z9,if_neg (by omega),Z7,if_neg (by omega)];exact bG j hj) (by simp only[Z',Z_];omega)];simp only[go_sem];refine tail _ _ (by simp only[Z',Z_]) (fun j hj=>by rw[Z9,if_neg (by omega),Z9,if_neg (by omega),Z7,if_neg (by omega)]) (((Xx.new _).put (by rw[Z_];omega) _).put (by rw[Z',Z_];omega) _) (fun t ht=>?_) ?_ ?_ ?_ ?_ ?_ ?_ ?_
   ·have ZC:=tz t ht;simp only[go_sem,ZC]
   all_goals simp only[go_sem,tT,fK,q47,q48]
  |false =>
   rw[hc] at WE QR tail;rw[cond_false] at QR;rw[QR] at WE tail;simp only[go_sem,L3,q3,Cd,q47,q48,Z8,hd,uq,um,f2,f3,hc];rw[WE _ (fun j hj=>by rw[Z9,if_neg (by omega),Z7,if_neg (by omega)];exact bG j hj) (by simp only[Z',Z_];omega)];simp only[go_sem];refine tail _ _ (by simp only[Z',Z_]) (fun j hj=>by rw[Z9,if_neg (by omega),Z7,if_neg (by omega)]) ((Xx.new _).put (by rw[Z_];omega) _) (fun t ht=>?_) ?_ ?_ ?_ ?_ ?_ ?_ ?_
   ·have ZC:=tz t ht;simp only[go_sem,ZC]
   all_goals simp only[go_sem,tT,fK,q47,q48]
 ·have hye:y=m0:=by omega
  subst hye;rw[Nat.sub_self,Vh] at YA;subst YA;simp only[go_sem,L3,q47,q48,Z8,alh];refine hk _ _ PW E' w1 w2 (fun t ht=>?_) xK ?_ hw1 ?_ Mx hs Vl hB Xx
  ·have ZC:∀k:Nat,11<=k->(k=t)=False:=fun k hk=>by simp;omega
   simp only[go_sem,ZC];exact hold t ht
  ·simp only[go_sem,tT]
  ·simp only[go_sem,fK]
theorem adI {β:Type}{fin:Fl->β}{ks:List K}{ZB:β->Prop}{i ob N:Nat}{ln:Int}{cN cF:List AV}{v w:AV}{jr jc m:Nat}(hi9:i<=2^20)
  {e:Env}{s:St}(g8:Env.get e 8=.ptr ob 0)(adJ:Env.get e 11=.sl jr 0 m none 1)(adK:Env.get e 12=.sl jc 0 m none 1)(QD:s.get ob=some (.cells [.int .i64 ln,v,w] 69 false 0 0))(Bk:ob<s.next)(hN:N<=s.next)(hv:ZK s N 40 1 i cN v)(hw:ZK s N 43 1 i cF w)(fr:Fr s)
  (hk:∀e' s' v' w',(∀t:Nat,t<92->Env.get e' t=Env.get e t)->s'.get ob=some (.cells [.int .i64 ln,v',w'] 69 false 0 0)->ZK s' N 40 1 (i+1) (cN++[.sl jr 0 m none 1]) v'->ZK s' N 43 1 (i+1) (cF++[.sl jc 0 m none 1]) w' ->
   (∀j,j<s.next->j≠ob->¬Xb v j->¬Xb w j->s'.get j=s.get j)->s.next<=s'.next->Fr s'->ZB (goN U fin ks e' s')) :
  ZB (go U fin ks (.raw xi) e s):=by
 rw[Uc aaX];have Nc:=fr.at;have Ib:∀t:Nat,t<92->(∀k:Nat,92<=k->(k=t)=False):=fun t ht=>fun k hk=>by simp;omega
 have M0:∀j q,j<s.next->(j=s.next+q)=False:=fun j q hj=>by simp;omega
 have Kl:∀j q,j<s.next->(s.next+q=j)=False:=fun j q hj=>by simp;omega
 have xh:∀q,q≠0->(s.next+q=s.next)=False:=fun q hq=>by simp;omega
 have xg:∀q,q≠0->(s.next=s.next+q)=False:=fun q hq=>by simp;omega
 have UP:(i+1)*24<=1099511627776:=by omega
 have VP:i+1<=1099511627776:=by omega
 have key:∀(E:Env) (S:St),(∀t:Nat,t<92->Env.get E t=Env.get e t) ->
   S.get ob=some (.cells [.int .i64 ln,.sl (s.next+14) 0 (i+1) none 1,.sl (s.next+15) 0 (i+1) none 1] 69 false 0 0) ->
   S.get (s.next+14)=some (.cells (cN++[.sl jr 0 m none 1]) 40 false 0 0)->S.get (s.next+15)=some (.cells (cF++[.sl jc 0 m none 1]) 43 false 0 0) ->
   (∀j,j<s.next->j≠ob->¬Xb v j->¬Xb w j->S.get j=s.get j)->s.next+15<S.next->Fr S->cN.length=i->cF.length=i->ZB (goN U fin ks E S):=by
  intro E S k1 k2 k3 k4 k6 k7 k8 k9 nj;exact hk E S (.sl (s.next+14) 0 (i+1) none 1) (.sl (s.next+15) 0 (i+1) none 1) k1 k2 (.inr ⟨by omega,by simp[k9],s.next+14,by omega,by omega,rfl,k3⟩) (.inr ⟨by omega,by simp[nj],s.next+15,by omega,by omega,rfl,k4⟩) k6 (by omega) k8
 rcases hv with⟨i0,rfl,rfl⟩|⟨i0,Cz,bv,v1,v2,rfl,v4⟩
 ·rcases hw with⟨_,rfl,rfl⟩|⟨i1,_⟩
  ·subst i0;simp only[go_sem,g8,adJ,adK,QD,V_,ZH,ah1,amk,Nat.reducePow,ald,akc,Nc,Bk,Kl,xh,xg,UP,VP];refine key _ _ (fun t ht=>?_) ?_ ?_ ?_ (fun j h1 h2 _ _=>?_) ?_ ?_ rfl rfl
   ·have ZC:=Ib t ht;simp only[go_sem,ZC]
   ·simp only[go_sem,ald]
   ·simp[go_sem,M0,Bk,akc]
   ·simp[go_sem,M0,Bk,akc]
   ·have e0:∀q,(s.next+q=j)=False:=fun q=>by simp;omega
    simp only[Z9,Z7,Z',Z_,Z6,ZT,akc,Nat.reduceAdd,e0,eq_false h2.symm,if_false]
   ·simp only[Z',Z_,Z6];omega
   ·repeat first|exact fr|apply Fr.new|apply Fr.put|apply Fr.upto
    all_goals try simp only[Z',Z_,Z6]
    all_goals omega
  ·omega
 ·rcases hw with⟨i1,_⟩|⟨_,Cy,bw,w1,w2,rfl,w4⟩
  ·omega
  ·rw[ah1] at Cz Cy;have n1:=Ya v4 w4 (by decide);have n2:=Ya v4 QD (by decide);have n3:=Ya w4 QD (by decide);have y1:(bv=bw)=False:=eq_false n1;have y2:(bv=ob)=False:=eq_false n2;have y3:(bw=ob)=False:=eq_false n3;have y8:(ob=bv)=False:=eq_false n2.symm;have y9:(ob=bw)=False:=eq_false n3.symm;have y10:(bw=bv)=False:=eq_false n1.symm;have a1:=fun (S:St) (h:S.get bv=some (.cells cN 40 false 0 0))=>tP Cz h (.sl jr 0 m none 1) rfl
   have a2:=fun (S:St) (h:S.get bw=some (.cells cF 43 false 0 0))=>tP Cy h (.sl jc 0 m none 1) rfl
   simp only[go_sem,g8,adJ,adK,QD,ZH,ah1,Nat.reducePow,ald,akc,Nc,Bk,M0,Kl,xh,xg,UP,VP,v2,v4,w2,w4,y1,y2,y3,a1,a2];refine key _ _ (fun t ht=>?_) ?_ ?_ ?_ (fun j h1 h2 h3 h4=>?_) ?_ ?_ Cz Cy
   ·have ZC:=Ib t ht;simp only[go_sem,ZC]
   ·simp only[go_sem]
   ·simp[go_sem,M0,Bk,w2,akc]
   ·simp[go_sem,M0,Bk,akc]
   ·have e0:∀q,(s.next+q=j)=False:=fun q=>by simp;omega
    rw[Yl] at h3 h4;simp only[Z9,Z7,Z',Z_,Z6,ZT,akc,Nat.reduceAdd,e0,eq_false h2.symm,eq_false h3,eq_false h4,if_false]
   ·simp only[Z',Z_,Z6];omega
   ·repeat first|exact fr|apply Fr.new|apply Fr.put|apply Fr.upto
    all_goals try simp only[Z',Z_,Z6]
    all_goals omega
theorem AQ (p:PN×AV)(E:List (PN×AV)):aI (p::E)=p.2::.int .i64 p.1.cur.1::.int .i64 p.1.cur.2.1::.int .i64 p.1.cur.2.2::.int .i64 p.1.last::aI E:=rfl
theorem AP:∀(E:List (PN×AV)) (i:Nat) (h:i<E.length),XA 5 (i*5) (aI E)=some (VZ E[i].1 E[i].2)
 |p::E,0,_=>by
  rw[AQ,Nat.zero_mul];simp[Sr,Sq,VZ]
 |p::E,i+1,h=>by
  have:=AP E i (by rw[akd] at h;omega);rw[show (i+1)*5=i*5+5 by omega,AQ];exact this
theorem abl {β:Type}{fin:Fl->β}{ks:List K}{ZB:β->Prop}{p:Prog}(hS:Y0 p.steps)(Ha:p.steps.length<=8)(hL:(ZJ (p.steps.map Step.cond)).length<=2^20)(hl:1<=p.lines/\p.lines<=4)(hz:Xl p.steps (2^p.lines.toNat)<=512){bS m ob:Nat}{v lv sv pv:AV}{E0:List (PN×AV)}
  (MZ:still lv=false){e:Env}{s:St}
  (ny:∀s',(∀j,j<=m->s'.get j=s.get j)->m<s'.next->Yn U s' 40 (.agg [v,lv,sv])=some (.agg [.fz ((p.steps.map Step.cond).map Zw),.fz ((ZJ (p.steps.map Step.cond)).map Zw),.fz ((ZJ (p.steps.map Step.cond)).map WO)]))
  (gm:s.get m=some (.cells [v,lv,sv] 152 false 0 0))(gp:s.get 8=some (.cells [.int .i64 p.lines,ZG p.nl (Zx p.steps)] 25 false 0 0))(h8m:9<m)(hbS:bS<m)
  (g1:Env.get e 1=.ptr 8 0)(g2:Env.get e 2=.ptr 9 0)(g3:Env.get e 3=.ptr m 0)(g6:Env.get e 6=.ptr (m+3) 0)(g7:Env.get e 7=.fn (.func 174) [] [.ptr (m+2) 0,.ptr (m+3) 0])(g8:Env.get e 8=.ptr ob 0)(g9:Env.get e 9=.int .i64 (0:Nat))
  (QD:s.get ob=some (.cells [.int .i64 p.lines,.ZW,.ZW] 69 false 0 0))(Bk:m+4<=ob/\ob<s.next)(hN:OR s bS (m+1) (m+2) (m+3) (m+4) [AO p.steps] E0 pv)(fr:Fr s)
  (hk:∀e' s' v w,Env.get e' 2=.ptr 9 0->Env.get e' 8=.ptr ob 0->s'.get ob=some (.cells [.int .i64 p.lines,v,w] 69 false 0 0)->(∀j,j<=m->s'.get j=s.get j)->s.next<=s'.next->Zz v=true->Zz w=true->v.cells=[v]->w.cells=[w] ->
   (∀x d,Yn U (s'.put 9 x) (d+3) v=some (ZG true ((PL p.steps (2^p.lines.toNat)).map fun c=>AV.fz (ZO (YF (YG p.steps) (PL p.steps (2^p.lines.toNat)) (2^p.lines.toNat) c)))))->(∀x d,Yn U (s'.put 9 x) (d+3) w=some (ZG true ((PL p.steps (2^p.lines.toNat)).map fun c=>AV.fz (ZM (YB (YG p.steps) (2^p.lines.toNat) c)))))->Fr s'->ZB (goN U fin ks e' s')) :
  ZB (SD U fin (.bk 0::ks) Ia e s):=by
 have Nb:2<=2^p.lines.toNat/\2^p.lines.toNat<=16:=by
  have:p.lines.toNat=1\/p.lines.toNat=2\/p.lines.toNat=3\/p.lines.toNat=4:=by omega
  rcases this with h|h|h|h <;> rw[h] <;> decide
 have QC:=Tq U 3 true .i64 (n:=p.lines) (by omega);have ou:((2:Int)^p.lines.toNat)=((2^p.lines.toNat:Nat):Int):=by simp
 rw[ou] at QC;generalize hm:2^p.lines.toNat=m0 at *;obtain⟨hFA,hFn,_⟩:=Kb hS m0;generalize hF:PL p.steps m0=F at *;have oo:Rd (fun x y=>(YG p.steps x y).1) m0 (Xl p.steps m0+1) 0 [AO p.steps]=F:=hF;have hlen:=fun i L (h:Bj (fun x y=>(YG p.steps x y).1) m0 (QV p.steps m0) i L)=>h.len (n:=Xl p.steps m0) (κ:=rI p.steps m0) (fun x=>CL hS) (fun x y=>Hi hS)
 have hn5:=hN.lt.2.2.2.2;refine YP (σ:=Nat) (fun i=>Xl p.steps m0-i) (fun i e' s'=>(∀t:Nat,t<9->Env.get e' t=Env.get e t)/\Env.get e' 9=.int .i64 (i:Nat)/\(∀j,j<=m->s'.get j=s.get j)/\s.next<=s'.next/\Fr s' /\
   ∃L' E' PW v w cN cF,Rd (fun x y=>(YG p.steps x y).1) m0 (Xl p.steps m0+1-i) i L'=F/\Bj (fun x y=>(YG p.steps x y).1) m0 (QV p.steps m0) i L'/\OR s' bS (m+1) (m+2) (m+3) (m+4) L' E' PW/\s'.get ob=some (.cells [.int .i64 p.lines,v,w] 69 false 0 0)/\ZK s' s.next 40 1 i cN v/\ZK s' s.next 43 1 i cF w/\cN.length=i/\cF.length=i /\
    (∀j (h:j<F.length) (h':j<cN.length),UQ s' ob 3 cN[j] (ZO (YF (YG p.steps) F m0 F[j])))/\(∀j (h:j<F.length) (h':j<cF.length),UQ s' ob 4 cF[j] (ZM (YB (YG p.steps) m0 F[j])))) 0 ?_
  ⟨fun _ _=>rfl,g9,fun _ _=>rfl,agB _,fr,[AO p.steps],E0,pv,.ZW,.ZW,[],[],oo,pI0 hS,hN,QD,ZK.nil _ _ _ _,ZK.nil _ _ _ _,rfl,rfl,fun j _ h=>by simp at h,fun j _ h=>by simp at h⟩
 rintro Lp i e' s' ⟨hold,q9,hs,Vl,Xx,L',E',PW,v1,w1,cN,cF,YA,H',xK,rA,hv,hw,Cz,Cy,xe,xd⟩ IH;have Ee:=hlen i L' H';have ahB:=H'.le;have q1:=(hold 1 (by omega)).trans g1;have q2:=(hold 2 (by omega)).trans g2;have q3:=(hold 3 (by omega)).trans g3;have q6:=(hold 6 (by omega)).trans g6;have q7:=(hold 7 (by omega)).trans g7;have q8:=(hold 8 (by omega)).trans g8;have uP:=(hs 8 (by omega)).trans gp;have uc:=xK.VZ;have ot:=xK.row.len;rw[show Xl p.steps m0+1-i=(Xl p.steps m0-i)+1 by omega,Rd] at YA;by_cases hd:i<L'.length
 ·have Rm:=ZN hd (by omega);have Iv:=aaa hd;rw[Iv] at YA;simp only at YA;obtain⟨i1,R1,hR1⟩:=H'.row (pIn hS) hd;have hcI:=H'.inv _ (adm hd);have hEl:E'.length=L'.length:=by rw[<-xK.fst,agC]
  have ni:i<E'.length:=by omega
  have hEi:E'[i].1=L'[i]:=by
   have h1:(E'.map (·.1))[i]? = some L'[i]:=by rw[xK.fst];exact Iv
   rw[alV,aaa ni] at h1;exact Option.some.inj h1
  have gr:=AP E' i ni;have SI:=xK.vs E'[i] (adm ni);rw[hEi] at gr SI;generalize E'[i].2=V at *;generalize hc:L'[i]=c at *;obtain⟨L1,oh⟩:∃L1,Vh (fun y=>(YG p.steps c y).1) m0 0 L'=L1:=⟨_,rfl⟩;rw[oh] at YA i1 hR1;have ahC:=hlen _ _ i1;obtain⟨_,_,R2,kg⟩:=Sd (n:=Xl p.steps m0) (κ:=rI p.steps m0) (pIn hS) (fun x=>CL hS) (fun x y=>Hi hS) (Xl p.steps m0-i) (i+1) L1 i1 (by omega);rw[YA] at kg;have hFi:∀h:i<F.length,F[i]=c:=fun h=>by
   have e:F[i]? = some c:=by
    rw[kg,hR1,alS,al0 (by omega)];exact Iv
   rw[aaa h] at e;exact Option.some.inj e
  rcases xK.row with⟨h0,_⟩|⟨_,Mw,bp,aH,hp6,AN,G'⟩
  ·omega
  have uc':=uc;rw[AN] at uc' ot;have gr':=gr;unfold VZ at gr';have f1:(s'.next=8)=False:=by have:=xK.lt;simp;omega
  have f2:(s'.next=m+3)=False:=by have:=xK.lt;simp;omega
  have f3:(s'.next=bp)=False:=by simp;omega
  have Re:=SI.Zz;simp only[go_sem,Ia,q1,q6,q9,uc',ot,Z8,hd,G',gr',uP,QC,f1,Re,G_,ald];obtain⟨S,Cw⟩:∃S,S=(s'.new (.cells [.ZW,.int .i64 0,.int .i64 0,.int .i64 0,.int .i64 0] 254 false 0 0)).put s'.next (.cells [V,.int .i64 c.cur.1,.int .i64 c.cur.2.1,.int .i64 c.cur.2.2,.int .i64 c.last] 254 false 0 0):=⟨_,rfl⟩;rw[<-Cw];have gi:S.next=s'.next+1:=by rw[Cw,Z',Z_]
  have kS:∀j,j<s'.next->S.get j=s'.get j:=fun j h1=>by rw[Cw,Z9,if_neg (by omega),Z7,if_neg (by omega)]
  have gq:S.get s'.next=some (.cells (VZ c V) 254 false 0 0):=by rw[Cw,Z9,if_pos rfl];rfl
  have AL:Fr S:=by rw[Cw];exact (Xx.new _).put (by rw[Z_];omega) _
  have Yh:=xK.lt;refine abo (ZB:=ZB) hS Ha hL Nb hz (bS:=bS) (m:=m) (q:=s'.next) (v:=v) (lv:=lv) (sv:=sv) (V:=V) (pv:=PW) (L0:=L') (L1:=L1) (F:=F) (E0:=E') (x0:=c) (sm:=s) H'.inv hcI oh (by omega) ⟨_,kg⟩ MZ ny gm gp (by omega) hbS (SI.keep fun x hx=>by rw[<-hs bS (by omega)];exact hx) ?_ ?_ ?_ ?_ ?_ ?_ ?_ ?_ (fun j hj=>(kS j (by omega)).trans (hs j hj)) gq (by omega) (by rw[AN,Rc];omega) (xK.mono (by omega) kS) AL ?_
  case refine_9 =>
   intro e2 s2 tO E2 x1 x2 h2 Kl p11 AK p12 hr2 S4 rD hB2 O1;obtain⟨jr,rfl,hjr,jr1,jr2⟩:∃jr,x1=.sl jr 0 m0 none 1/\s2.get jr=some (.cells (ZO (YF (YG p.steps) F m0 c)) 3 false 0 0)/\S.next<=jr/\jr<s2.next:=by
    rcases AK with⟨h,_⟩|⟨_,_,j,h1,h2,h3,h4⟩
    ·omega
    ·exact⟨j,h3,h4,h1,h2⟩
   obtain⟨jc,rfl,hjc,jc1,jc2⟩:∃jc,x2=.sl jc 0 m0 none 1/\s2.get jc=some (.cells (ZM (YB (YG p.steps) m0 c)) 4 false 0 0)/\S.next<=jc/\jc<s2.next:=by
    rcases hr2 with⟨h,_⟩|⟨_,_,j,h1,h2,h3,h4⟩
    ·omega
    ·exact⟨j,h3,h4,h1,h2⟩
   have E2':∀t:Nat,t<10->Env.get e2 t=Env.get e' t:=fun t ht=>by
    rw[h2 t (by omega)];have ZC:∀k:Nat,10<=k->(k=t)=False:=fun k hk=>by simp;omega
    simp only[go_sem,ZC]
   have k2:∀j,j<s'.next->j≠m+1->j≠m+3->j≠bp->s2.get j=s'.get j:=fun j h1 h3 h4 h5=>by
    rw[S4 j (by omega) h3 h4 (by rw[AN,Rc];omega),kS j h1]
   have kT:∀j cs t,j<s'.next->s'.get j=some (.cells cs t false 0 0)->t≠254->t≠252->s2.get j=some (.cells cs t false 0 0):=fun j cs t h1 h3 h4 h5=>by
    rw[k2 j h1 (fun e=>by have:=xK.map;rw[<-e,h3] at this;cases this) (fun e=>by rw[<-e,h3] at uc;cases uc;exact h5 rfl) (Ya h3 G' h4)];exact h3
   have uo:=kT ob _ _ (by omega) rA (by decide) (by decide);have Mv:ZK s2 s.next 40 1 i cN v1:=hv.XS (by omega) fun j c' h1 h2 h3=>kT j _ _ h2 h1 (by decide) (by decide)
   have Mx:ZK s2 s.next 43 1 i cF w1:=hw.XS (by omega) fun j c' h1 h2 h3=>kT j _ _ h2 h1 (by decide) (by decide)
   simp only[go_sem];refine adI (ZB:=ZB) (i:=i) (ob:=ob) (N:=s.next) (by omega) ((E2' 8 (by omega)).trans q8) p11 p12 uo (by omega) (by omega) Mv Mx O1 ?_;intro e3 s3 v' w' Eg uo3 eX hw3 xm fg rC;have E3:∀t:Nat,t<10->Env.get e3 t=Env.get e' t:=fun t ht=>(Eg t (by omega)).trans (E2' t ht)
   have p9:=(E3 9 (by omega)).trans q9;simp only[go_sem,p9,Rm];have nv:∀j c t,s2.get j=some (.cells c t false 0 0)->t≠40->¬Xb v1 j:=fun j c t h1 h2 h3=>Ya h1 (Mv.LD h3).2.2 h2 rfl
   have nw:∀j c t,s2.get j=some (.cells c t false 0 0)->t≠43->¬Xb w1 j:=fun j c t h1 h2 h3=>Ya h1 (Mx.LD h3).2.2 h2 rfl
   have pr:∀j c t,j<s2.next->j≠ob->s2.get j=some (.cells c t false 0 0)->t≠40->t≠43->s3.get j=some (.cells c t false 0 0):=fun j c t h1 h2 h3 h4 h5=>by
    rw[xm j h1 h2 (nv j c t h3 h4) (nw j c t h3 h5)];exact h3
   have low:∀j,j<m+4->s3.get j=s2.get j:=fun j hj=>xm j (by omega) (by omega) (fun h=>by have:=(Mv.LD h).1;omega) fun h=>by have:=(Mx.LD h).1;omega
   have bj3:∀c l,UQ s2 ob 3 c l->UQ s3 ob 3 c l:=fun c l h=>h.mono fg fun k h1 h2 h3 h4=>⟨h2,pr k _ _ h1 h2 h4 (by decide) (by decide)⟩
   have bj4:∀c l,UQ s2 ob 4 c l->UQ s3 ob 4 c l:=fun c l h=>h.mono fg fun k h1 h2 h3 h4=>⟨h2,pr k _ _ h1 h2 h4 (by decide) (by decide)⟩
   have bm3:∀c l t,t≠254->t≠252->UQ s' ob t c l->UQ s2 ob t c l:=fun c l t a1 a2 h=>h.mono (by omega) fun k h1 h2 h3 h4=>⟨h2,kT k _ _ h1 h4 a1 a2⟩
   have aaY:∀b cs,s2.get b=some (.cells cs 254 false 0 0)->b≠ob:=fun b cs h=>Ya h uo (by decide)
   obtain⟨n1,n2,n3,n4,n5⟩:=Kl.lt;have xh:OR s3 bS (m+1) (m+2) (m+3) (m+4) L1 E2 tO :=
    ⟨Kl.fst,fun p hp=>(Kl.vs p hp).keep fun c hc=>by rw[low bS (by omega)];exact hc,by rw[low _ (by omega)];exact Kl.map,by rw[low _ (by omega)];exact Kl.AJ,by rw[low _ (by omega)];exact Kl.VZ,by
     rcases Kl.row with⟨h0,h1,h2⟩|⟨h0,h1,b,h2,h3,h4,h5⟩
     ·exact .inl ⟨h0,h1,h2⟩
     ·exact .inr ⟨h0,h1,b,h2,by omega,h4,pr b _ _ h3 (aaY b _ h5) h5 (by decide) (by decide)⟩,by omega⟩
   refine IH (i+1) _ _ (by omega) ⟨fun t ht=>?_,?_,fun j h1=>?_,by omega,rC,L1,E2,tO,v',w',cN++[.sl jr 0 m0 none 1],cF++[.sl jc 0 m0 none 1],?_,i1,xh,uo3,eX,hw3,by simp[Cz],by simp[Cy],fun j h h'=>?_,fun j h h'=>?_⟩
   ·have ZC:∀k:Nat,9<=k->(k=t)=False:=fun k hk=>by simp;omega
    simp only[go_sem,ZC];exact (E3 t (by omega)).trans (hold t ht)
   ·simp only[go_sem]
   ·rw[low j (by omega),k2 j (by omega) (by omega) (by omega) (by omega),hs j h1]
   ·rw[show Xl p.steps m0+1-(i+1)=Xl p.steps m0-i by omega];exact YA
   ·by_cases hj:j<cN.length
    ·rw[al2 hj];exact bj3 _ _ (bm3 _ _ _ (by decide) (by decide) (xe j h hj))
    ·have hj:j=i:=by rw[agy,alW] at h';omega
     subst hj;rw[al5 (by omega)];simp only[amC];rw[hFi h];exact bj3 _ _ ⟨jr,none,by rw[Ww,Sc],jr2,by omega,by omega,hjr⟩
   ·by_cases hj:j<cF.length
    ·rw[al2 hj];exact bj4 _ _ (bm3 _ _ _ (by decide) (by decide) (xd j h hj))
    ·have hj:j=i:=by rw[agy,alW] at h';omega
     subst hj;rw[al5 (by omega)];simp only[amC];rw[hFi h];exact bj4 _ _ ⟨jc,none,by rw[WX,Sb],jc2,by omega,by omega,hjc⟩
  all_goals simp only[go_sem,q1,q3,q7]
  all_goals rfl
 ·have xb:i=L'.length:=by omega
  rw[amm (by omega)] at YA;simp only at YA;have hFl:F.length=i:=by rw[<-YA];omega
  have hle:decide ((i:Int)<(L'.length:Int))=false:=by rw[Z8];simp;omega
  simp only[go_sem,Ia,q6,q9,uc,ot,hle];have kP:∀(x:Uy) j,j≠9->(s'.put 9 x).get j=s'.get j:=fun x j h=>by rw[Z9,if_neg h.symm]
  refine hk _ _ v1 w1 ?_ ?_ rA hs Vl hv.Zz hw.Zz hv.cells hw.cells (fun x d=>?_) (fun x d=>?_) Xx
  ·simp only[go_sem,q2]
  ·simp only[go_sem,q8]
  ·have k1:ZK (s'.put 9 x) s.next 40 1 cN.length cN v1:=by rw[Cz];exact hv.XS (by rw[Z'];omega) fun j c' h1 h2 h3=>by rw[kP x j (by omega)];exact h1
   have Re:cN.all Zz=true:=by
    rw[alK];intro x hx;obtain⟨j,hj,rfl⟩:=alP.1 hx;obtain⟨_,_,e,_⟩:=xe j (by omega) hj;rw[e];rfl
   exact k1.Ub U Ed Ec Re (d:=d+2) (Va (by omega) fun j h h'=>((xe j h' h).mono (s':=s'.put 9 x) (b':=ob) (by rw[Z'];omega) fun k h1 h2 h3 h4=>⟨h2,by rw[kP x k (by omega)];exact h4⟩).Yn Ka J' (XR _) (Ua _ _ _))
  ·have k1:ZK (s'.put 9 x) s.next 43 1 cF.length cF w1:=by rw[Cy];exact hw.XS (by rw[Z'];omega) fun j c' h1 h2 h3=>by rw[kP x j (by omega)];exact h1
   have Re:cF.all Zz=true:=by
    rw[alK];intro x hx;obtain⟨j,hj,rfl⟩:=alP.1 hx;obtain⟨_,_,e,_⟩:=xd j (by omega) hj;rw[e];rfl
   exact k1.Ub U Eb Ea Re (d:=d+2) (Va (by omega) fun j h h'=>((xd j h' h).mono (s':=s'.put 9 x) (b':=ob) (by rw[Z'];omega) fun k h1 h2 h3 h4=>⟨h2,by rw[kP x k (by omega)];exact h4⟩).Yn AI AH (U' _) (Sp _ _ _))
def UH (S:List Step)(m:Nat):List RN:=Rd (fun x y=>(Y_ S x y).1) m (Xl S m+1) 0 [Cp S]
theorem rI0 {S:List Step}(h:Y0 S){m:Nat}:Bj (fun x y=>(Y_ S x y).1) m (Sj S m) 0 [Cp S] :=
 ⟨by simp,fun x hx=>by rw[ake.1 hx];exact (Sn h).2,aic _,fun j hj=>by omega⟩
theorem rIn {S:List Step}(h:Y0 S){m:Nat}:∀x,Sj S m x->∀y,y<m->Sj S m (Y_ S x y).1:=fun x hx y hy=>(So h hx hy).2.2
theorem JX {S:List Step}(h:Y0 S)(m:Nat):Bj (fun x y=>(Y_ S x y).1) m (Sj S m) (UH S m).length (UH S m)/\(UH S m).length<=Xl S m/\∃R,UH S m=Cp S::R:=by
 obtain⟨a,b,R,e⟩:=Sd (n:=Xl S m) (κ:=A7 S m) (rIn h) (fun x=>LM h) (fun x y=>OX h) (Xl S m+1) 0 [Cp S] (rI0 h) (by omega);exact⟨a,b,R,e⟩
theorem ah7 {β:Type}{fin:Fl->β}{ks:List K}{ZB:β->Prop}{p:Prog}(hS:Y0 p.steps)(Ha:p.steps.length<=8)(MZ:ZS (p.steps.map Step.cond)<=2^20)(hl:1<=p.lines/\p.lines<=4)(hz:Xl p.steps (2^p.lines.toNat)<=512){bM:Nat}(hbM:10<=bM){pv V0:AV}
  {e:Env}{s:St}(g1:Env.get e 1=.ptr 8 0)(g5:Env.get e 5=pv)(g6:Env.get e 6=.ptr (bM+2) 0)(g7:Env.get e 7=.int .i64 (0:Nat))
  (gP:s.get 8=some (.cells [.int .i64 p.lines,ZG p.nl (Zx p.steps)] 31 false 0 0))(QD:s.get (bM+2)=some (.cells [.int .i64 p.lines,.ZW,.ZW] 72 false 0 0))
  (hp:fV s (bM+1) 176 5 1 (rcs [(Cp p.steps,V0)]) pv)(hE:n_ s bM [Cp p.steps] [(Cp p.steps,V0)])(aej:bM+3<=s.next)(fr:Fr s)
  (hk:∀e' s' v w cN cF,Env.get e' 2=Env.get e 2->Env.get e' 6=.ptr (bM+2) 0->s'.get (bM+2)=some (.cells [.int .i64 p.lines,v,w] 72 false 0 0)->(∀j,j<bM->s'.get j=s.get j)->s.next<=s'.next->ZK s' (bM+3) 40 1 cN.length cN v->ZK s' (bM+3) 43 1 cF.length cF w->cN.length=(UH p.steps (2^p.lines.toNat)).length->cF.length=(UH p.steps (2^p.lines.toNat)).length ->
   (∀j (h:j<(UH p.steps (2^p.lines.toNat)).length) (h':j<cN.length),UQ s' (bM+2) 3 cN[j] (ZO (YF (Y_ p.steps) (UH p.steps (2^p.lines.toNat)) (2^p.lines.toNat) (UH p.steps (2^p.lines.toNat))[j])))->(∀j (h:j<(UH p.steps (2^p.lines.toNat)).length) (h':j<cF.length),UQ s' (bM+2) 4 cF[j] (ZM (YB (Y_ p.steps) (2^p.lines.toNat) (UH p.steps (2^p.lines.toNat))[j])))->Fr s'->ZB (goN U fin ks e' s')) :
  ZB (SD U fin (.bk 2::ks) B6 e s):=by
 have Nb:2^p.lines.toNat<=65536:=by have:=Ot p.lines (by omega);have:=Ny p.lines;unfold RA at this;omega
 have QC:=Tq U 3 true .i64 (n:=p.lines) (by omega);have ou:((2:Int)^p.lines.toNat)=((2^p.lines.toNat:Nat):Int):=by simp
 rw[ou] at QC;generalize hm:2^p.lines.toNat=m at *;have m1:=fun (e:Env) (s:St) (ex:Ex) (h:Env.get e 45=.int .i64 (m:Int))=>@Ql _ ex 45 e s _ h (by omega)
 have m2:=fun (e:Env) (s:St) (ex:Ex) (h:Env.get e 49=.int .i64 (m:Int))=>@DG _ ex 49 e s _ h (by omega)
 obtain⟨hFA,hFn,_⟩:=JX hS m;generalize hF:UH p.steps m=F at *;have oo:Rd (fun x y=>(Y_ p.steps x y).1) m (Xl p.steps m+1) 0 [Cp p.steps]=F:=hF;refine YP (σ:=Nat) (fun i=>Xl p.steps m-i) (fun i e' s'=>Env.get e' 1=.ptr 8 0/\Env.get e' 2=Env.get e 2/\Env.get e' 6=.ptr (bM+2) 0/\Env.get e' 7=.int .i64 (i:Nat)/\(∀j,j<bM+1->s'.get j=s.get j)/\s.next<=s'.next/\Fr s' /\
   ∃L' E' PW v w cN cF,Rd (fun x y=>(Y_ p.steps x y).1) m (Xl p.steps m+1-i) i L'=F/\Bj (fun x y=>(Y_ p.steps x y).1) m (Sj p.steps m) i L'/\Env.get e' 5=PW/\fV s' (bM+1) 176 5 L'.length (rcs E') PW/\n_ s' bM L' E'/\s'.get (bM+2)=some (.cells [.int .i64 p.lines,v,w] 72 false 0 0)/\ZK s' (bM+3) 40 1 i cN v/\ZK s' (bM+3) 43 1 i cF w/\cN.length=i/\cF.length=i /\
    (∀j (h:j<F.length) (h':j<cN.length),UQ s' (bM+2) 3 cN[j] (ZO (YF (Y_ p.steps) F m F[j])))/\(∀j (h:j<F.length) (h':j<cF.length),UQ s' (bM+2) 4 cF[j] (ZM (YB (Y_ p.steps) m F[j])))) 0 ?_
  ⟨g1,rfl,g6,g7,fun _ _=>rfl,agB _,fr,[Cp p.steps],[(Cp p.steps,V0)],pv,.ZW,.ZW,[],[],oo,rI0 hS,g5,hp,hE,QD,ZK.nil _ _ _ _,ZK.nil _ _ _ _,rfl,rfl,fun j _ h=>by simp at h,fun j _ h=>by simp at h⟩
 rintro Lp i e' s' ⟨q1,q2,q6,q7,hs,Vl,Xx,L',E',PW,v,w,cN,cF,YA,H',q5,wI,fU,rA,hv,hw,Cz,Cy,xe,xd⟩ IH;have Ee:=H'.len (n:=Xl p.steps m) (κ:=A7 p.steps m) (fun x=>LM hS) (fun x y=>OX hS);have ahB:=H'.le;have uP:=(hs 8 (by omega)).trans gP;obtain⟨bp,cap,AN,EF,G',wu,aH,hp6⟩:=wI;have q5':=q5.trans AN;rw[show Xl p.steps m+1-i=(Xl p.steps m-i)+1 by omega,Rd] at YA;by_cases hd:i<L'.length
 ·have Rm:=ZN hd (by omega);have Iv:=aaa hd;rw[Iv] at YA;simp only at YA;obtain⟨i1,R1,hR1⟩:=H'.row (rIn hS) hd;generalize hc:L'[i]=c at *;obtain⟨L1,oh⟩:∃L1,Vh (fun y=>(Y_ p.steps c y).1) m 0 L'=L1:=⟨_,rfl⟩;rw[oh] at YA i1 hR1;have ahC:=i1.len (n:=Xl p.steps m) (κ:=A7 p.steps m) (fun x=>LM hS) (fun x y=>OX hS);obtain⟨_,_,R2,kg⟩:=Sd (n:=Xl p.steps m) (κ:=A7 p.steps m) (rIn hS) (fun x=>LM hS) (fun x y=>OX hS) (Xl p.steps m-i) (i+1) L1 i1 (by omega);rw[YA] at kg;have hFi:∀h:i<F.length,F[i]=c:=fun h=>by
   have e:F[i]? = some c:=by
    rw[kg,hR1,alS,al0 (by omega)];exact Iv
   rw[aaa h] at e;exact Option.some.inj e
  have f1:(s'.next=8)=False:=by simp;omega
  simp only[go_sem,B6,q1,q5',q7,Z8,hd,uP,QC,m1,m2,f1];obtain⟨SS,DS⟩:∃SS,SS=(s'.new (.cells (ints (List.replicate m 0)) 3 false 0 0)).new (.cells (ZM (List.replicate m false)) 4 false 0 0):=⟨_,rfl⟩;rw[<-DS];have gi:SS.next=s'.next+2:=by rw[DS];simp only[Z_]
  have kS:∀j,j<s'.next->SS.get j=s'.get j:=fun j h1=>by rw[DS,Z7,Z_,if_neg (by omega),Z7,if_neg (by omega)]
  have AL:Fr SS:=by rw[DS];exact (Xx.new _).new _
  have un:SS.get s'.next=some (.cells (ZO (List.replicate m 0)) 3 false 0 0):=by rw[DS,Z7,Z_,if_neg (by omega),Z7,if_pos rfl,K8]
  have uf:SS.get (s'.next+1)=some (.cells (ZM (List.replicate m false)) 4 false 0 0):=by rw[DS,Z7,Z_,if_pos rfl]
  refine ahR (ZB:=ZB) hS Ha MZ (m:=m) Nb (N:=bM+1) (bM:=bM) (nb:=s'.next) (fb:=s'.next+1) (i:=i) (L0:=L') (L1:=L1) (F:=F) (E0:=E') (x0:=c) (pv:=PW) H'.inv Iv oh (by omega) ⟨_,kg⟩ ?_ ?_ ?_ ?_ ?_ ?_ ((kS 8 (by omega)).trans uP) un uf ⟨bp,cap,AN,EF,by rw[kS bp hp6];exact G',wu,aH,by omega⟩ (fU.keep (kS bM (by omega))) (by omega) AL ?_
  case refine_7 =>
   intro e2 s2 tO E2l QF p5 ah8 hE2 wn wf S4 rD O1;have hnp:∀j,Sy 5 PW j<->bp=j:=fun j=>by rw[AN,Rc]
   have E2:∀t:Nat,t<8->t≠5->Env.get e2 t=Env.get e' t:=fun t ht h5=>by
    rw[QF t (by omega) h5];have ZC:∀k:Nat,8<=k->(k=t)=False:=fun k hk=>by simp;omega
    simp only[go_sem,ZC]
   have p1:=(E2 1 (by omega) (by omega)).trans q1;have p2:=(E2 2 (by omega) (by omega)).trans q2;have p6:=(E2 6 (by omega) (by omega)).trans q6;have p7:=(E2 7 (by omega) (by omega)).trans q7;have p8:Env.get e2 8=.sl s'.next 0 m (some m) 1:=by rw[QF 8 (by omega) (by omega)];simp only[go_sem]
   have p9:Env.get e2 9=.sl (s'.next+1) 0 m (some m) 1:=by rw[QF 9 (by omega) (by omega)];simp only[go_sem]
   have k2:∀j,j<s'.next->j≠bp->s2.get j=s'.get j:=fun j h1 h2=>by rw[S4 j (by omega) (by omega) (by omega) (fun h=>h2 ((hnp j).1 h).symm),kS j h1]
   have Bk:=Ya rA G' (by decide);have v11:=(k2 (bM+2) (by omega) Bk).trans rA;have Mv:ZK s2 (bM+3) 40 1 i cN v:=hv.XS (by omega) fun j c' h1 h2 h3=>by rw[k2 j h2 (Ya h1 G' (by decide))];exact h1
   have Mx:ZK s2 (bM+3) 43 1 i cF w:=hw.XS (by omega) fun j c' h1 h2 h3=>by rw[k2 j h2 (Ya h1 G' (by decide))];exact h1
   have hB2:∀c l t,(t≠176)->UQ s' (bM+2) t c l->UQ s2 (bM+2) t c l:=fun c l t ht h=>h.mono (by omega) fun k h1 h2 h3 h4=>⟨h2,by rw[k2 k h1 (Ya h4 G' ht)];exact h4⟩
   have ah9:=Mv.Xj;have hlw:=Mx.Xj;have UP:(i+1)*24<=1099511627776:=by omega
   have VP:i+1<=1099511627776:=by omega
   have f2:(s2.next=bM+2)=False:=by simp;omega
   simp only[go_sem,p6,p8,v11,ah1,ZH,Nat.reducePow,ah9,UP,VP];have hvN:ZK (s2.new (.cells [.sl s'.next 0 m (some m) 1] 40 false 0 0)) (bM+3) 40 1 i cN v:=Mv.XS (by rw[Z_];omega) fun j c' h1 h2 h3=>by rw[Z7,if_neg (by omega)];exact h1
   obtain⟨s4,d1,d2,d3,d4,d5,d6⟩:=hvN.wC (by rw[Z_];omega) (.sl s'.next 0 m (some m) 1) rfl;have k4:∀j c t,s2.get j=some (.cells c t false 0 0)->j<s2.next->t≠40->s4.get j=some (.cells c t false 0 0):=fun j c t h1 h2 h3=>d4 j c t 0 0 (by rw[Z7,if_neg (by omega)];exact h1) (by rw[Z_];omega) h3
   rw[Z_] at d1 d2 d3;rw[d1];have w11:=k4 (bM+2) _ _ v11 (by omega) (by decide);have hw4:ZK s4 (bM+3) 43 1 i cF w:=Mx.XS (by omega) fun j c' h1 h2 h3=>k4 j _ _ h1 h2 (by decide)
   have f3:(s4.next=bM+2)=False:=by simp;omega
   simp only[go_sem,p6,p9,w11,ah1,ZH,Nat.reducePow,hlw,UP,VP];obtain⟨S5,hS5⟩:∃S5,S5=(s4.put (bM+2) (.cells [.int .i64 p.lines,.sl (s2.next+1) 0 (i+1) none 1,w] 72 false 0 0)).new (.cells [.sl (s'.next+1) 0 m (some m) 1] 43 false 0 0):=⟨_,rfl⟩;rw[<-hS5];have aln:S5.next=s4.next+1:=by rw[hS5,Z_,Z']
   have k5:∀j,j<s4.next->j≠bM+2->S5.get j=s4.get j:=fun j h1 h2=>by rw[hS5,Z7,Z',if_neg (by omega),Z9,if_neg h2.symm]
   have x11:S5.get (bM+2)=some (.cells [.int .i64 p.lines,.sl (s2.next+1) 0 (i+1) none 1,w] 72 false 0 0):=by rw[hS5,Z7,Z',if_neg (by omega),Z9,if_pos rfl]
   have fr5:Fr S5:=by rw[hS5];exact ((d6 (O1.new _)).put (by omega) _).new _
   have hw5:ZK S5 (bM+3) 43 1 i cF w:=hw4.XS (by omega) fun j c' h1 h2 h3=>by rw[k5 j h2 (by omega)];exact h1
   obtain⟨s6,b1,b2,b3,b4,b5,b6⟩:=hw5.wC (by omega) (.sl (s'.next+1) 0 m (some m) 1) rfl;rw[b1];have y11:=b4 (bM+2) _ _ _ _ x11 (by omega) (by decide);simp only[go_sem,p6,p7,y11,Rm];have k6:∀j c t,j≠bM+2->s2.get j=some (.cells c t false 0 0)->j<s2.next->t≠40->t≠43->s6.get j=some (.cells c t false 0 0):=fun j c t h0 h1 h2 h3 h4=>b4 j c t 0 0 (by rw[k5 j (by omega) h0];exact k4 j c t h1 h2 h3) (by omega) h4
   have kP:∀(x:Uy) j,j≠bM+2->(s6.put (bM+2) x).get j=s6.get j:=fun x j h=>by rw[Z9,if_neg h.symm]
   have hv6:ZK s6 (bM+3) 40 1 (i+1) (cN++[.sl s'.next 0 m (some m) 1]) (.sl (s2.next+1) 0 (i+1) none 1):=d3.XS (by omega) fun j c' h1 h2 h3=>b4 j _ _ 0 0 (by rw[k5 j h2 (by omega)];exact h1) (by omega) (by decide)
   have bj:∀c l t,t≠40->t≠43->∀x,UQ s2 (bM+2) t c l->UQ (s6.put (bM+2) x) (bM+2) t c l:=fun c l t h0 h00 x h=>h.mono (by rw[Z'];omega) fun k h1 h2 h3 h4=>⟨h2,by rw[kP x k h2];exact k6 k _ _ h2 h4 h1 h0 h00⟩
   obtain⟨bq,ad5,tH,ah_,aek,ah',aia,aib⟩:=ah8;have hbq:=Ya aek v11 (by decide);have k9:∀x j,j<bM+1->(s6.put (bM+2) x).get j=s'.get j:=fun x j h1=>by
    rw[kP _ j (by omega),b5 j (by omega),k5 j (by omega) (by omega),d5 j (by omega),Z7,if_neg (by omega),k2 j (by omega) (by omega)]
   have hE6:∀x,n_ (s6.put (bM+2) x) bM L1 E2l:=fun x=>hE2.keep (by rw[k9 x bM (by omega),k2 bM (by omega) (by omega)])
   refine IH (i+1) _ _ (by omega) ⟨?_,?_,?_,?_,fun j h1=>?_,by rw[Z'];omega,(b6 fr5).put (by omega) _,L1,E2l,tO,.sl (s2.next+1) 0 (i+1) none 1,.sl S5.next 0 (i+1) none 1,cN++[.sl s'.next 0 m (some m) 1],cF++[.sl (s'.next+1) 0 m (some m) 1],?_,i1,?_,⟨bq,ad5,tH,ah_,by rw[kP _ bq hbq];exact k6 bq _ _ hbq aek aib (by decide) (by decide),ah',aia,by rw[Z'];omega⟩,hE6 _,by rw[Z9,if_pos rfl],hv6.XS (by rw[Z'];omega) fun j c' h1 h2 h3=>by rw[kP _ j (by omega)];exact h1,b3.XS (by rw[Z'];omega) fun j c' h1 h2 h3=>by rw[kP _ j (by omega)];exact h1,by simp[Cz],by simp[Cy],fun j h h'=>?_,fun j h h'=>?_⟩
   case refine_5=>rw[k9 _ j h1,hs j h1]
   case refine_6=>rw[show Xl p.steps m+1-(i+1)=Xl p.steps m-i by omega];exact YA
   case refine_8 =>
    by_cases hj:j<cN.length
    ·rw[al2 hj];exact bj _ _ _ (by decide) (by decide) _ (hB2 _ _ _ (by decide) (xe j h hj))
    ·have hj:j=i:=by rw[agy,alW] at h';omega
     subst hj;rw[al5 (by omega)];simp only[amC];rw[hFi h];exact bj _ _ _ (by decide) (by decide) _ ⟨s'.next,some m,by rw[Ww,Sc],by omega,by omega,by omega,wn⟩
   case refine_9 =>
    by_cases hj:j<cF.length
    ·rw[al2 hj];exact bj _ _ _ (by decide) (by decide) _ (hB2 _ _ _ (by decide) (xd j h hj))
    ·have hj:j=i:=by rw[agy,alW] at h';omega
     subst hj;rw[al5 (by omega)];simp only[amC];rw[hFi h];exact bj _ _ _ (by decide) (by decide) _ ⟨s'.next+1,some m,by rw[WX,Sb],by omega,by omega,by omega,wf⟩
   all_goals simp only[go_sem,p1,p2,p5,p6]
  all_goals simp only[go_sem,q1,q5,q7]
  all_goals rfl
 ·have xb:i=L'.length:=by omega
  rw[amm (by omega)] at YA;simp only at YA;have hFl:F.length=i:=by rw[<-YA];omega
  have hle:decide ((i:Int)<(L'.length:Int))=false:=by rw[Z8];simp;omega
  simp only[go_sem,B6,q5',q7,hle];refine hk _ _ v w cN cF ?_ ?_ rA (fun j hj=>hs j (by omega)) Vl (by rw[Cz];exact hv) (by rw[Cy];exact hw) (by omega) (by omega) xe xd Xx
  ·simp only[go_sem,q2]
  ·simp only[go_sem,q6]
theorem acT {β:Type}{fin:Fl->β}{ks:List K}{ZB:β->Prop}{p:Prog}(MZ:ZS (p.steps.map Step.cond)<=2^20)(hn:p.steps.length<=8)
  {e:Env}{s:St}(g1:Env.get e 1=.ptr 8 0)(g2:Env.get e 2=.ptr 9 0)(g3:Env.get e 3=.int .i64 (0:Nat))(g4:Env.get e 4=.int .i64 (0:Nat))
  (u8:s.get 8=some (.cells [.int .i64 p.lines,ZG p.nl (Zx p.steps)] 31 false 0 0))(fr:Fr s)
  (hk:∀e' s',Env.get e' 1=.ptr 8 0->Env.get e' 2=.ptr 9 0->Env.get e' 3=.int .i64 (ZS (p.steps.map Step.cond):Nat)->(∀j,s'.get j=s.get j)->s.next<=s'.next->Fr s'->ZB (goN U fin ks e' s')) :
  ZB (SD U fin (.bk 0::ks) BE e s):=by
 have LP:=ZI p.nl (Zx p.steps);rw[YY] at LP;refine YP (σ:=Nat) (fun i=>p.steps.length-i) (fun i e' s'=>i<=p.steps.length/\Env.get e' 1=.ptr 8 0/\Env.get e' 2=.ptr 9 0/\Env.get e' 3=.int .i64 (ZS ((p.steps.take i).map Step.cond):Nat)/\Env.get e' 4=.int .i64 (i:Nat)/\(∀j,s'.get j=s.get j)/\s.next<=s'.next/\Fr s') 0 ?_
  ⟨aic _,g1,g2,by rw[amF];exact g3,g4,fun _=>rfl,agB _,fr⟩
 rintro Lp i e' s' ⟨hi,q1,q2,q3,q4,hs,Vl,Xx⟩ IH;have h8:=(hs 8).trans u8;by_cases hd:i<p.steps.length
 ·have Rm:=ZN hd (by omega);have hx:=P7 (nl:=p.nl) hd;have JS:ZS ((p.steps.take (i+1)).map Step.cond)=ZS ((p.steps.take i).map Step.cond)+leaves p.steps[i].cond:=by
   rw[alX hd,alY,QW,List.map_singleton,ZS,ZS,Nat.add_zero]
  have hle:ZS ((p.steps.take (i+1)).map Step.cond)<=2^20:=by
   have h1:p.steps.map Step.cond=(p.steps.take (i+1)).map Step.cond++(p.steps.drop (i+1)).map Step.cond:=by rw[<-alY,List.take_append_drop]
   rw[h1,QW] at MZ;omega
  have hc:=c87 p.steps[i].cond (by omega);rw[ZV] at hc;simp only[Z5.cells] at hc;simp only[Step.T0] at hx;have Mx:IntKind.i64.wrap ((ZS ((p.steps.take i).map Step.cond):Int)+(leaves p.steps[i].cond:Int))=((ZS ((p.steps.take (i+1)).map Step.cond):Nat):Int):=by rw[wrap_i64] <;> omega
  have Nc:=Xx.at;simp only[go_sem,BE,q1,q3,q4,LP,Z8,hd,h8,hx,hc,Mx,Rm,ald];refine IH (i+1) _ _ (by omega) ⟨by omega,?_,?_,?_,?_,fun j=>?_,?_,?_⟩
  all_goals try simp only[go_sem,q1,q2]
  ·exact hs j
  ·exact Vl
  ·exact Xx
 ·have xb:i=p.steps.length:=by omega
  subst xb;rw[amH] at q3;simp only[go_sem,BE,q1,q4,LP,Z8,alh,h8];refine hk _ _ ?_ ?_ ?_ hs Vl Xx
  all_goals simp only[go_sem,q1,q2,q3]
theorem yp (lines:Int){S:Type} [DecidableEq S] (nx:S->Nat->S×Bool)(L:List S):Wd (Kk lines nx L)=.agg [.int .i64 lines,ZG true (L.map fun x=>AV.fz (ZO (YF nx L (2^lines.toNat) x))),ZG true (L.map fun x=>AV.fz (ZM (YB nx (2^lines.toNat) x)))]:=by
 rw[WJ,SV,Vy,Kk];simp only[List.map_map];have e1:∀x:S,(Zn∘fun x:S=>(false,PV (YF nx L (2^lines.toNat) x))) x=AV.fz (ZO (YF nx L (2^lines.toNat) x)):=fun x=>by simp only[Function.comp,Zn,WH];try rfl
 have e2:∀x:S,(Zv∘fun x:S=>(false,YB nx (2^lines.toNat) x)) x=AV.fz (ZM (YB nx (2^lines.toNat) x)):=fun x=>by simp only[Function.comp,Zv,WH];try rfl
 rw[amc (fun x _=>e1 x),amc (fun x _=>e2 x)]
theorem c42 {p:Prog}(hS:Y0 p.steps)(Ha:p.steps.length<=8)(MZ:ZS (p.steps.map Step.cond)<=2^20)(hl:1<=p.lines/\p.lines<=4)(hz:Xl p.steps (2^p.lines.toNat)<=512):ZE U 42 [Vw p]=some (Wd (Kk p.lines (Y_ p.steps) (UH p.steps (2^p.lines.toNat)))):=by
 refine ZR k42 (by kernel_rfl) (by simp[ZU,X']) ?_;have bL:=ZL p.nl (Zx p.steps);have MT:=Zu p.nl (Zx p.steps);have hm:=(Sn hS (m:=1)).2.marks;rw[yp,X9];simp only[go_sem,r42];refine acT (ZB:=fun (o:Option AV)=>o=some (.agg [.int .i64 p.lines,ZG true ((UH p.steps (2^p.lines.toNat)).map fun x=>AV.fz (ZO (YF (Y_ p.steps) (UH p.steps (2^p.lines.toNat)) (2^p.lines.toNat) x))),ZG true ((UH p.steps (2^p.lines.toNat)).map fun x=>AV.fz (ZM (YB (Y_ p.steps) (2^p.lines.toNat) x)))])) (p:=p) MZ Ha ?_ ?_ ?_ ?_ ?_ ?_ ?_
 case refine_7 =>
  intro e1 s1 p1 p2 p3 QK gq mg;have q8:=QK 8;have q9:=QK 9;have gq:10<=s1.next:=by refine amA ?_ gq;simp only[go_sem]
  simp only[go_sem] at q8 q9;have m1:=fun (e:Env) (s:St) (ex:Ex) (h:Env.get e 30=.int .i64 (ZS (p.steps.map Step.cond):Nat))=>@Ql _ ex 30 e s _ h (by omega)
  have f8:(s1.next=8)=False:=by simp;omega
  have f8':∀k,(s1.next+k=8)=False:=fun k=>by simp;omega
  simp only[go_sem,p1,p3,q8,m1,f8,f8'];obtain⟨SS,DS⟩:∃SS,SS=(((s1.new (.cells (ints (List.replicate (ZS (p.steps.map Step.cond)) 0)) 3 false 0 0)).new (.cells [.int .i64 (-1),.sl s1.next 0 (ZS (p.steps.map Step.cond)) (some (ZS (p.steps.map Step.cond))) 1,.int .i64 0,.int .i64 0,.int .i64 0] 176 false 0 0)).new (.cells [.int .i64 0,.ZW,.ZW] 72 false 0 0)).put (s1.next+1+1) (.cells [.int .i64 p.lines,.ZW,.ZW] 72 false 0 0):=⟨_,rfl⟩;rw[<-DS];have gi:SS.next=s1.next+3:=by rw[DS];simp only[Z',Z_]
  have kS:∀j,j<s1.next->SS.get j=s1.get j:=fun j h1=>by rw[DS,Z9,if_neg (by omega),Z7,Z_,Z_,if_neg (by omega),Z7,Z_,if_neg (by omega),Z7,if_neg (by omega)]
  have k0:SS.get s1.next=some (.cells (ints (List.replicate (ZS (p.steps.map Step.cond)) 0)) 3 false 0 0):=by rw[DS,Z9,if_neg (by omega),Z7,Z_,Z_,if_neg (by omega),Z7,Z_,if_neg (by omega),Z7,if_pos rfl]
  have k1:SS.get (s1.next+1)=some (.cells [.int .i64 (-1),.sl s1.next 0 (ZS (p.steps.map Step.cond)) (some (ZS (p.steps.map Step.cond))) 1,.int .i64 0,.int .i64 0,.int .i64 0] 176 false 0 0):=by rw[DS,Z9,if_neg (by omega),Z7,Z_,Z_,if_neg (by omega),Z7,Z_,if_pos rfl]
  have k2:SS.get (s1.next+2)=some (.cells [.int .i64 p.lines,.ZW,.ZW] 72 false 0 0):=by rw[DS,Z9,if_pos rfl]
  have AL:Fr SS:=by
   rw[DS]
   repeat first|exact mg|apply Fr.new|apply Fr.put|apply Fr.upto
   all_goals simp only[Z_]
   all_goals omega
  refine ah7 (ZB:=fun (o:Option AV)=>o=some (.agg [.int .i64 p.lines,ZG true ((UH p.steps (2^p.lines.toNat)).map fun x=>AV.fz (ZO (YF (Y_ p.steps) (UH p.steps (2^p.lines.toNat)) (2^p.lines.toNat) x))),ZG true ((UH p.steps (2^p.lines.toNat)).map fun x=>AV.fz (ZM (YB (Y_ p.steps) (2^p.lines.toNat) x)))])) (p:=p) hS Ha MZ hl hz (bM:=s1.next) gq (pv:=.sl (s1.next+1) 0 1 (some 1) 5) (V0:=.sl s1.next 0 (ZS (p.steps.map Step.cond)) (some (ZS (p.steps.map Step.cond))) 1) ?_ ?_ ?_ ?_ ((kS 8 (by omega)).trans q8) k2 ⟨s1.next+1,some 1,rfl,.inr rfl,k1,rfl,by omega,by omega⟩ ⟨rfl,fun q hq=>?_⟩ (by omega) AL ?_
  case refine_5 =>
   rw[ake.1 hq];exact .inr ⟨by simp[Cp],k0⟩
  case refine_6 =>
   intro e' s' v w cN cF p2' p6' A' hs rD hv hw hln Tk xe xd Xx;have p2':Env.get e' 2=.ptr 9 0:=by rw[p2'];simp only[go_sem,p2]
   have u9:=((hs 9 (by omega)).trans (kS 9 (by omega))).trans q9;have nav:=hv.Zz;have naw:=hw.Zz;have aka:cN.all Zz=true:=by
    rw[alK];intro x hx;obtain⟨j,hj,rfl⟩:=alP.1 hx;obtain⟨_,_,e,_⟩:=xe j (by omega) hj;rw[e];rfl
   have akb:cF.all Zz=true:=by
    rw[alK];intro x hx;obtain⟨j,hj,rfl⟩:=alP.1 hx;obtain⟨_,_,e,_⟩:=xd j (by omega) hj;rw[e];rfl
   have kP:∀(x:Uy) j,j≠9->(s'.put 9 x).get j=s'.get j:=fun x j h=>by rw[Z9,if_neg h.symm]
   have fv:∀x,Yn U (s'.put 9 x) 39 v=some (ZG true ((UH p.steps (2^p.lines.toNat)).map fun x=>AV.fz (ZO (YF (Y_ p.steps) (UH p.steps (2^p.lines.toNat)) (2^p.lines.toNat) x)))):=fun x=>by
    have k1:ZK (s'.put 9 x) (s1.next+3) 40 1 cN.length cN v:=hv.XS (by rw[Z'];omega) fun j c' h1 h2 h3=>by rw[kP x j (by omega)];exact h1
    exact k1.Ub U Ed Ec aka (d:=38) (Va (by omega) fun j h h'=>((xe j h' h).mono (s':=s'.put 9 x) (b':=s1.next+2) (by rw[Z'];omega) fun k h1 h2 h3 h4=>⟨h2,by rw[kP x k (by omega)];exact h4⟩).Yn Ka J' (XR _) (Ua _ _ _))
   have fw:∀x,Yn U (s'.put 9 x) 39 w=some (ZG true ((UH p.steps (2^p.lines.toNat)).map fun x=>AV.fz (ZM (YB (Y_ p.steps) (2^p.lines.toNat) x)))):=fun x=>by
    have k1:ZK (s'.put 9 x) (s1.next+3) 43 1 cF.length cF w:=hw.XS (by rw[Z'];omega) fun j c' h1 h2 h3=>by rw[kP x j (by omega)];exact h1
    exact k1.Ub U Eb Ea akb (d:=38) (Va (by omega) fun j h h'=>((xd j h' h).mono (s':=s'.put 9 x) (b':=s1.next+2) (by rw[Z'];omega) fun k h1 h2 h3 h4=>⟨h2,by rw[kP x k (by omega)];exact h4⟩).Yn AI AH (U' _) (Sp _ _ _))
   simp only[go_sem,p6',p2',u9,A',nav,naw,fv,fw]
  all_goals simp only[go_sem,p1]
  all_goals rfl
 case refine_6 =>
  repeat first|exact Fr.own|apply Fr.new|apply Fr.put|apply Fr.upto
  all_goals simp only[go_sem]
 all_goals simp only[go_sem]
 all_goals rfl
theorem adL {p:Prog}(hS:Y0 p.steps)(Ha:p.steps.length<=8)(hL:(ZJ (p.steps.map Step.cond)).length<=2^20)(hl:1<=p.lines/\p.lines<=4)(hz:Xl p.steps (2^p.lines.toNat)<=512):ZE U 105 [Vw p]=some (Wd (Kk p.lines (YG p.steps) (PL p.steps (2^p.lines.toNat)))):=by
 refine ZR ajn (by kernel_rfl) (by simp[ZU,X']) ?_;have bL:=ZL p.nl (Zx p.steps);have MT:=Zu p.nl (Zx p.steps);have h98:=c98 p (by omega);have hCw:=hS.rH;have abp:p.steps.map Step.cond≠[]:=fun e=>by have:=hS.ne;rw[List.map_eq_nil_iff] at e;rw[e] at this;simp at this
 have abk:=sB hCw abp;have hlz:(ZJ (p.steps.map Step.cond)).length≠0:=fun e=>abk (al6.1 e)
 have Nb:2<=2^p.lines.toNat/\2^p.lines.toNat<=16:=by
  have:p.lines.toNat=1\/p.lines.toNat=2\/p.lines.toNat=3\/p.lines.toNat=4:=by omega
  rcases this with h|h|h|h <;> rw[h] <;> decide
 have Xz:=Sn hS (m:=2^p.lines.toNat);have fC:=(QV.pb hS Ha Nb hz hL ⟨_,Xz.2,Xz.1⟩).1;rw[QM abp] at h98;rw[yp,X9] at *;simp only[go_sem,afA,h98,ahY];obtain⟨s0,fH⟩:∃s0,s0=((X8 U).new (.cells [.int .i64 p.lines,ZG p.nl (Zx p.steps)] 25 false 0 0)).new (.cells [.int .i64 0,.ZW,.ZW] 69 false 0 0):=⟨_,rfl⟩;rw[<-fH];have EO:s0.next=10:=by rw[fH];simp only[go_sem]
 have h80:s0.get 8=some (.cells [.int .i64 p.lines,ZG p.nl (Zx p.steps)] 25 false 0 0):=by rw[fH];simp only[go_sem]
 have h90:s0.get 9=some (.cells [.int .i64 0,.ZW,.ZW] 69 false 0 0):=by rw[fH];simp only[go_sem]
 have fr0:Fr s0:=by rw[fH];exact (Fr.own.new _).new _
 obtain⟨s1,lv,sv,st,e1,e2,e3,e4,R1,R2,R3⟩:=c92 s0 (.fz ((p.steps.map Step.cond).map Zw)) (p.steps.map Step.cond) hCw (by rw[agC];omega) hL (dU _ _) fr0;rw[EO] at e3 e4 R1 R2 R3;rcases R3 with⟨h,_⟩|⟨_,_,bS,b1,b2,rfl,b3⟩
 ·exact absurd h hlz
 rw[e1];have na1:=R1.Zz;have na2:=R2.Zz;have hc8:=(e4 8 (by omega)).trans h80;have hc9:=(e4 9 (by omega)).trans h90;have cm:∀k,(AV.map k).cells=[AV.map k]:=fun _=>rfl
 have nm:∀k,Zz (AV.map k)=true:=fun _=>rfl
 simp only[go_sem,na1,na2,cm,nm];obtain⟨S,Cw⟩:∃S,S=(((((s1.new (.cells [.ZW,.ZW,.ZW] 152 false 0 0)).put s1.next (.cells [.fz ((p.steps.map Step.cond).map Zw),lv,sv] 152 false 0 0)).new (.map [] false)).new (.cells [.PG] 251 false 0 0)).put (s1.next+1+1) (.cells [.map (s1.next+1)] 251 false 0 0)).new (.cells [.ZW] 252 false 0 0):=⟨_,rfl⟩;rw[<-Cw];have gi:S.next=s1.next+4:=by rw[Cw];simp only[Z',Z_]
 have kS:∀j,j<s1.next->S.get j=s1.get j:=fun j h1=>by rw[Cw,Z7,Z',Z_,Z_,Z',Z_,if_neg (by omega),Z9,if_neg (by omega),Z7,Z_,Z',Z_,if_neg (by omega),Z7,Z',Z_,if_neg (by omega),Z9,if_neg (by omega),Z7,if_neg (by omega)]
 have k0:S.get s1.next=some (.cells [.fz ((p.steps.map Step.cond).map Zw),lv,sv] 152 false 0 0):=by rw[Cw,Z7,Z',Z_,Z_,Z',Z_,if_neg (by omega),Z9,if_neg (by omega),Z7,Z_,Z',Z_,if_neg (by omega),Z7,Z',Z_,if_neg (by omega),Z9,if_pos rfl]
 have k1:S.get (s1.next+1)=some (.map [] false):=by rw[Cw,Z7,Z',Z_,Z_,Z',Z_,if_neg (by omega),Z9,if_neg (by omega),Z7,Z_,Z',Z_,if_neg (by omega),Z7,Z',Z_,if_pos rfl]
 have k2:S.get (s1.next+2)=some (.cells [.map (s1.next+1)] 251 false 0 0):=by rw[Cw,Z7,Z',Z_,Z_,Z',Z_,if_neg (by omega),Z9,if_pos rfl]
 have k3:S.get (s1.next+3)=some (.cells [.ZW] 252 false 0 0):=by rw[Cw,Z7,Z',Z_,Z_,Z',Z_,if_pos rfl]
 have AL:Fr S:=by
  rw[Cw]
  repeat first|exact e2|apply Fr.new|apply Fr.put|apply Fr.upto
  all_goals simp only[Z',Z_]
  all_goals omega
 have hNS:OR S bS (s1.next+1) (s1.next+2) (s1.next+3) (s1.next+4) [] [] .ZW :=
  ⟨rfl,fun p hp=>by simp at hp,k1,k2,k3,ZK.nil _ _ _ _,by omega⟩
 have abq:((ZJ (p.steps.map Step.cond)).map VW).length=(ZJ (p.steps.map Step.cond)).length:=agC _;obtain⟨s2,E2,tO,r1,r2,r3,r4,r5,r6,r7⟩:=agx hNS (fun x hx=>by simp at hx) (by simp) fC (V:=.sl bS 0 (ZJ (p.steps.map Step.cond)).length none 1) (.inr ⟨by rw[show (AO p.steps).Yy=(ZJ (p.steps.map Step.cond)).map VW from rfl,abq],by rw[kS bS b2];exact b3⟩) AL;rw[XI] at r1;have oN:T5 [] (AO p.steps)=[AO p.steps]:=by simp[T5]
 rw[oN] at r2;unfold VZ at r1;have z1:(((AO p.steps).cur.1:Nat):Int)=0:=rfl;have z2:(AO p.steps).cur.2.1=0:=rfl;have z3:(AO p.steps).cur.2.2=0:=rfl;have z4:(AO p.steps).last = -1:=rfl;rw[z1,z2,z3,z4] at r1;have kk:∀j,j<s1.next->s2.get j=s1.get j:=fun j h1=>by rw[r6 j (by omega) (by omega) (by omega) (by rintro⟨n,cap,h⟩;cases h),kS j h1]
 have m0:s2.get s1.next=some (.cells [.fz ((p.steps.map Step.cond).map Zw),lv,sv] 152 false 0 0):=by rw[r6 _ (by omega) (by omega) (by omega) (by rintro⟨n,cap,h⟩;cases h)];exact k0
 have acS:=(kk 8 (by omega)).trans hc8;have f8:(s2.next=8)=False:=by simp;omega
 simp only[akc,Nat.reduceAdd];rw[r1];simp only[go_sem,acS];obtain⟨T,hTd⟩:∃T,T=(s2.new (.cells [.int .i64 0,.ZW,.ZW] 69 false 0 0)).put s2.next (.cells [.int .i64 p.lines,.ZW,.ZW] 69 false 0 0):=⟨_,rfl⟩;rw[<-hTd];have hTn:T.next=s2.next+1:=by rw[hTd,Z',Z_]
 have kT:∀j,j<s2.next->T.get j=s2.get j:=fun j h1=>by rw[hTd,Z9,if_neg (by omega),Z7,if_neg (by omega)]
 have kTo:T.get s2.next=some (.cells [.int .i64 p.lines,.ZW,.ZW] 69 false 0 0):=by rw[hTd,Z9,if_pos rfl]
 have frT:Fr T:=by rw[hTd];exact (r3.new _).put (by rw[Z_];omega) _
 refine abl (ZB:=fun (o:Option AV)=>o=some (.agg [.int .i64 p.lines,ZG true ((PL p.steps (2^p.lines.toNat)).map fun x=>AV.fz (ZO (YF (YG p.steps) (PL p.steps (2^p.lines.toNat)) (2^p.lines.toNat) x))),ZG true ((PL p.steps (2^p.lines.toNat)).map fun x=>AV.fz (ZM (YB (YG p.steps) (2^p.lines.toNat) x)))])) hS Ha hL hl hz (bS:=bS) (m:=s1.next) (ob:=s2.next) (v:=.fz ((p.steps.map Step.cond).map Zw)) (lv:=lv) (sv:=sv) (pv:=tO) (E0:=E2) (R1.kQ hlz) ?acU ((kT _ (by omega)).trans m0) ((kT 8 (by omega)).trans acS) (by omega) b2 ?_ ?_ ?_ ?_ ?_ ?_ ?_ kTo (by omega) (r2.mono (by omega) kT) frT ?mV
 case acU =>
  intro s3 xm fg;have K:∀{t:TypeId} {n k:Nat} {cs:List AV} {w:AV},ZK s1 12 t n k cs w->ZK s3 12 t n k cs w:=fun h=>h.mono (by omega) fun j _ hj=>by rw[xm j (by omega),kT j (by omega),kk j hj]
  have f2:=(K R1).Vi U Ej Ei (by omega) OS (d:=38) (fun a=>LG _ _ _);have f3:=(K R2);have f3:ZK s3 12 234 1 ((ZJ (p.steps.map Step.cond)).map WO).length ((ZJ (p.steps.map Step.cond)).map WO) sv:=by rw[agC];exact f3
  have f3:=f3.Ub U abd abe (by rw[alK];intro x hx;obtain⟨y,_,rfl⟩:=alN.1 hx;exact IP y) (d:=38) (qT s3 35 _);rw[Vi,Xn,Bz,Xn,f2,Xn,f3,RF,QM abk,QM abk];rfl
 case mV =>
  intro e' s' v w p2 p8 u1 hs rD nav naw cv cw fv fw Xx;have u9:s'.get 9=some (.cells [.int .i64 0,.ZW,.ZW] 69 false 0 0):=by rw[hs 9 (by omega),kT 9 (by omega),kk 9 (by omega)];exact hc9
  have fv':=fun x=>fv x 36
  have fw':=fun x=>fw x 36
  simp only[go_sem,p2,p8,u9,u1,nav,naw,fv',fw']
 all_goals simp only[go_sem]
 all_goals rfl
end Go.Am
namespace Go.Am
open Go
variable [Z4]
set_option maxRecDepth 100000
set_option maxHeartbeats 4000000
def QO (n:Nat):Nat:=min n 65537
theorem kU {X Y:Nat}(hX:1<=X)(hY:1<=Y):GG (QO X:Nat) (QO Y:Nat)=((QO (X*Y):Nat):Int):=by
 have h1:QO X<=65537:=Nat.min_le_right _ _;have h2:QO Y<=65537:=Nat.min_le_right _ _;have h3:QO X*QO Y<=65537*65537:=Nat.mul_le_mul h1 h2;have h4:((QO X:Nat):Int)*((QO Y:Nat):Int)=((QO X*QO Y:Nat):Int):=by push_cast;rfl
 unfold GG;rw[h4,wrap_i64 (by omega) (by omega)];have h5:min ((QO X*QO Y:Nat):Int) 65537=((min (QO X*QO Y) 65537:Nat):Int):=by omega
 rw[h5]
 congr 1
 by_cases hx:X<=65537
 ·by_cases hy:Y<=65537
  ·have e1:QO X=X:=Nat.min_eq_left hx;have e2:QO Y=Y:=Nat.min_eq_left hy;rw[e1,e2];rfl
  ·have e2:QO Y=65537:=Nat.min_eq_right (by omega);have k1:1<=QO X:=by unfold QO;omega
   have k2:1*65537<=QO X*65537:=amt _ k1;have k3:1*65537<=X*Y:=Nat.mul_le_mul hX (by omega);rw[e2];unfold QO at *;omega
 ·have e1:QO X=65537:=Nat.min_eq_right (by omega);have k1:1<=QO Y:=by unfold QO;omega
  have k2:65537*1<=65537*QO Y:=Nat.mul_le_mul_left _ k1;have k3:65537*1<=X*Y:=Nat.mul_le_mul (by omega) hY;rw[e1];unfold QO at *;omega
theorem qj {k:XV}{a b mi ma:Int}{p:XV}{nl:Bool}{kids:List Z5}(h:(Z5.mk k a b mi ma p nl kids).wf):(ZF k).leaf=!XD k:=by
 rw[Rf h];rw[Z5.wf] at h;have hk:=h.2.2.2.2.2.2.1;generalize ZF k=d at *
 cases d <;> first|rfl|(simp[Kd.known] at hk)
theorem F' {c:Z5}(h:c.wf):1<=Wq c/\Wq c<=65537/\WQ (ZF c.kind) c=(Wq c:Int):=by
 have e:=tX h;have h1:=h.A9.mi;have h2:=h.A9.ma;have e2:WQ (ZF c.kind) c=(Wq c:Int):=by
  unfold Wq WQ
  cases ZF c.kind <;> simp only
  all_goals try rw[wrap_i64 (by omega) (by omega)]
  all_goals omega
 generalize Wq c=z at *;refine⟨?_,?_,e2⟩
 all_goals
  cases hd:ZF c.kind <;> rw[hd] at e <;> simp only at e <;> omega
theorem JE:∀(l:List Nat),(∀x∈l,1<=x)->1<=Ym l
 |[],_=>agB 1
 |x::l,h=>by
  rw[Ym];exact Nat.mul_pos (h x (aba ..)) (JE l fun y hy=>h y (aab _ hy))
theorem sE {c:Z5}(h:c.wf):1<=Ym ((Ve c).map Wq):=JE _ fun x hx=>by
 obtain⟨y,hy,rfl⟩:=alN.1 hx;exact (F' (La c h y hy).1).1
theorem sD:∀(l:List Z5),(∀c∈l,c.wf)->(∀c∈l,EC c=((QO (Ym ((Ve c).map Wq)):Nat):Int))->∀X,1<=X->M8 l (QO X:Nat)=((QO (X*Ym ((ZJ l).map Wq)):Nat):Int)
 |[],_,_,X,_=>by rw[M8,ZJ,List.map_nil,Ym,ah1]
 |c::l,hw,h,X,hX=>by
  have h1:=sE (hw c (aba ..));rw[M8,h c (aba ..),kU hX h1,sD l (fun x hx=>hw x (aab _ hx)) (fun x hx=>h x (aab _ hx)) _ (Nat.mul_pos hX h1),ZJ,alY,QI,Nat.mul_assoc]
theorem abH:∀c:Z5,c.wf->EC c=((QO (Ym ((Ve c).map Wq)):Nat):Int):=by
 intro c
 induction c using Z5.ind with
 |h k a b mi ma p nl kids ih =>
  intro S3;have Tk:=qj S3;have sU:=F' S3;have ME:=S3;rw[Z5.wf] at ME;have QJ:∀x∈kids,x.wf:=ME.2.2.2.2.2.2.2.2.2.2.2.2;rw[EC,Ve,Tk]
  cases hk:XD k with
  |true =>
   have:=sD kids QJ (fun c hc=>ih c hc (QJ c hc)) 1 (agB 1);rw[amk] at this;exact this
  |false =>
   obtain⟨h1,h2,h3⟩:=sU;show WQ (ZF k) _=_;rw[show WQ (ZF k) (.mk k a b mi ma p nl kids)=(Wq (.mk k a b mi ma p nl kids):Int) from h3];simp only[cond_false,alT,List.map_nil,Ym,ah1];unfold QO;omega
theorem Dt:∀(l:List Step),(∀s∈l,s.cond.wf)->(∀s∈l,1<=s.times/\s.times<=64)->(∀s∈l,0<=s.within/\s.within<=255)->∀(X x:Nat),1<=X->x+l.length*16384<=2^40 ->
  WL l (QO X:Nat) (x:Nat)=(((QO (X*Ym ((ZJ (l.map Step.cond)).map Wq)):Nat):Int),((x+Vd l:Nat):Int))/\Vd l<=l.length*16384
 |[],_,_,_,X,x,_,_=>⟨by rw[WL,List.map_nil,ZJ,List.map_nil,Ym,ah1,Vd,Nat.add_zero],aic _⟩
 |s::l,hw,ht,hi,X,x,hX,hx=>by
  have h1:=sE (hw s (aba ..));obtain⟨t1,t2⟩:=ht s (aba ..);obtain⟨w1,w2⟩:=hi s (aba ..);have e1:((s.times.toNat:Nat):Int)=s.times:=by omega
  have e2:((s.within.toNat:Nat):Int)=s.within:=by omega
  have m1:s.times.toNat*(s.within.toNat+1)<=64*256:=Nat.mul_le_mul (by omega) (by omega);have e3:s.times*(s.within+1)=((s.times.toNat*(s.within.toNat+1):Nat):Int):=by rw[<-e1,<-e2];push_cast;simp only[amn]
  rw[akd] at hx;have e4:IntKind.i64.wrap ((x:Int)+IntKind.i64.wrap (s.times*IntKind.i64.wrap (s.within+1)))=((x+s.times.toNat*(s.within.toNat+1):Nat):Int):=by
   rw[wrap_i64 (n:=s.within+1) (by omega) (by omega),e3,wrap_i64 (n:=((s.times.toNat*(s.within.toNat+1):Nat):Int)) (by omega) (by omega),wrap_i64 (by omega) (by omega)];push_cast;rfl
  obtain⟨k1,k2⟩:=Dt l (fun y hy=>hw y (aab _ hy)) (fun y hy=>ht y (aab _ hy)) (fun y hy=>hi y (aab _ hy)) (X*Ym ((Ve s.cond).map Wq)) (x+s.times.toNat*(s.within.toNat+1)) (Nat.mul_pos hX h1) (by omega);refine⟨?_,by rw[Vd,akd];omega⟩;rw[WL,abH s.cond (hw s (aba ..)),kU hX h1,e4,k1,alT,ZJ,alY,QI,Nat.mul_assoc,Vd,akc]
theorem sC {p:Prog}(h:p.ok)(S3:∀s∈p.steps,s.cond.wf)(hl:p.lines<=4){n:Nat}(hn:n<=400)(hz:Qp p<=n):Xl p.steps (2^p.lines.toNat)<=n:=by
 have Af:=h.lines.1;have ou:IntKind.i64.wrap ((2:Int)^p.lines.toNat+1)=((QO (2^p.lines.toNat+1):Nat):Int):=by
  have:p.lines.toNat=1\/p.lines.toNat=2\/p.lines.toNat=3\/p.lines.toNat=4:=by omega
  rcases this with h|h|h|h <;> rw[h] <;> decide
 have hm:1<=2^p.lines.toNat+1:=Nat.succ_le_succ (aic _);have Si:=h.few;obtain⟨k1,k2⟩:=Dt p.steps S3 h.tm h.wi (2^p.lines.toNat+1) 0 hm (by omega);have hP:1<=Ym ((ZJ (p.steps.map Step.cond)).map Wq):=JE _ fun x hx=>by
  obtain⟨y,hy,rfl⟩:=alN.1 hx;have hC:∀c∈p.steps.map Step.cond,c.wf:=fun c hc=>by
   obtain⟨s,hs,rfl⟩:=alN.1 hc;exact S3 s hs
  obtain⟨c,hc,hy⟩:=Lb hy;exact (F' (La c (hC c hc) y hy).1).1
 have hT:1<=Vd p.steps:=by
  cases hs:p.steps with
  |nil=>exact absurd hs h.ne
  |cons s l =>
   have h1:=h.tm s (by rw[hs];exact aba ..);rw[Vd];have:1*1<=s.times.toNat*(s.within.toNat+1):=Nat.mul_le_mul (by omega) (by omega);omega
 unfold Qp at hz;rw[ou,show (0:Int)=((0:Nat):Int) from rfl,k1] at hz;simp only[ald] at hz;have hQ:1<=(2^p.lines.toNat+1)*Ym ((ZJ (p.steps.map Step.cond)).map Wq):=Nat.mul_pos hm hP;unfold Xl;rw[show (2^p.lines.toNat+1)*(Vd p.steps*Ym ((ZJ (p.steps.map Step.cond)).map Wq))=((2^p.lines.toNat+1)*Ym ((ZJ (p.steps.map Step.cond)).map Wq))*Vd p.steps by rw[Nat.mul_comm (Vd _),Nat.mul_assoc]];generalize (2^p.lines.toNat+1)*Ym ((ZJ (p.steps.map Step.cond)).map Wq)=Q at *;generalize Vd p.steps=T at *;have e5:T<=131072:=by omega
 have h3:QO Q*T<=65537*131072:=Nat.mul_le_mul (Nat.min_le_right _ _) e5;have h4:((QO Q:Nat):Int)*((T:Nat):Int)=((QO Q*T:Nat):Int):=by push_cast;rfl
 unfold GG at hz;rw[h4,wrap_i64 (by omega) (by omega)] at hz;have h5:QO Q*T<=n:=by omega
 have h6:QO Q*1<=QO Q*T:=Nat.mul_le_mul_left _ hT;have h7:QO Q=Q:=by unfold QO at *;omega
 rw[h7] at h5;exact h5
theorem mL (d:Kd)(c:Z5)(m last sym:Int):Qs d c.norm m last sym=Qs d c m last sym:=by
 have ha:c.norm.a=c.a:=by cases c;rw[Z5.norm];rfl
 have hb:c.norm.b=c.b:=by cases c;rw[Z5.norm];rfl
 have hi:c.norm.mi=c.mi:=by cases c;rw[Z5.norm];rfl
 have hx:c.norm.ma=c.ma:=by cases c;rw[Z5.norm];rfl
 have hr:=fun l t=>mK l t c
 unfold Qs mJ Cl;rw[ha,hb,hi,hx]
 cases d <;> simp only[hr]
theorem JY (last sym:Int):∀l:List Z5,(∀c∈l,∀ms,RX last sym c.norm ms=RX last sym c ms)->∀ms,U0 last sym (Wj l) ms=U0 last sym l ms
 |[],_,ms=>by rw[Wj]
 |c::l,h,ms=>by
  have ih:=JY last sym l fun x hx=>h x (aab _ hx)
  rw[Wj,U0,U0,h c (aba ..),ih]
theorem rh (last sym:Int):∀(c:Z5) (ms:List Int),RX last sym c.norm ms=RX last sym c ms:=by
 intro c
 induction c using Z5.ind with
 |h k a b mi ma p nl kids ih =>
  intro ms;have h1:=JY last sym kids fun x hx=>ih x hx
  have h2:=mL (ZF k) (.mk k a b mi ma p nl kids) (ms.headD 0) last sym;rw[Z5.norm] at h2 ⊢;rw[RX,RX,h1,h2]
theorem Mq (S:List Step):(S.map Step.norm).map Step.cond=Wj (S.map Step.cond):=by
 rw[Sm,List.map_map,List.map_map];rfl
theorem tJ (S:List Step):Wn (S.map Step.norm)=Wn S:=by
 funext i
 unfold Wn;rw[alV]
 cases S[i]? <;> rfl
theorem eP (S:List Step):Tm (S.map Step.norm)=Tm S:=by
 funext i
 unfold Tm;rw[alV]
 cases S[i]? <;> rfl
theorem G0 (S:List Step):Y_ (S.map Step.norm)=Y_ S:=by
 funext x y
 unfold Y_;rw[tJ,eP,agC,Mq,JY _ _ _ fun c _=>rh _ _ c]
theorem Lr:∀l:List Z5,ZS (Wj l)=ZS l
 |[]=>by rw[Wj]
 |c::l=>by rw[Wj,ZS,ZS,Lq,Lr l]
theorem mI (S:List Step):Cp (S.map Step.norm)=Cp S:=by
 unfold Cp;rw[Mq,Lr]
theorem mH (c:Z5):Wq c.norm=Wq c:=by
 cases c
 rw[Z5.norm];unfold Wq WQ;rfl
theorem GZ:∀l:List Z5,(∀c∈l,(Ve c.norm).map Wq=(Ve c).map Wq)->(ZJ (Wj l)).map Wq=(ZJ l).map Wq
 |[],_=>by rw[Wj]
 |c::l,h=>by rw[Wj,ZJ,ZJ,alY,alY,h c (aba ..),GZ l fun x hx=>h x (aab _ hx)]
theorem eO:∀c:Z5,(Ve c.norm).map Wq=(Ve c).map Wq:=by
 intro c
 induction c using Z5.ind with
 |h k a b mi ma p nl kids ih =>
  have h1:=GZ kids fun x hx=>ih x hx
  have h2:=mH (.mk k a b mi ma p nl kids);rw[Z5.norm] at h2 ⊢;rw[Ve,Ve]
  cases XD k with
  |true=>exact h1
  |false=>simp only[cond_false,alT,List.map_nil,h2]
theorem DY:∀S:List Step,Vd (S.map Step.norm)=Vd S
 |[]=>rfl
 |s::S=>by rw[alT,Vd,Vd,DY S];rfl
theorem DX (S:List Step)(m:Nat):Xl (S.map Step.norm) m=Xl S m:=by
 unfold Xl;rw[DY,Mq,GZ _ fun c _=>eO c]
theorem rf (S:List Step)(m:Nat):UH (S.map Step.norm) m=UH S m:=by
 unfold UH;rw[G0,mI,DX]
theorem Mp {p:Prog}(h:p.ok):Y0 p.steps:=by
 refine⟨List.length_pos_iff.2 h.ne,h.wf,h.tm,h.wi,?_⟩;unfold Wn
 cases hs:p.steps[0]? with
 |none=>rfl
 |some s=>exact h.first s hs
theorem Ck {S:List Step}(h:Y0 S):Y0 (S.map Step.norm):=by
 refine⟨by rw[agC];exact h.ne,fun s hs=>?_,fun s hs=>?_,fun s hs=>?_,by rw[tJ];exact h.w0⟩
 all_goals
  obtain⟨y,hy,rfl⟩:=alN.1 hs
 ·exact eN _ (h.wf y hy)
 ·exact h.tm y hy
 ·exact h.wi y hy
theorem mG {S:List Step}(h:Y0 S){lines:Int}(hl:1<=lines/\lines<=4)(hz:Xl S (2^lines.toNat)<=512):Zl (Kk lines (Y_ S) (UH S (2^lines.toNat)))=Zl (Kk lines (YG S) (PL S (2^lines.toNat))):=by
 obtain⟨p1,p2,Rp,p3⟩:=Kb h (2^lines.toNat);obtain⟨r1,r2,Rr,r3⟩:=JX h (2^lines.toNat);have Xz:=Sn h (m:=2^lines.toNat);have SY:∀x∈UH S (2^lines.toNat),Sj S (2^lines.toNat) x/\EW S x∈PL S (2^lines.toNat):=by
  obtain⟨a,_,_⟩:=Sd (nx:=fun x y=>(Y_ S x y).1) (m:=2^lines.toNat) (n:=Xl S (2^lines.toNat)) (Inv:=fun x=>Sj S (2^lines.toNat) x/\EW S x∈PL S (2^lines.toNat)) (κ:=A7 S (2^lines.toNat)) (fun x hx y hy=>by
   obtain⟨k1,k2,k3⟩:=So h hx.1 hy;refine⟨k3,?_⟩;rw[k1];obtain⟨j,hj,e⟩:=alP.1 hx.2;rw[<-e];exact p1.cl j hj hj y hy) (fun x hx=>LM h hx.1) (fun x y hx hy=>OX h hx.1 hy.1) (Xl S (2^lines.toNat)+1) 0 [Cp S]
   ⟨by simp,fun x hx=>by rw[ake.1 hx];exact⟨Xz.2,by rw[Xz.1,p3];exact aba ..⟩,aic _,fun j hj=>by omega⟩ (by omega)
  exact a.inv
 exact aa8 (Inv:=QV S (2^lines.toNat)) (aa9:=Sj S (2^lines.toNat)) (ψ:=EW S) (x0:=AO S) (x0':=Cp S) hl p1 r1 (by rw[p3];rfl) (by rw[r3];rfl) Xz.1 (fun x hx y hy=>⟨(So h hx hy).1,(So h hx hy).2.1⟩) (fun x hx=>(SY x hx).2) (by omega) (by omega)
theorem eM {S:List Step}(h:Y0 S){lines:Int}(hl:1<=lines/\lines<=4)(hz:Xl S (2^lines.toNat)<=512):(Kk lines (YG S) (PL S (2^lines.toNat))).ok:=by
 obtain⟨p1,p2,Rp,p3⟩:=Kb h (2^lines.toNat);exact Cj hl p1 (by rw[p3];simp) (by omega)
theorem eL {S:List Step}(h:Y0 S){lines:Int}(hl:1<=lines/\lines<=4)(hz:Xl S (2^lines.toNat)<=512):(Kk lines (Y_ S) (UH S (2^lines.toNat))).ok:=by
 obtain⟨p1,p2,Rp,p3⟩:=JX h (2^lines.toNat);exact Cj hl p1 (by rw[p3];simp) (by omega)
end Go.Am
namespace Go.Am
open Go
variable [Z4]
set_option maxRecDepth 100000
set_option maxHeartbeats 8000000
theorem qK:∀c:Z5,EC c.norm=EC c:=by
 intro c
 induction c using Z5.ind with
 |h k a b mi ma pat nl kids ih =>
 have hL:∀l:List Z5,(∀x∈l,x∈kids)->∀d,M8 (Wj l) d=M8 l d:=by
  intro l
  induction l with
  |nil=>intro _ d;rfl
  |cons c l EJ =>
   intro hm d;rw[Wj,M8,M8,ih c (hm c (aba ..)),EJ fun x hx=>hm x (aab _ hx)]
 rw[Z5.norm,EC,EC,hL kids fun _ h=>h];rfl
theorem K6:∀(l:List Step) (n x:Int),WL (l.map Step.norm) n x=WL l n x
 |[],_,_=>rfl
 |s::l,n,x=>by
  rw[alT,WL,WL,K6 l];simp only[Step.norm,qK]
theorem I9 (p:Prog):Qp p.norm=Qp p:=by
 rw[Qp,Qp,Prog.norm];simp only[K6]
def nA:Yi:=⟨0,true,[],true,[]⟩
theorem Q7:Wd nA=.agg [.int .i64 0,.ZW,.ZW]:=rfl
theorem l9 (a:Yi)(h:256<a.next.length):ZE U 103 [Wd a]=some (.XU [Wd nA,.int .i64 5]):=by
 refine ZR ael (by kernel_rfl) (by simp[ZU,VJ]) ?_;rw[WJ a,Q7];unfold SV Vy;have nn:=ZL a.TH (a.next.map Zn);have nf:=ZL a.S6 (a.ZD.map Zv);have cn:=Zu a.TH (a.next.map Zn);have cf:=Zu a.S6 (a.ZD.map Zv);have ln:=ZI a.TH (a.next.map Zn);rw[agC] at ln;have hd:decide ((a.next.length:Int)>256)=true:=by simp;omega
 simp only[go_sem,abn,ln,hd]
theorem Gw (e:Int)(h:e≠0)(w:Yi):ZE U 43 [Wd nA,.int .i64 e,.int .i64 e,Wd w]=some (.bool true):=by
 refine ZR k43 (by kernel_rfl) (by simp[ZU,VJ,still]) ?_;have h60:=c60 nA nA rfl rfl (fun i h=>by simp[nA] at h) rfl (fun i h=>by simp[nA] at h) (by simp[nA]) (by simp[nA]) (by simp[nA]) (by simp[nA]);have h1:(e != 0)=true:=by simpa using h
 have nn':=ZL w.TH (w.next.map Zn);have nf':=ZL w.S6 (w.ZD.map Zv);have cn':=Zu w.TH (w.next.map Zn);have cf':=Zu w.S6 (w.ZD.map Zv);rw[Q7] at h60 ⊢;rw[WJ w];unfold SV Vy;simp only[go_sem,r43,h60,h1,beq_self_eq_true]
def Ey (p:Prog):Bool:=decide (p.lines>4)||decide (Qp p>65536)
def qJ (S:List Step)(lines:Int):Yi:=Zl (Kk lines (YG S) (PL S (2^lines.toNat)))
theorem ep (p:Prog)(hf:p.fits)(h:lZ p≠0):ZE U 40 [Vw p]=some (.XU [Wd nA,.int .i64 (lZ p)]):=by
 refine ZR k40 (by kernel_rfl) (by simp[ZU,X']) ?_;have h64:=c64 p hf;have ZC:(lZ p != 0)=true:=by simpa using h
 rw[X9] at h64 ⊢;rw[Q7];simp only[go_sem,r40,h64,ZC]
theorem eo (p:Prog)(hf:p.fits)(h:lZ p=0)(hb:Ey p=true):ZE U 40 [Vw p]=some (.XU [Wd nA,.int .i64 22]):=by
 refine ZR k40 (by kernel_rfl) (by simp[ZU,X']) ?_;have h64:=c64 p hf;rw[h] at h64;have ok:=s9 ((s8 p).symm.trans h);have h102:=aem p hf (by have:=ok.lines;omega) (fun s hs=>(ND p.lines s.cond 1 (ok.cond s hs)).1);unfold Ey at hb;rw[X9] at h64 h102 ⊢;rw[Q7]
 cases h4:decide (p.lines>4) with
 |true =>
  simp only[go_sem,r40,h64,h4]
 |false =>
  rw[h4,amf] at hb;simp only[go_sem,r40,h64,h102,h4,hb]
theorem aa3 (p:Prog)(hf:p.fits)(h:lZ p=0)(hb:Ey p=false)(hL:(ZJ (p.steps.map Step.cond)).length<=2^20)(hz:Xl p.steps (2^p.lines.toNat)<=512) :
  ZE U 40 [Vw p]=some (bif decide (256<(qJ p.steps p.lines).next.length) then .XU [Wd nA,.int .i64 5] else .XU [Wd (qJ p.steps p.lines),.int .i64 0]):=by
 refine ZR k40 (by kernel_rfl) (by simp[ZU,X']) ?_;have h64:=c64 p hf;rw[h] at h64;have ok:=s9 ((s8 p).symm.trans h);have hS:=Mp ok;have h102:=aem p hf (by have:=ok.lines;omega) (fun s hs=>(ND p.lines s.cond 1 (ok.cond s hs)).1);unfold Ey at hb;rw[ame] at hb;obtain⟨b1,b2⟩:=hb;have hl:1<=p.lines/\p.lines<=4:=⟨ok.lines.1,by have:=of_decide_eq_false b1;omega⟩;have h105:=adL hS ok.few hL hl hz;have X5:=eM hS hl hz;have h104:=aid X5;have hm:Zl (Kk p.lines (YG p.steps) (PL p.steps (2^p.lines.toNat)))=qJ p.steps p.lines:=rfl;rw[hm] at h104;generalize qJ p.steps p.lines=M at *;generalize Kk p.lines (YG p.steps) (PL p.steps (2^p.lines.toNat))=X at *;have nn:=ZL M.TH (M.next.map Zn);have nf:=ZL M.S6 (M.ZD.map Zv);have cn:=Zu M.TH (M.next.map Zn);have cf:=Zu M.S6 (M.ZD.map Zv)
 cases hd:decide (256<M.next.length) with
 |true =>
  have h103:=l9 M (of_decide_eq_true hd);generalize Wd M=EM at *;generalize Wd X=EX at *;rw[X9] at h64 h102 h105 ⊢;rw[Q7] at *;simp only[go_sem,r40,h64,h102,h105,h104,h103,b1,b2]
 |false =>
  have h103:=aie M (by have:=of_decide_eq_false hd;omega);generalize Wd X=EX at *;rw[X9] at h64 h102 h105 ⊢;rw[WJ M] at *;unfold SV Vy at *;simp only[go_sem,r40,h64,h102,h105,h104,h103,b1,b2,nn,nf,UL]
theorem c39 (p:Prog)(hf:p.fits)(hl:0<=p.lines/\p.lines<=16)(n:Int):ZE U 39 [Vw p,.int .i64 n]=some (.bool (decide (p.lines<=3)&&decide (Ae p<=n))):=by
 refine ZR k39 (by kernel_rfl) (by simp[ZU,X',still]) ?_;have h38:=c38 p hf hl;rw[X9] at h38 ⊢
 cases h3:decide (p.lines<=3) with
 |true=>simp only[go_sem,r39,h38,h3,al9]
 |false=>simp only[go_sem,r39,h3,amq]
theorem IN {n:Nat}:∀(l:List Z5),(∀c∈l,leaves c<=n)->ZS l<=l.length*n
 |[],_=>by simp[ZS]
 |c::l,h=>by
  have h1:=h c (aba ..);have h2:=IN l fun x hx=>h x (aab _ hx)
  rw[ZS,akd,Nat.succ_mul];omega
theorem ka {p:Prog}{n:Int}(hn:n<=12)(h:short p n=true):ZS (p.steps.map Step.cond)<=2^20/\(ZJ (p.steps.map Step.cond)).length<=2^20/\(ZJ (p.norm.steps.map Step.cond)).length<=2^20:=by
 obtain⟨QK,S4⟩:=Gz h;refine⟨?_,?_,?_⟩
 ·have:=IN (n:=12) (p.steps.map Step.cond) fun c hc=>by
   obtain⟨s,BN,rfl⟩:=alN.1 hc;have:=(S4 s BN).2;omega
  rw[agC] at this;omega
 ·have:=F7 (n:=12) (p.steps.map Step.cond) fun c hc=>by
   obtain⟨s,BN,rfl⟩:=alN.1 hc;have h1:=F0 s.cond;have h2:=(S4 s BN).2;omega
  rw[agC] at this;omega
 ·have:=F7 (n:=12) (p.norm.steps.map Step.cond) fun c hc=>by
   obtain⟨s,BN,rfl⟩:=alN.1 hc;rw[Prog.norm] at BN;obtain⟨y,hy,rfl⟩:=alN.1 BN;have h1:=F0 y.cond.norm;rw[Lq] at h1;have h2:=(S4 y hy).2;show (Ve y.cond.norm).length<=12;omega
  rw[agC,show p.norm.steps.length=p.steps.length by rw[Prog.norm];simp] at this;omega
theorem j_ {p:Prog}(hf:p.fits)(h:At p=0)(hL:(ZJ (p.norm.steps.map Step.cond)).length<=2^20)(h3:p.lines<=3)(hz:Qp p<=400) :
  ZE U 40 [Vw p.norm]=some (bif decide (256<(Zl (Kk p.lines (Y_ p.steps) (UH p.steps (2^p.lines.toNat)))).next.length) then .XU [Wd nA,.int .i64 5] else .XU [Wd (Zl (Kk p.lines (Y_ p.steps) (UH p.steps (2^p.lines.toNat)))),.int .i64 0]):=by
 have ok:=s9 h;have hS:=Mp ok;have hl:1<=p.lines/\p.lines<=4:=⟨ok.lines.1,by omega⟩;have hzN:=sC ok ok.wf hl.2 (n:=400) (agB _) hz;have FC:lZ p.norm=0:=by rw[s8,Ds,h]
 have Mw:p.norm.lines=p.lines:=rfl;have l8:p.norm.steps=p.steps.map Step.norm:=rfl;have gi:=Ck hS;have hzn:Xl (p.steps.map Step.norm) (2^p.lines.toNat)<=512:=by rw[DX];omega
 have hb:Ey p.norm=false:=by
  unfold Ey;rw[I9,Mw,decide_eq_false (by omega),decide_eq_false (by omega)];rfl
 have q:=aa3 p.norm (F8 hf) FC hb hL (by rw[l8,Mw];exact hzn);have e:qJ p.norm.steps p.norm.lines=Zl (Kk p.lines (Y_ p.steps) (UH p.steps (2^p.lines.toNat))):=by
  unfold qJ;rw[l8,Mw,<-mG gi hl hzn,G0,rf]
 rw[e] at q;exact q
theorem c6 (aw:ZE U 16 []=some (.bool true))(p:Prog):ZE U 6 [Vw p]=some (.bool true):=by
 refine ZR k6 (by kernel_rfl) (by simp[ZU,X']) ?_;have vj:=c31 p 12
 cases hs:short p 12 with
 |false =>
  rw[hs] at vj;rw[X9] at vj ⊢;simp only[go_sem,r6,aw,vj]
 |true =>
  rw[hs] at vj;have hf:=wK hs;have dG:=F8 hf;obtain⟨MZ,hL,Ee⟩:=ka (by decide) hs;have dF:=c33 p hf;have nW:=c34 p hf;have FC:lZ p.norm=At p:=by rw[s8,Ds]
  have Mw:p.norm.lines=p.lines:=rfl
  cases hb:At p != 0 with
  |true =>
   have TQ:(At p==0)=false:=by simpa[bne] using hb
   have ZC:At p≠0:=by simpa using hb
   have Bg:=ep p.norm dG (by rw[FC];exact ZC);rw[FC] at Bg;have fG:=Gw (At p) ZC nA;generalize hN:Vw p.norm=N at *;rw[X9] at vj dF nW ⊢;rw[Q7] at Bg fG;simp only[go_sem,r6,aw,vj,dF,nW,Bg,fG,TQ]
  |false =>
   have Er:At p=0:=by simpa using hb
   have ok:=s9 Er;have pX:=c38 p hf (by have:=ok.lines;omega);rw[size_eq ok] at pX;rw[Er] at nW
   cases Gj:Ey p with
   |true =>
    have Bg:=eo p.norm dG (by rw[FC,Er]) (by unfold Ey at *;rw[I9,Mw];exact Gj);have fG:=Gw 22 (by decide) nA;have tg:=c37 true 22;rw[Xo] at tg;unfold Ey at Gj;generalize hN:Vw p.norm=N at *;rw[X9] at vj dF nW pX ⊢;rw[Q7] at Bg fG
    cases h4:decide (p.lines>4) with
    |true=>simp only[go_sem,r6,aw,vj,dF,nW,tg,Bg,fG,h4]
    |false =>
     rw[h4,amf] at Gj;simp only[go_sem,r6,aw,vj,dF,nW,tg,pX,Bg,fG,h4,Gj]
   |false =>
    have agv:=Gj;unfold Ey at Gj;rw[ame] at Gj;obtain⟨b1,b2⟩:=Gj;have tg:=c37 false 22;rw[Xv] at tg;have vi:=c39 p hf (by have:=ok.lines;omega) 400;rw[size_eq ok] at vi
    cases j9:decide (p.lines<=3)&&decide (Qp p<=400) with
    |false =>
     rw[j9] at vi;rw[X9] at vj nW pX vi ⊢;simp only[go_sem,r6,aw,vj,nW,tg,pX,vi,b1,b2]
    |true =>
     rw[j9] at vi;rw[agw,decide_eq_true_iff,decide_eq_true_iff] at j9;have hS:=Mp ok;have hl:1<=p.lines/\p.lines<=4:=⟨ok.lines.1,by omega⟩;have hzN:=sC ok ok.wf hl.2 (n:=400) (agB _) j9.2;have ay:=c42 hS ok.few MZ hl (by omega);have hXo:=eL hS hl (by omega);have fT:=c41 hXo;have Bg:=j_ hf Er Ee j9.1 j9.2;have q60:=dH hXo;generalize hX:Kk p.lines (Y_ p.steps) (UH p.steps (2^p.lines.toNat))=X at *;have nn:=ZL (Zl X).TH ((Zl X).next.map Zn);have nf:=ZL (Zl X).S6 ((Zl X).ZD.map Zv);have cn:=Zu (Zl X).TH ((Zl X).next.map Zn);have cf:=Zu (Zl X).S6 ((Zl X).ZD.map Zv);have ln:=ZI (Zl X).TH ((Zl X).next.map Zn);rw[agC] at ln;have fG:=aaU (Zl X) (Zl X) q60;have dD:=Gw 5 (by decide) (Zl X);generalize hN:Vw p.norm=N at *;generalize hEX:Wd X=EX at *
     cases hd:decide (256<(Zl X).next.length) with
     |true =>
      have LR:decide (((Zl X).next.length:Int)>256)=true:=by have:=of_decide_eq_true hd;simp;omega
      have j8:=c37 true 5;rw[Xo] at j8;rw[hd,cond_true] at Bg;rw[X9] at vj dF nW pX vi ay ⊢;rw[Q7] at Bg dD;rw[WJ (Zl X)] at fT dD;unfold SV Vy at fT dD;simp only[go_sem,r6,aw,vj,dF,nW,tg,pX,vi,Bg,fT,ay,dD,j8,LR,b1,b2,nn,nf,ln]
     |false =>
      have LR:decide (((Zl X).next.length:Int)>256)=false:=by have:=of_decide_eq_false hd;simp;omega
      have j8:=c37 false 5;rw[Xv] at j8;rw[hd,cond_false] at Bg;rw[X9] at vj dF nW pX vi ay ⊢;rw[WJ (Zl X)] at Bg fT fG;unfold SV Vy at Bg fT fG;simp only[go_sem,r6,aw,vj,dF,nW,tg,pX,vi,Bg,fT,ay,fG,j8,LR,b1,b2,nn,nf,ln]
end Go.Am
