/- A part of the proof. -/
import Derived.Test.YtkmaeondbkpajaaGreatDoorE30
set_option linter.all false
set_option maxHeartbeats 8000000
set_option maxRecDepth 100000
namespace Go.Am
open Go
variable [Z8]
variable {s:St}
def ak:isS (X7 U (exec U 100000) 75 [.int .i64 (-1)] true) [45,49]=true:=It
def zn (n:Int):XJ:=bif decide (n<0) then [45,49] else dg n
def ac' (n:Int)(h0 : -1<=n)(h1:n<=255):ZE U 75 [.int .i64 n]=some (.str (zn n)):=by
 unfold zn;by_cases h:n<0
 ·have:n = -1:=J;subst this;exact U6 It rfl (YZ U (n:=100000) (aW ak))
 ·rw[decide_eq_false h];exact aoz n J h1
def acS:((List.range 256).all λn=>Nat.ble 1 (Ts n).length&&Nat.ble (Ts n).length 3&&(Ts n).all (λc=>!(c==32)&&!(c==45))&&((List.range 256).all λm=>!(Ts n==Ts m)||Nat.beq n m))=true:=It
def PU {n:Int}(h0 : -1<=n)(h1:n<=255):zn n≠[]/\(zn n).length<=3/\(32:UInt8)∉zn n/\∀m:Int,-1<=m->m<=255->zn n=zn m->n=m:=by
 have key:∀k:Nat,k<256->dg (k:Int)=Ts k:=λk hk=>by
  unfold dg;rw[aqt,vk k J]
 have Xx:=ap8.1 acS;have hx:∀k:Nat,k<256->1<=(Ts k).length/\(Ts k).length<=3/\(32:UInt8)∉Ts k/\(45:UInt8)∉Ts k/\∀m,m<256->Ts k=Ts m->k=m:=λk hk=>by
  have h:=Xx k (aqg.2 hk);simp only[ahe] at h;obtain⟨⟨⟨a1,a2⟩,a3⟩,a4⟩:=h;have a3:=ap8.1 a3;refine⟨Nat.le_of_ble_eq_true a1,Nat.le_of_ble_eq_true a2,λhm=>?_,λhm=>?_,λm hm e=>?_⟩
  ·have:=a3 _ hm;simp at this
  ·have:=a3 _ hm;simp at this
  ·have:=ap8.1 a4 m (aqg.2 hm);rw[e] at this;simp at this;exact Nat.eq_of_beq_eq_true (by simpa using this)
 by_cases h:n<0
 ·have:n = -1:=J;subst this;refine⟨by decide,by decide,by decide,λm m0 m1 e=>?_⟩;by_cases hm:m<0
  ·omega
  ·obtain⟨k,rfl⟩:=Int.eq_ofNat_of_zero_le (show 0<=m by omega);have e2:zn (k:Int)=Ts k:=by unfold zn;rw[decide_eq_false hm];exact key k J
   rw[e2] at e;have h45:=(hx k J).2.2.2.1;rw[<-e] at h45;exact absurd Mo h45
 ·obtain⟨j,rfl⟩:=Int.eq_ofNat_of_zero_le (show 0<=n by omega);have e1:zn (j:Int)=Ts j:=by unfold zn;rw[decide_eq_false h];exact key j J
  obtain⟨b1,b2,b3,b4,b5⟩:=hx j J;rw[e1];refine⟨λe=>by rw[e] at b1;simp at b1,b2,b3,λm m0 m1 e=>?_⟩;by_cases hm:m<0
  ·have:m = -1:=J;subst this;rw[e] at b4;exact absurd Mo b4
  ·obtain⟨k,rfl⟩:=Int.eq_ofNat_of_zero_le (show 0<=m by omega);have e2:zn (k:Int)=Ts k:=by unfold zn;rw[decide_eq_false hm];exact key k J
   rw[e2] at e;rw[b5 k J e]
def PV (L:List Int):XJ:=L.flatMap λn=>zn n++[32]
def Pu (n:Int)(L:List Int):PV (n::L)=zn n++32::PV L:=by
 unfold PV;rw[aqp,aqs];rfl
def aj:∀(a b x y:XJ),(32:UInt8)∉a->(32:UInt8)∉b->a++32::x=b++32::y->a=b/\x=y
 |[],[],x,y,_,_,e=>⟨rfl,by simpa using e⟩
 |[],c::b,x,y,_,h,e=>by
  simp at e;exact absurd (by rw[<-e.1];exact aba ..) h
 |c::a,[],x,y,h,_,e=>by
  simp at e;exact absurd (by rw[e.1];exact aba ..) h
 |c::a,d::b,x,y,h,h',e=>by
  simp only[aqk,List.cons.injEq] at e;obtain⟨e1,e2⟩:=aj a b x y (λhm=>h (aab _ hm)) (λhm=>h' (aab _ hm)) e.2;exact⟨by rw[e.1,e1],e2⟩
def okK (L:List Int):Prop:=∀n∈L,-1<=n/\n<=255
def uV:∀(L M:List Int),okK L->okK M->PV L=PV M->L=M
 |[],[],_,_,_=>rfl
 |[],m::M,_,_,e=>by
  rw[Pu] at e;have:=congrArg List.length e;simp[PV] at this
 |n::L,[],_,_,e=>by
  rw[Pu] at e;have:=congrArg List.length e;simp[PV] at this
 |n::L,m::M,h,h',e=>by
  rw[Pu,Pu] at e;obtain⟨a1,a2⟩:=h n (aba ..);obtain⟨b1,b2⟩:=h' m (aba ..);obtain⟨_,_,c3,c4⟩:=PU a1 a2;obtain⟨_,_,d3,_⟩:=PU b1 b2;obtain⟨e1,e2⟩:=aj _ _ _ _ c3 d3 e;rw[c4 m b1 b2 e1,uV L M (λx hx=>h x (aab _ hx)) (λx hx=>h' x (aab _ hx)) e2]
def NM:∀(L:List Int),okK L->(PV L).length<=L.length*4
 |[],_=>by simp[PV]
 |n::L,h=>by
  obtain⟨a1,a2⟩:=h n (aba ..);have:=(PU a1 a2).2.1;have h2:=NM L λx hx=>h x (aab _ hx)
  rw[Pu,ann,ap1,ap1];omega
def xO (L:List Int)(n:Int):PV (L++[n])=(PV L++zn n)++[32]:=by
 unfold PV;simp
def ac7 (b:Nat)(s s':St):Prop:=∀j c t,j<s.next->j≠b->s.get j=some (.cells c t false 0 0)->t≠5->s'.get j=s.get j
def ac8 {b:Nat}{bs:XJ}(h:He s b bs)(hf:Fr s)(t:XJ)(ht:t≠[])(hlen:bs.length+t.length<=2^39) :
  ∃s' r,UN U 79 [.ptr b 0,.str t] s=some (r,s')/\He s' b (bs++t)/\Fr s'/\s.next<=s'.next/\ac7 b s s':=by
 obtain⟨p,v,hg,hp,hb,hv⟩:=h;obtain⟨s0,g1,g2,g3,g4,g5⟩:=aeh hg hp hb;have Oi:=hv.WV;have TV:(bs.length+t.length)*1<=1099511627776:=J;have U5:bs.length+t.length<=1099511627776:=J;have ht0:(t.length=0)=False:=by simp[ht]
 have NO:ZD s0 (b+1) 5 1 bs.length (XK bs) v:=hv.mono J λj hj Dq=>g4 j J
 obtain⟨s1,e1,e2,e3,e4,e5⟩:=NO.FA J (m:=t.length) (new:=XK t) (by intro h0;simp[ht] at h0) (by rw[Rt];omega) (Kk t);have kb:=e4 b J (NO.xQ (.inr J));rw[g3] at kb;rw[g2] at e1 e2 e3;refine⟨s1.put b (.cells [.ptr b 0,.sl s.next 0 (bs.length+t.length) none 1] 150 false 0 0),.XQ [.int .i64 t.length,.Tz],?_,⟨.ptr b 0,.sl s.next 0 (bs.length+t.length) none 1,by rw[Z7,Of rfl],.inr rfl,O0,?_⟩,(e5 (g5 hf)).put J _,O0,λj c t' hj hjb hc qn=>?_⟩
 ·refine Yi ahw It ?_;simp only[go_sem,aei,aej,g1,g3,Kj,Zx,Oi,U5,Nat.reducePow,Rt,ht0,ap3,not_false_eq_true];rw[e1];simp only[go_sem,kb]
 ·have hl:(bs++t).length=bs.length+t.length:=by simp
  rw[hl];have tV:XK (bs++t)=XK bs++XK t:=by simp[XK]
  rw[tV];exact e3.mono O0 λj hj _=>by rw[Z7,O3 J]
 ·rw[Z7,O3 J,e4 j J (NO.other (by rw[g4 j hjb];exact hc) qn),g4 j hjb]
def ac9 {b:Nat}{bs:XJ}(h:He s b bs)(hf:Fr s)(c:UInt8)(hlen:bs.length+1<=2^39) :
  ∃s',UN U 78 [.ptr b 0,.int .u8 c.toNat] s=some (.Tz,s')/\He s' b (bs++[c])/\Fr s'/\s.next<=s'.next/\ac7 b s s':=by
 obtain⟨p,v,hg,hp,hb,hv⟩:=h;obtain⟨s0,g1,g2,g3,g4,g5⟩:=aeh hg hp hb;have Oi:=hv.WV;have TV:(bs.length+1)*1<=1099511627776:=J;have U5:bs.length+1<=1099511627776:=J;have NO:ZD (s0.new (.cells [.int .u8 c.toNat] 5 false 0 0)) (b+1) 5 1 bs.length (XK bs) v:=hv.mono O0 λj hj Dq=>by rw[Z5,O3 J,g4 j J]
 obtain⟨s1,e1,e2,e3,e4,e5⟩:=NO.FA O0 (m:=1) (new:=[.int .u8 c.toNat]) J rfl rfl;have kb:=e4 b O0 (NO.xQ (.inr J));rw[Z5,O3 J,g3] at kb;rw[Z',g2] at e1 e2 e3;refine⟨s1.put b (.cells [.ptr b 0,.sl (s.next+1) 0 (bs.length+1) none 1] 150 false 0 0),?_,⟨.ptr b 0,.sl (s.next+1) 0 (bs.length+1) none 1,by rw[Z7,Of rfl],.inr rfl,O0,?_⟩,(e5 ((g5 hf).new _)).put J _,O0,λj c' t' hj hjb hc qn=>?_⟩
 ·refine Yi alJ It ?_;simp only[go_sem,ahx,aej,g1,g2,g3,Zx,Oi,TV,U5,Nat.reducePow];rw[e1];simp only[go_sem,kb]
 ·have hl:(bs++[c]).length=bs.length+1:=by simp
  rw[hl];have tV:XK (bs++[c])=XK bs++[.int .u8 c.toNat]:=by simp[XK]
  rw[tV];exact e3.mono O0 λj hj _=>by rw[Z7,O3 J]
 ·rw[Z7,O3 J,e4 j O0 (NO.other (by rw[Z5,O3 J,g4 j hjb];exact hc) qn),Z5,O3 J,g4 j hjb]
def ac_ (args:List AV)(s:St):Yx U (ZE U 78 args) 78 args s=UN U 78 args s:=(YJ U 78 args s).symm
def alK {args:List AV}(h:ZT args=false):Yx U (ZE U 133 args) 133 args s=UX U 133 (YS (Ya U s 40) args) s:=LR It s h
def Fz (l:List Int)(s:St):VH 1 (.fz (ints l)) s=some (l.length,ints l):=by
 have h1:(ints l).all (λx=>x.cells.length==1)=true:=by
  rw[ap8];intro x hx;obtain⟨n,_,rfl⟩:=ap0.1 hx;rfl
 have h2:(ints l).flatMap AV.cells=ints l:=by
  unfold ints;rw[List.flatMap_map]
  induction l with
  |nil=>rfl
  |cons x l ih=>rw[aqp,aqe,ih (by
    rw[ints,aqe,List.all_cons,ahe] at h1;exact h1.2)];rfl
 simp only[VH,h1,h2,YB];rfl
def NN {L:List Int}{i:Nat}(h:i<L.length):L.take (i+1)=L.take i++[L[i]]:=ap7 h
def alL {YI:List Int}{a k g last:Int}(XP:okK (a::k::g::last::YI))(h0:YI≠[])(hl:YI.length<=2^20):ZE U 133 [.fz (ints YI),.agg [.int .i64 a,.int .i64 k,.int .i64 g],.int .i64 last]=some (.str (PV (a::k::g::last::YI))):=by
 refine ZP ahy It (by simp[ZT,still]) ?_;obtain⟨L,hL⟩:∃L,L=a::k::g::last::YI:=⟨_,rfl⟩;have hLl:L.length=4+YI.length:=by rw[hL];simp;omega
 have iU:YI.length≠0:=λe=>h0 (aqo.1 e)
 rw[<-hL] at XP ⊢;have xP:=λS=>Fz YI S
 simp only[go_sem,aaY,xP];have e1:An 3 1 8 (.sl 10 0 4 (some 4) 1) (some (YI.length,ints YI)) ((((Ym U).new (.cells [.int .i64 a,.int .i64 k,.int .i64 g] 133 false 0 0)).new (.cells [.U4,.ZQ] 150 false 0 0)).new (.cells [.int .i64 a,.int .i64 k,.int .i64 g,.int .i64 last] 3 false 0 0))=some (.sl 11 0 (4+YI.length) none 1,((((Ym U).new (.cells [.int .i64 a,.int .i64 k,.int .i64 g] 133 false 0 0)).new (.cells [.U4,.ZQ] 150 false 0 0)).new (.cells [.int .i64 a,.int .i64 k,.int .i64 g,.int .i64 last] 3 false 0 0)).new (.cells (ints L) 3 false 0 0)):=by
  have hz:Go.Am.WV (.sl 10 0 4 (some 4) 1)=4:=rfl;rw[Zx (by rw[YB];omega) (by rw[hz];omega) (by rw[hz];omega) iU,Rs (cs:=[.int .i64 a,.int .i64 k,.int .i64 g,.int .i64 last]) (lo:=0) (hi:=0) (by simp only[go_sem]) rfl J];rw[hL];rfl
 rw[e1];simp only[go_sem];obtain⟨S0,Mu⟩:∃S0,S0=((((Ym U).new (.cells [.int .i64 a,.int .i64 k,.int .i64 g] 133 false 0 0)).new (.cells [.U4,.ZQ] 150 false 0 0)).new (.cells [.int .i64 a,.int .i64 k,.int .i64 g,.int .i64 last] 3 false 0 0)).new (.cells (ints L) 3 false 0 0):=⟨_,rfl⟩;rw[<-Mu];have DV:S0.next=12:=by rw[Mu];simp only[go_sem]
 have gL0:S0.get 11=some (.cells (ints L) 3 false 0 0):=by rw[Mu];simp only[go_sem]
 have gb0:S0.get 9=some (.cells [.U4,.ZQ] 150 false 0 0):=by rw[Mu];simp only[go_sem]
 have fr0:Fr S0:=by rw[Mu];exact (((Fr.own.new _).new _).new _).new _
 rw[<-hLl];refine YT (ZC:=λ(o:Option AV)=>o=some (.str (PV L))) (σ:=Nat) (λi=>L.length-i) (λi e' s'=>i<=L.length/\e'.get 7=.ptr 9 0/\e'.get 19=.sl 11 0 L.length none 1/\e'.get 20=.int .i64 (L.length:Nat)/\e'.get 21=.int .i64 (i:Nat)/\s'.get 11=some (.cells (ints L) 3 false 0 0)/\12<=s'.next/\Fr s'/\He s' 9 (PV (L.take i))) 0 ?_
  ⟨apW _,?_,?_,?_,?_,gL0,J,fr0,⟨.U4,.ZQ,gb0,.inl rfl,J,ZD.nil _ _ _ _⟩⟩
 ·rintro Lp i e' s' ⟨hi,q7,q19,q20,q21,gL,Vq,Wk,hB⟩ IH;by_cases hd:i<L.length
  ·have hw:=ZI hd J;have hx:(ints L)[i]? = some (.int .i64 L[i]):=by rw[ints,aqc,aaa hd];rfl
   obtain⟨o1,o2⟩:=XP L[i] (adm hd);have hit:=ac' L[i] o1 o2;obtain⟨f1,f2,_,_⟩:=PU o1 o2;have Dp:=NM (L.take i) λx hx=>XP x (List.mem_of_mem_take hx)
   rw[aqO] at Dp;obtain⟨s1,r1,h131,B1,tf,n1,K1⟩:=ac8 hB Wk (zn L[i]) f1 J;obtain⟨s2,h130,B2,OJ,n2,K2⟩:=ac9 B1 tf 32 (by rw[ann];omega);have g1:=K1 11 _ _ J J gL Mo;have gL1:=g1.trans gL;have g2:=K2 11 _ _ J J gL1 Mo;have gL2:=g2.trans gL1;have h130:UN U 78 [.ptr 9 0,.int .u8 32] s1=some (.Tz,s2):=h130;simp only[go_sem,Ki,q7,q19,q20,q21,Z9,hd,gL,hx,hit,fM,h131,ac_,h130,hw,ap4,ap3];refine IH (i+1) _ _ J ⟨J,?_,?_,?_,?_,gL2,J,OJ,?_⟩
   case refine_5=>rw[NN hd,xO];exact B2
   all_goals simp only[go_sem,q7,q19,q20]
  ·have G5:i=L.length:=J;subst G5;rw[aqN] at hB;have Dp:=NM L XP;obtain⟨s3,h133,n3,tU,_⟩:=fK hB Wk J;simp only[go_sem,Ki,q7,q20,q21,Z9,ap5,px,h133]
 all_goals simp only[go_sem]
 all_goals rfl
def Xu (last sym:Int):Int:=bif decide (last<0) then sym else last
def wdR (c:Z0)(mark last sym lev:Int):Int:=bif Zi sym c.a != lev then 0 else bif decide (last<0)||decide (mark<0) then -1 else min (mark+1) (c.ma+1)
def tG (c:Z0)(last sym:Int):Bool:=Zi sym c.a != Zi (Xu last sym) c.a
def FY (d:Kd)(c:Z0)(mark last sym:Int):Int×Bool:=match d with
 |.UB=>(wdR c mark last sym 1,tG c last sym&&Zi sym c.a==0&&!outside mark c.mi c.ma)
 |.gap=>(wdR c mark last sym 0,tG c last sym&&Zi sym c.a==1&&!outside mark c.mi c.ma)
 |.idle =>
  let n:=bif decide (last<0)||tG c last sym then 1 else min (mark+1) (c.mi+1)
  (n,n==c.mi)
 |.setup =>
  let n:=bif !tG c last sym&&decide (mark>0)&&decide (mark<c.mi) then mark+1 else bif tG c last sym then 1 else 0
  (n,decide (n>0)&&Zi sym c.b==1&&Zi (Xu last sym) c.b==0)
 |.TC =>
  let n:=bif Zi sym c.a==0 then 0 else bif decide (last<0)||Zi sym c.b==1 then 2 else bif tG c last sym then 1 else mark
  (n,tG c last sym&&Zi sym c.a==0&&mark==1)
 |_=>(0,atR [Xu last sym,sym] 1 c)
def qC (d:Kd)(c:Z0)(mark:Int):Int:=match d with
 |.UB|.gap=>bif mark == -1 then c.ma+1 else mark
 |.idle=>mark
 |.setup=>bif mark==0 then c.mi else mark-1
 |.TC=>bif mark==1 then 2 else bif mark==2 then 1 else 0
 |_=>0
def mkI (d:Kd)(c:Z0)(mark last:Int):Prop:=match d with
 |.UB => -1<=mark/\mark<=c.ma+1/\(0<=last->Zi last c.a≠1->mark=0)
 |.gap => -1<=mark/\mark<=c.ma+1/\(0<=last->Zi last c.a≠0->mark=0)
 |.idle=>0<=mark/\mark<=c.mi+1
 |.setup=>0<=mark/\mark<=c.mi
 |.TC=>0<=mark/\mark<=2/\(0<=last->Zi last c.a=1->mark≠0)
 |_=>mark=0
def Ec (n k:Int):Zi n k=0\/Zi n k=1:=by unfold Zi;omega
def mV (d:Kd)(c:Z0)(h1:0<=c.mi)(h2:0<=c.ma):mkI d c 0 (-1):=by
 cases d <;> simp only[mkI] <;> first|omega|(refine⟨J,J,λh=>J⟩)
def mU (c:Z0):qC (Zs c.kind) c 0=Xm c:=by
 unfold Xm
 cases Zs c.kind <;> rfl
def o0 (c:Z0)(lv:Bool)(h1:1<=c.mi)(h2:0<=c.ma){mark last sym:Int}(hl : -1<=last)(hm : -1<=mark/\mark<=c.ma+1/\(0<=last->Zi last c.a≠Va lv->mark=0)) :
  Hg lv c (bif mark == -1 then c.ma+1 else mark) (Xf sym c.a) (Xf (Xu last sym) c.a) (decide (last<0)) =
   ((bif wdR c mark last sym (Va lv) == -1 then c.ma+1 else wdR c mark last sym (Va lv)),tG c last sym&&Zi sym c.a==1-Va lv&&!outside mark c.mi c.ma) /\
  (-1<=wdR c mark last sym (Va lv)/\wdR c mark last sym (Va lv)<=c.ma+1/\(0<=sym->Zi sym c.a≠Va lv->wdR c mark last sym (Va lv)=0)):=by
 obtain⟨m1,m2,m3⟩:=hm;have e1:=Eg lv sym c.a;have e2:=Eg lv (Xu last sym) c.a;have b1:=Ec sym c.a;have b2:=Ec (Xu last sym) c.a;have hL:Va lv=0\/Va lv=1:=by cases lv <;> simp[Va]
 unfold Hg wdR tG outside;rw[e1,e2];generalize hx:Zi sym c.a=x at *;generalize hL':Va lv=L at *;by_cases hf:last<0
 ·have hw:Xu last sym=sym:=by unfold Xu;rw[decide_eq_true hf];rfl
  rw[hw,hx] at b2 ⊢;rw[decide_eq_true hf];by_cases hxl:x=L
  ·subst hxl;have e3:(x==1-x)=false:=by rw[beq_eq_false_iff_ne];omega
   simp[e3];omega
  ·have e3:(x==L)=false:=by simpa using hxl
   have e4:(x != L)=true:=by simpa using hxl
   simp[e3,e4];omega
 ·have hw:Xu last sym=last:=by unfold Xu;rw[decide_eq_false hf];rfl
  rw[hw] at b2 ⊢;rw[decide_eq_false hf];generalize hy:Zi last c.a=y at *;by_cases hxl:x=L
  ·subst hxl;by_cases hyl:y=x
   ·subst hyl;have e3:(y==1-y)=false:=by rw[beq_eq_false_iff_ne];omega
    by_cases ux:mark = -1
    ·subst ux;simp[e3];omega
    ·have e5:(mark == -1)=false:=by simpa using ux
     have e6:decide (mark<0)=false:=decide_eq_false J;have k1:0<=min (mark+1) (c.ma+1)/\min (mark+1) (c.ma+1)<=c.ma+1:=J;simp only[e5,e6,cond_false];generalize min (mark+1) (c.ma+1)=w at *;have e7:(w == -1)=false:=by rw[beq_eq_false_iff_ne];omega
     simp[e3,e7];omega
   ·have hm0:=m3 J hyl;subst hm0;have e3:(y==x)=false:=by simpa using hyl
    have e4:(x==1-x)=false:=by rw[beq_eq_false_iff_ne];omega
    have k1:min ((0:Int)+1) (c.ma+1)=1:=J;have e7:((1:Int) == -1)=false:=rfl;have e9:((0:Int) == -1)=false:=rfl;simp only[k1];simp[e3,e4,e7,e9];omega
  ·have e3:(x==L)=false:=by simpa using hxl
   have e4:(x != L)=true:=by simpa using hxl
   have e8:(x==1-L)=true:=by rw[beq_iff_eq];omega
   have e9:(y==L)=(x != y):=by rw[aqI];simp;omega
   rw[e9];by_cases ux:mark = -1
   ·subst ux;have e5:decide (-1<c.mi)=true:=decide_eq_true J;have e6:¬c.ma+1<=c.ma:=J;simp[e3,e4,e8,e5,e6];omega
   ·have e5:(mark == -1)=false:=by simpa using ux
    have e10:(decide (mark>=c.mi)&&decide (mark<=c.ma))=!(decide (mark<c.mi)||decide (mark>c.ma)):=by
     rw[aqI];simp
    simp only[e5,cond_false];rw[Bool.and_assoc,e10];simp[e3,e4,e8];omega
def adE (c:Z0)(last sym:Int):(Xf sym c.a != Xf (Xu last sym) c.a)=tG c last sym:=by
 have b1:=Ec sym c.a;have b2:=Ec (Xu last sym) c.a;unfold Xf tG;rcases b1 with h|h <;> rcases b2 with h'|h' <;> rw[h,h'] <;> rfl
def eT (c:Z0)(h1:1<=c.mi){mark last sym:Int}(hm:0<=mark/\mark<=c.mi+1) :
  NT c mark (Xf sym c.a) (Xf (Xu last sym) c.a) (decide (last<0))=FY .idle c mark last sym/\0<=(FY .idle c mark last sym).1/\(FY .idle c mark last sym).1<=c.mi+1:=by
 unfold NT FY;simp only[adE]
 cases decide (last<0)||tG c last sym with
 |true =>
  have:min ((0:Int)+1) (c.mi+1)=1:=J;simp only[cond_true,this];refine⟨by first|rfl|trivial,J,J⟩
 |false =>
  simp only[cond_false];refine⟨by first|rfl|trivial,J,J⟩
def lM (c:Z0)(h1:1<=c.mi){mark last sym:Int}(hm:0<=mark/\mark<=c.mi) :
  RH c (qC .setup c mark) (Xf sym c.a) (Xf (Xu last sym) c.a) (Xf sym c.b) (Xf (Xu last sym) c.b)=(qC .setup c (FY .setup c mark last sym).1,(FY .setup c mark last sym).2)/\0<=(FY .setup c mark last sym).1/\(FY .setup c mark last sym).1<=c.mi:=by
 have b2:=Ec (Xu last sym) c.b;have hb:(!Xf (Xu last sym) c.b)=(Zi (Xu last sym) c.b==0):=by
  unfold Xf;rcases b2 with h|h <;> rw[h] <;> rfl
 unfold RH FY qC;simp only[adE,hb];have hs:Xf sym c.b=(Zi sym c.b==1):=rfl;rw[hs];generalize (Zi sym c.b==1)=p;generalize (Zi (Xu last sym) c.b==0)=q
 cases tG c last sym with
 |true =>
  have e1:decide ((1:Int)>0)=true:=rfl;have e2:decide ((0:Int)<c.mi)=true:=decide_eq_true J;have e3:((1:Int)==0)=false:=rfl;simp only[cond_true,cond_false,aqB,aqK,e1,e2,e3,Bool.and_true,aqr];refine⟨by first|rfl|trivial,J,J⟩
 |false =>
  simp only[cond_false,aqF,aqr];by_cases h0:mark=0
  ·subst h0;have e1:decide ((0:Int)>0)=false:=rfl;have e2:min (c.mi+1) c.mi=c.mi:=J;have e3:decide (c.mi<c.mi)=false:=decide_eq_false J;have e4:((0:Int)==0)=true:=rfl;simp only[e1,e2,e3,e4,cond_true,cond_false,aqK,Bool.and_false];refine⟨by first|rfl|trivial,J,J⟩
  ·have e1:decide (mark>0)=true:=decide_eq_true J;have e4:(mark==0)=false:=by simpa using h0
   by_cases h2:mark<c.mi
   ·have e2:min (mark-1+1) c.mi=mark:=J;have e3:decide (mark<c.mi)=true:=decide_eq_true h2;have e5:decide (mark+1>0)=true:=decide_eq_true J;have e6:(mark+1==0)=false:=by rw[beq_eq_false_iff_ne];omega
    have e7:mark+1-1=mark:=J;simp only[e1,e2,e3,e4,e5,e6,e7,cond_true,cond_false,aqr,Bool.and_true];refine⟨by first|rfl|trivial,J,J⟩
   ·have e2:min (mark-1+1) c.mi=c.mi:=J;have e3:decide (mark<c.mi)=false:=decide_eq_false h2;have e5:decide ((0:Int)>0)=false:=rfl;have e6:((0:Int)==0)=true:=rfl;have e8:decide (c.mi<c.mi)=false:=decide_eq_false J;simp only[e1,e2,e3,e4,e5,e6,e8,cond_true,cond_false,aqK,Bool.and_false];refine⟨by first|rfl|trivial,J,J⟩
def eS (c:Z0){mark last sym:Int}(hm:0<=mark/\mark<=2/\(0<=last->Zi last c.a=1->mark≠0)) :
  N7 (qC .TC c mark) (Xf sym c.a) (Xf (Xu last sym) c.a) (Xf sym c.b) (decide (last<0))=(qC .TC c (FY .TC c mark last sym).1,(FY .TC c mark last sym).2) /\
  0<=(FY .TC c mark last sym).1/\(FY .TC c mark last sym).1<=2/\(0<=sym->Zi sym c.a=1->(FY .TC c mark last sym).1≠0):=by
 obtain⟨m1,m2,m3⟩:=hm;have b1:=Ec sym c.a;have b2:=Ec (Xu last sym) c.a;have Cq:mark=0\/mark=1\/mark=2:=J;unfold N7 FY qC tG;have hs:Xf sym c.b=(Zi sym c.b==1):=rfl;rw[hs];generalize (Zi sym c.b==1)=q;unfold Xf;by_cases hf:last<0
 ·have hw:Xu last sym=sym:=by unfold Xu;rw[decide_eq_true hf];rfl
  rw[hw,decide_eq_true hf];rcases b1 with h|h <;> rw[h] <;> rcases Cq with rfl|rfl|rfl <;> cases q <;> simp
 ·have hw:Xu last sym=last:=by unfold Xu;rw[decide_eq_false hf];rfl
  rw[hw] at b2 ⊢;rw[decide_eq_false hf];rcases b1 with h|h <;> rw[h] <;> rcases b2 with h'|h' <;> rw[h'] <;> rcases Cq with rfl|rfl|rfl <;> cases q <;> first
   |(exfalso;exact m3 J h' rfl)
   |simp
def eU (c:Z0)(hc:c.wf)(Ow:(Zs c.kind).leaf=true){mark last sym:Int}(hl : -1<=last)(hm:mkI (Zs c.kind) c mark last) :
  Ve sym (Xu last sym) (decide (last<0)) c (qC (Zs c.kind) c mark)=(qC (Zs c.kind) c (FY (Zs c.kind) c mark last sym).1,(FY (Zs c.kind) c mark last sym).2)/\mkI (Zs c.kind) c (FY (Zs c.kind) c mark last sym).1 sym:=by
 have W_:=hc.Lc;have uD:(Yt (Zs c.kind)).mi=true->1<=c.mi:=by
  cases c
  rw[Z0.wf] at hc;exact hc.2.2.2.2.2.2.2.2.2.2.1
 have hss:∀st,(Ve sym (Xu last sym) false c st).2=(Ve (XG [Xu last sym,sym] ((1:Nat):Int)) (VU [Xu last sym,sym] ((1:Nat):Int)) (((1:Nat):Int)==0) c st).2:=λst=>rfl
 have o5:=CD [Xu last sym,sym] c hc Ow 1;have h1:XG [Xu last sym,sym] ((1:Nat):Int)=sym:=rfl;have h2:VU [Xu last sym,sym] ((1:Nat):Int)=Xu last sym:=rfl;rw[h1,h2] at o5;unfold Ve at o5 ⊢
 cases hd:Zs c.kind with
 |UB =>
  rw[hd] at hm uD;obtain⟨e1,e2⟩:=o0 c true (uD rfl) W_.ma.1 hl hm;exact⟨e1,e2⟩
 |gap =>
  rw[hd] at hm uD;obtain⟨e1,e2⟩:=o0 c false (uD rfl) W_.ma.1 hl hm;exact⟨e1,e2⟩
 |idle =>
  rw[hd] at hm uD;exact eT c (uD rfl) hm
 |setup =>
  rw[hd] at hm uD;exact lM c (uD rfl) hm
 |TC =>
  rw[hd] at hm;exact eS c hm
 |Jl=>rw[hd] at Ow;cases Ow
 |nu=>rw[hd] at Ow;cases Ow
 |Gi=>rw[hd] at Ow;cases Ow
 |other=>rw[hd] at Ow;cases Ow
 |_ =>
  rw[hd] at o5 hm;have hms:mark=0:=hm;subst hms;have h3:=congrArg Prod.snd o5;exact⟨Prod.ext rfl h3,rfl⟩
mutual
def KA (last sym:Int):Z0->List Int->Bool×List Int×List Int
 |.mk k a b mi ma p nl kids,ms=>bif Xn k then
   (match Zs k with
    |.Jl=>!(Ms last sym kids ms.tail).1.any id
    |.Gi=>(Ms last sym kids ms.tail).1.any id
    |_=>(Ms last sym kids ms.tail).1.all id,0::(Ms last sym kids ms.tail).2.1,(Ms last sym kids ms.tail).2.2)
  else ((FY (Zs k) (.mk k a b mi ma p nl kids) (ms.headD 0) last sym).2,[(FY (Zs k) (.mk k a b mi ma p nl kids) (ms.headD 0) last sym).1],ms.tail)
def Ms (last sym:Int):List Z0->List Int->List Bool×List Int×List Int
 |[],ms=>([],[],ms)
 |c::l,ms=>((KA last sym c ms).1::(Ms last sym l (KA last sym c ms).2.2).1,(KA last sym c ms).2.1++(Ms last sym l (KA last sym c ms).2.2).2.1,(Ms last sym l (KA last sym c ms).2.2).2.2)
end
mutual
def K7:Z0->List Int->List Int
 |.mk k a b mi ma p nl kids,ms=>bif Xn k then Io kids ms.tail else [qC (Zs k) (.mk k a b mi ma p nl kids) (ms.headD 0)]
def Io:List Z0->List Int->List Int
 |[],_=>[]
 |c::l,ms=>K7 c ms++Io l (ms.drop (leaves c))
end
mutual
def DZ (last:Int):Z0->List Int->Prop
 |.mk k a b mi ma p nl kids,ms=>if Xn k=true then ∃r,ms=0::r/\C' last kids r else ∃m,ms=[m]/\mkI (Zs k) (.mk k a b mi ma p nl kids) m last
def C' (last:Int):List Z0->List Int->Prop
 |[],ms=>ms=[]
 |c::l,ms=>∃u v,ms=u++v/\u.length=leaves c/\DZ last c u/\C' last l v
end
def B7 (now last:Int)(first:Bool):∀(A B:List Z0) (x y:List Int),x.length=A.length->XS now last first (A++B) (x++y)=XS now last first A x++XS now last first B y
 |[],B,[],y,_=>rfl
 |c::A,B,s::x,y,h=>by
  rw[aqk,aqk,XS,XS,B7 now last first A B x y (by simpa using h)];rfl
def IL (now last:Int)(first:Bool):∀(A B:List Z0) (x y:List Int),x.length=A.length->XZ now last first (A++B) (x++y)=XZ now last first A x++XZ now last first B y
 |[],B,[],y,_=>rfl
 |c::A,B,s::x,y,h=>by
  rw[aqk,aqk,XZ,XZ,IL now last first A B x y (by simpa using h)];rfl
structure ahX (last sym:Int)(c:Z0)(ms:List Int):Prop where
 len:(K7 c ms).length=(VE c).length
 run:∀rest,∃is own,KA last sym c (ms++rest)=(is,own,rest)/\DZ sym c own/\own.length=leaves c/\K7 c own=XS sym (Xu last sym) (decide (last<0)) (VE c) (K7 c ms)/\∀H,jd c (XZ sym (Xu last sym) (decide (last<0)) (VE c) (K7 c ms)++H)=is
structure ahY (last sym:Int)(l:List Z0)(ms:List Int):Prop where
 len:(Io l ms).length=(ZL l).length
 run:∀rest,∃bs own,Ms last sym l (ms++rest)=(bs,own,rest)/\C' sym l own/\own.length=Zn l/\Io l own=XS sym (Xu last sym) (decide (last<0)) (ZL l) (Io l ms)/\bs.length=l.length /\
  (∀H s a,oZ l (XZ sym (Xu last sym) (decide (last<0)) (ZL l) (Io l ms)++H) s a=(s||bs.any id,a&&bs.all id))/\∀H,outs l (XZ sym (Xu last sym) (decide (last<0)) (ZL l) (Io l ms)++H)=bs
def K6 {last:Int}(c:Z0):∀(u v:List Int),DZ last c u->K7 c (u++v)=K7 c u:=by
 induction c using Z0.ind with
 |h k a b mi ma p nl kids ih =>
  intro u v h;rw[DZ] at h;rw[K7,K7]
  cases hk:Xn k with
  |true =>
   rw[hk,Of rfl] at h;obtain⟨r,rfl,hr⟩:=h;simp only[cond_true,aqk,List.tail_cons];have key:∀(kids:List Z0) (r v:List Int),(∀x∈kids,∀u v,DZ last x u->K7 x (u++v)=K7 x u)->C' last kids r->Io kids (r++v)=Io kids r:=by
    intro kids
    induction kids with
    |nil=>intro r v _ _;rfl
    |cons x kids ih2 =>
     intro r v hx h;rw[C'] at h;obtain⟨u,w,rfl,hu,h1,h2⟩:=h;rw[Io,Io,aqs,hx x (aba ..) u (w++v) h1,hx x (aba ..) u w h1,<-hu,aqT,aqT,ih2 w v (λy hy=>hx y (aab _ hy)) h2]
   exact key kids r v ih hr
  |false =>
   rw[hk,O3 Mo] at h;obtain⟨m,rfl,_⟩:=h;rfl
def K4 {last sym:Int}:∀(l:List Z0) (ms:List Int),(∀c∈l,∀ms,DZ last c ms->ahX last sym c ms)->C' last l ms->ahY last sym l ms
 |[],ms,_,h=>by
  rw[C'] at h;subst h;refine⟨rfl,λrest=>⟨[],[],rfl,by rw[C'],rfl,rfl,rfl,λH s a=>?_,λH=>rfl⟩⟩;rw[oZ];simp
 |c::l,ms,hc,h=>by
  rw[C'] at h;obtain⟨u,v,rfl,hu,h1,h2⟩:=h;obtain⟨xg,aeA⟩:=hc c (aba ..) u h1;obtain⟨al9,al_⟩:=K4 l v (λx hx=>hc x (aab _ hx)) h2;have hpr:Io (c::l) (u++v)=K7 c u++Io l v:=by
   rw[Io,K6 c u v h1,<-hu,aqT]
  have gV:ZL (c::l)=VE c++ZL l:=by rw[ZL]
  refine⟨by rw[hpr,gV,ann,ann,xg,al9],λrest=>?_⟩;obtain⟨is,own,e1,k1,k2,k3,k4⟩:=aeA (v++rest);obtain⟨bs,aeB,e2,m1,m2,m3,m4,m5,m6⟩:=al_ rest;refine⟨is::bs,own++aeB,?_,?_,?_,?_,by simp[m4],λH s a=>?_,λH=>?_⟩
  ·rw[Ms,aqs,e1];simp only[e2]
  ·rw[C'];exact⟨own,aeB,rfl,k2,k1,m1⟩
  ·rw[ann,k2,m2,Zn]
  ·rw[hpr,gV,B7 _ _ _ _ _ _ _ xg,<-k3,<-m3,Io,K6 c own aeB k1,<-k2,aqT]
  ·rw[hpr,gV,IL _ _ _ _ _ _ _ xg,aqs,oZ,k4];have hd:(XZ sym (Xu last sym) (decide (last<0)) (VE c) (K7 c u)).length=(VE c).length:=PI _ _ _ _ _ xg;rw[<-hd,aqT,m5];simp[Bool.or_assoc,Bool.and_assoc]
  ·rw[hpr,gV,IL _ _ _ _ _ _ _ xg,aqs,outs,k4];have hd:(XZ sym (Xu last sym) (decide (last<0)) (VE c) (K7 c u)).length=(VE c).length:=PI _ _ _ _ _ xg;rw[<-hd,aqT,m6]
def qA {last sym:Int}(hl : -1<=last):∀c:Z0,c.wf->∀ms,DZ last c ms->ahX last sym c ms:=by
 intro c
 induction c using Z0.ind with
 |h k a b mi ma p nl kids ih =>
  intro Ot ms h;have Qp:∀x∈kids,x.wf:=by
   rw[Z0.wf] at Ot;exact Ot.2.2.2.2.2.2.2.2.2.2.2.2
  rw[DZ] at h
  cases hk:Xn k with
  |true =>
   rw[hk,Of rfl] at h;obtain⟨r,rfl,hr⟩:=h;obtain⟨xg,aeA⟩:=K4 kids r (λx hx ms hm=>ih x hx (Qp x hx) ms hm) hr;have e1:K7 (.mk k a b mi ma p nl kids) (0::r)=Io kids r:=by rw[K7,hk];rfl
   have e2:VE (.mk k a b mi ma p nl kids)=ZL kids:=by rw[VE,hk];rfl
   refine⟨by rw[e1,e2,xg],λrest=>?_⟩;obtain⟨bs,own,q1,q2,q3,q4,q5,q6,q7⟩:=aeA rest;refine⟨_,0::own,by rw[KA,hk,cond_true,aqk,List.tail_cons,q1],?_,?_,?_,λH=>?_⟩
   ·rw[DZ,hk,Of rfl];exact⟨own,rfl,q2⟩
   ·rw[leaves];simp[q3]
   ·rw[e1,e2,K7,hk,cond_true,List.tail_cons];exact q4
   ·rw[e1,e2,jd,hk,cond_true,q6]
    cases Zs k <;> simp
  |false =>
   rw[hk,O3 Mo] at h;obtain⟨m,rfl,hm⟩:=h;have Ow:(Zs k).leaf=true:=by
    have:=Ph Ot;rw[hk] at this;have zu:(Zs k).known=true:=by rw[Z0.wf] at Ot;exact Ot.2.2.2.2.2.2.1
    generalize Zs k=d at *
    cases d <;> first|rfl|(simp[Yt] at this;done)|(simp[Kd.known] at zu;done)
   obtain⟨b1,b2⟩:=eU (.mk k a b mi ma p nl kids) Ot Ow (sym:=sym) hl hm;rw[show (Z0.mk k a b mi ma p nl kids).kind=k from rfl] at b1 b2;have e1:∀x,K7 (.mk k a b mi ma p nl kids) [x]=[qC (Zs k) (.mk k a b mi ma p nl kids) x]:=λx=>by rw[K7,hk];rfl
   have e2:VE (.mk k a b mi ma p nl kids)=[.mk k a b mi ma p nl kids]:=by rw[VE,hk];rfl
   have zu:kids=[]:=by
    have:=Ph Ot;rw[hk] at this;rw[Z0.wf] at Ot;exact Ot.2.2.2.2.2.2.2.2.1 this.symm
   refine⟨by rw[e1,e2];rfl,λrest=>⟨_,_,by rw[KA,hk];rfl,?_,?_,?_,λH=>?_⟩⟩
   ·rw[DZ,hk,O3 Mo];exact⟨_,rfl,b2⟩
   ·rw[leaves,zu];rfl
   ·rw[e1,e1,e2,XS,b1];rfl
   ·rw[e1,e2,XZ,b1,jd,hk];rfl
end Go.Am
namespace Go.Am
open Go
def X':List Nat->Nat
 |[]=>1
 |b::bs=>b*X' bs
def Hs:List Nat->List Nat->Nat
 |b::bs,d::ds=>d+b*Hs bs ds
 |_,_=>0
def Uv:List Nat->List Nat->Prop
 |[],[]=>True
 |b::bs,d::ds=>d<b/\Uv bs ds
 |_,_=>False
def Be:∀(bs ds:List Nat),Uv bs ds->Hs bs ds<X' bs
 |[],[],_=>Nat.one_pos
 |b::bs,d::ds,h=>by
  rw[Uv] at h;have:=Be bs ds h.2;rw[Hs,X'];have h2:b*(Hs bs ds+1)<=b*X' bs:=Nat.mul_le_mul_left b this;rw[Nat.mul_add,ap3] at h2;omega
 |[],d::ds,h=>by simp[Uv] at h
 |b::bs,[],h=>by simp[Uv] at h
def Gp:∀(bs ds es:List Nat),Uv bs ds->Uv bs es->Hs bs ds=Hs bs es->ds=es
 |[],[],[],_,_,_=>rfl
 |b::bs,d::ds,x::es,h,h',e=>by
  rw[Uv] at h h';rw[Hs,Hs] at e;have hb:0<b:=J;have e1:d=x:=by
   have:=congrArg (·%b) e;simp only[Nat.add_mul_mod_self_left,Nat.mod_eq_of_lt h.1,Nat.mod_eq_of_lt h'.1] at this;exact this
  subst e1;have e2:Hs bs ds=Hs bs es:=Nat.eq_of_mul_eq_mul_left hb J;rw[Gp bs ds es h.2 h'.2 e2]
 |[],d::ds,_,h,_,_=>by simp[Uv] at h
 |[],[],x::es,_,h,_=>by simp[Uv] at h
 |b::bs,[],_,h,_,_=>by simp[Uv] at h
 |b::bs,d::ds,[],_,h,_=>by simp[Uv] at h
def Gr:∀(bs ds cs es:List Nat),Uv bs ds->Uv cs es->Uv (bs++cs) (ds++es)
 |[],[],_,_,_,h=>h
 |b::bs,d::ds,cs,es,h,h'=>by
  rw[Uv] at h;rw[aqk,aqk,Uv];exact⟨h.1,Gr bs ds cs es h.2 h'⟩
 |[],d::ds,_,_,h,_=>by simp[Uv] at h
 |b::bs,[],_,_,h,_=>by simp[Uv] at h
def Qo:∀(bs cs:List Nat),X' (bs++cs)=X' bs*X' cs
 |[],cs=>by simp[X']
 |b::bs,cs=>by rw[aqk,X',X',Qo bs cs,Nat.mul_assoc]
def UZ:List Step->Nat
 |[]=>0
 |s::S=>s.times.toNat*(s.within.toNat+1)+UZ S
def Q0:List Step->Nat->Nat->Nat->Nat
 |[],_,_,_=>0
 |s::_,0,k,g=>k*(s.within.toNat+1)+g
 |s::S,a+1,k,g=>s.times.toNat*(s.within.toNat+1)+Q0 S a k g
def Hr:List Step->Nat->Nat->Nat->Prop
 |[],_,_,_=>False
 |s::_,0,k,g=>k<s.times.toNat/\g<=s.within.toNat
 |_::S,a+1,k,g=>Hr S a k g
def Po:∀(S:List Step) (a k g:Nat),Hr S a k g->Q0 S a k g<UZ S
 |[],_,_,_,h=>by simp[Hr] at h
 |s::S,0,k,g,h=>by
  rw[Hr] at h;rw[Q0,UZ];have h2:(k+1)*(s.within.toNat+1)<=s.times.toNat*(s.within.toNat+1):=aqC _ h.1;rw[Nat.succ_mul] at h2;omega
 |s::S,a+1,k,g,h=>by
  have:=Po S a k g h;rw[Q0,UZ];omega
def Gn:∀(S:List Step) (a k g a' k' g':Nat),Hr S a k g->Hr S a' k' g'->Q0 S a k g=Q0 S a' k' g'->a=a'/\k=k'/\g=g'
 |[],_,_,_,_,_,_,h,_,_=>by simp[Hr] at h
 |s::S,0,k,g,0,k',g',h,h',e=>by
  rw[Hr] at h h';rw[Q0,Q0] at e;refine⟨rfl,?_⟩;have e1:k=k':=by
   have:=congrArg (· / (s.within.toNat+1)) e;simp only[Nat.mul_comm _ (s.within.toNat+1),Nat.mul_add_div (Nat.succ_pos _),Nat.div_eq_of_lt (show g<s.within.toNat+1 by omega),Nat.div_eq_of_lt (show g'<s.within.toNat+1 by omega),Nat.add_zero] at this;exact this
  subst e1;exact⟨rfl,J⟩
 |s::S,0,k,g,a'+1,k',g',h,h',e=>by
  have:=Po [s] 0 k g h;rw[Q0,Q0] at e;rw[Q0,UZ,UZ] at this;omega
 |s::S,a+1,k,g,0,k',g',h,h',e=>by
  have:=Po [s] 0 k' g' h';rw[Q0,Q0] at e;rw[Q0,UZ,UZ] at this;omega
 |s::S,a+1,k,g,a'+1,k',g',h,h',e=>by
  rw[Q0,Q0] at e;obtain⟨e1,e2⟩:=Gn S a k g a' k' g' h h' J;exact⟨by rw[e1],e2⟩
end Go.Am
namespace Go.Am
open Go
variable [Z8]
variable {S:List Step}{n:Nat}
def Prog.ok.wf {p:Prog}(h:p.ok):∀s∈p.steps,s.cond.wf:=λs hs=>eE h.lines.1 h.lines.2 s.cond 1 (h.cond s hs)
def oI (s:St)(l:List Z0):CRow s (.fz (l.map Zo)) l:=by
 refine⟨by rw[<-Ta,ZN,ala],λi h=>⟨.fp l[i].cells 0,?_,λs' _=>?_⟩,rfl,rfl⟩
 ·have:=Vi 7 false (l.map Zo) .i64 i (Zo l[i]) J (by rw[aqt,aqc,aaa h];rfl) (by rw[ZH];rfl) Mo;rw[Ta,ZH] at this;exact this
 ·rw[ZH];simp only[Z0.cells];simp only[go_sem]
def zZ {l:List Z0}(h:∀c∈l,c.wf)(ZB:l≠[]):ZL l≠[]:=by
 cases l with
 |nil=>exact absurd rfl ZB
 |cons c l =>
  rw[ZL];intro e;exact A_ c (h c (aba ..)) (List.append_eq_nil_iff.1 e).1
def ZD.ET {s:St}{B:Nat}{t:TypeId}{n i:Nat}{cs:List AV}{v:AV}(h:ZD s B t n i cs v)(hi:i≠0):still v=false:=by
 rcases h with⟨h0,_,_⟩|⟨_,_,b,_,_,rfl,_⟩
 ·exact absurd h0 hi
 ·rfl
def abh (p:Prog)(l:List Int):AV :=
 bif pk p != 0 then .XQ [.ZQ,.int .i64 (pk p)] else bif Sl p.lines l != 0 then .XQ [.ZQ,.int .i64 (Sl p.lines l)] else .XQ [ZU true (ints (UL l p.steps)),.int .i64 0]
def o32 {β:Type}{fin:Fl->β}{ZC:β->Prop}(p:Prog)(hf:p.fits)(hL:(ZL (p.steps.map Step.cond)).length<=2^20)(nl:Bool)(l:List Int)(eD:pk p=0)(eC:Sl p.lines l=0)
  (hk:∀e s w B,e.get 4=w->e.get 5=.int .i64 0->ZD s B 3 1 (UL l p.steps).length (ints (UL l p.steps)) w->ZC (fin (some (.ret,e,s)))) :
  ZC (go U fin [] r32 (Zr 0 [XU p,ZU nl (ints l)] .nil) (Ym U)):=by
 have h64:=c64 p hf;have ok:=L8 ((xG p).symm.trans eD);have IY:=ok.lines;have h91:=c91 nl l p.lines IY.1 IY.2;have h98:=c98 p hf.1;rw[eD] at h64;have amK:=eB IY.2 eC;have Ot:=ok.wf;have ZB:0<p.steps.length:=List.length_pos_iff.2 ok.ne;have hCw:∀c∈p.steps.map Step.cond,c.wf:=λc hc=>by
  obtain⟨s,hs,rfl⟩:=ap0.1 hc;exact Ot s hs
 have eA:p.steps.map Step.cond≠[]:=by simpa using ok.ne
 have wU:=zZ hCw eA;rw[VQ eA] at h98;rw[eC] at h91;rw[Ze] at h64 h98 ⊢;simp only[go_sem,r32,h64,h91,h98,ahk];generalize hX:Uf.cells [.int .i64 p.lines,ZU p.nl (Zy p.steps)] 25 false 0 0=X;have hg8:((Ym U).new X).get 8=some X:=by simp only[go_sem]
 have amL:((Ym U).new X).next=9:=by simp only[go_sem]
 obtain⟨s',lv,sv,st,e1,e2,e3,e4,R1,R2,R3⟩:=c92 ((Ym U).new X) (.fz ((p.steps.map Step.cond).map Zo)) (p.steps.map Step.cond) hCw (by rw[ala];have:=ok.few;omega) hL (oI _ _) (Fr.own.new _);rw[amL] at e3 e4 R1 R2 R3;rw[e1];have na1:=R1.Zu;have na2:=R2.Zu;have hc8:=(e4 8 J).trans hg8;simp only[go_sem,na1,na2,ZN,YB];have hsm:∀(z1 z2 z3:Uf) j,j<s'.next->(((s'.new z1).put s'.next z2).new z3).get j=s'.get j:=λz1 z2 z3 j hj=>by rw[Z5,Z_,Z',O3 J,Z7,O3 J,Z5,O3 J]
 have hlz:(ZL (p.steps.map Step.cond)).length≠0:=λe=>wU (aqo.1 e)
 refine l32 (ZC:=ZC) nl l amK p ZB ok.few Ot hL _ s'.next J ?yY (.fz ((p.steps.map Step.cond).map Zo)) lv sv ?hm ?gp ?gm ?ga ?frm (R1.ET hlz) ?hk (iR:=st) ?aa2 ?_ ?_ ?_ ?_ ?_ ?_ ?_ ?_ ?_
 case yY=>rw[Z',Z_,Z']
 case gp=>rw[hsm _ _ _ _ J,hc8,<-hX]
 case gm=>rw[Z5,Z_,Z',O3 J,Z7,Of rfl]
 case ga=>rw[Z5,Z_,Z',Of rfl]
 case frm=>exact ((e2.new _).put O0 _).new _
 case hm =>
  intro s2 TB C0;have K:∀{t:TypeId} {n k:Nat} {cs:List AV} {w:AV},ZD s' 11 t n k cs w->ZD s2 11 t n k cs w:=λh=>h.mono J λj _ hj=>by rw[TB j J,hsm _ _ _ _ hj]
  have f2:=(K R1).Wt U Gh Gg J Qj (d:=38) (λa=>Oh _ _ _);have f3:=(K R2);have f3:ZD s2 11 218 1 ((ZL (p.steps.map Step.cond)).map Xg).length ((ZL (p.steps.map Step.cond)).map Xg) sv:=by rw[ala];exact f3
  have f3:=f3.QV U fT fS (by rw[ap8];intro x hx;obtain⟨y,_,rfl⟩:=ap0.1 hx;exact Nu y) (d:=38) (Cn s2 35 _);rw[Wt,XT,ER,XT,f2,XT,f3,TJ,VQ wU,VQ wU];rfl
 case hk =>
  intro e s v h10 hv;simp only[go_sem,h10];refine hk _ _ v _ ?_ ?_ hv <;> simp only[go_sem]
 case aa2 =>
  intro s2 TB C0;have K:ZD s2 11 3 1 ((ZL (p.steps.map Step.cond)).map Xm).length (ints ((ZL (p.steps.map Step.cond)).map Xm)) st:=by
   rw[ala];exact R3.mono J λj _ hj=>by rw[TB j J,hsm _ _ _ _ hj]
  have f:=K.TQ 38;rw[f,ints,VQ (by simpa using wU)]
 all_goals simp only[go_sem]
 all_goals rfl
def c32 (p:Prog)(hf:p.fits)(hL:(ZL (p.steps.map Step.cond)).length<=2^20)(nl:Bool)(l:List Int):ZE U 18 [XU p,ZU nl (ints l)]=some (abh p l):=by
 refine ZP k32 It (by simp[ZT,YK,YE]) ?_;unfold abh;have h64:=c64 p hf
 cases hw:pk p != 0 with
 |true =>
  rw[Ze] at h64 ⊢;simp only[go_sem,r32,h64,hw]
 |false =>
  have eD:pk p=0:=by simpa using hw
  have ok:=L8 ((xG p).symm.trans eD);have IY:=ok.lines;have h91:=c91 nl l p.lines IY.1 IY.2;rw[eD] at h64
  cases hg:Sl p.lines l != 0 with
  |true =>
   rw[Ze] at h64 ⊢;simp only[go_sem,r32,h64,h91,hg]
  |false =>
   have eC:Sl p.lines l=0:=by simpa using hg
   refine o32 (ZC:=λx=>x=some (AV.XQ [ZU true (ints (UL l p.steps)),.int .i64 0])) p hf hL nl l eD eC λe s w B h4 h5 hv=>?_
   have L9:=hv.TQ 37;simp only[go_sem,h4,h5,L9]
def EP (lines:Int):∀(l:List Step) (i:Nat),KB lines i (l.map Step.norm)=KB lines i l
 |[],_=>rfl
 |s::l,i=>by
  rw[aqe,KB,KB,EP lines l (i+1)];simp only[Step.norm,mg]
def BT (p:Prog):AH p.norm=AH p:=by
 rw[AH,AH,Prog.norm];simp only[ala,EP]
def EO {p:Prog}(h:p.fits):p.norm.fits:=by
 refine⟨by rw[Prog.norm];simp only[ala];exact h.1,λs hs=>?_⟩;rw[Prog.norm] at hs;obtain⟨y,hy,rfl⟩:=ap0.1 hs;exact sY _ (h.2 y hy)
def EN {n:Nat}:∀(l:List Z0),(∀c∈l,(VE c).length<=n)->(ZL l).length<=l.length*n
 |[],_=>by simp[ZL]
 |c::l,h=>by
  have h1:=h c (aba ..);have h2:=EN l λx hx=>h x (aab _ hx)
  rw[ZL,ann,ap1,Nat.succ_mul];omega
def lE (l:List Int)(p:Prog)(h:p.ok):UL l p.norm.steps=su l p.steps:=by
 have hw:∀s∈p.norm.steps,s.cond.wf:=λs hs=>by
  rw[Prog.norm] at hs;obtain⟨y,hy,rfl⟩:=ap0.1 hs;exact pS _ (h.wf y hy)
 rw[Ca l _ hw];rw[show p.norm.steps=p.steps.map Step.norm from rfl,wT];refine wS l p.steps ?_ (List.length_pos_iff.2 h.ne);unfold Wn
 cases hs:p.steps[0]? with
 |none=>simp
 |some s =>
  have:=h.first s hs;simp only[this];omega
structure PN where
 YI:List Int
 cur:pV
 last:Int
 deriving DecidableEq
structure RN where
 marks:List Int
 cur:pV
 last:Int
 deriving DecidableEq
def rmQ (T:Nat->Int)(n:Nat)(h:Nat->Bool)(a:Nat)(k g:Int):pV×Bool :=
 bif !h a then ((a,k,g),false) else bif decide (k+1<T a) then ((a,k+1,g),false) else bif ((a:Int)+1==n) then ((0,0,0),true) else ((a+1,0,0),false)
def rmP (W T:Nat->Int)(n:Nat)(h:Nat->Bool)(a:Nat)(k g:Int):pV×Bool :=
 bif decide (W a>0) then (bif decide (g+1>W a) then rmQ T n h 0 0 0 else rmQ T n h a k (g+1)) else rmQ T n h a k g
def tK {T:Nat->Int}{h:Nat->Bool}{a:Nat}{k g:Int}(ha:a<n):rmQ T n h a k g=DA T n h a k g:=by
 unfold rmQ DA
 cases !h a with
 |true=>rfl
 |false =>
  cases decide (k+1<T a) with
  |true=>rfl
  |false =>
   simp only[cond_false];by_cases he:a+1=n
   ·have e1:((a:Int)+1==n)=true:=by rw[beq_iff_eq];omega
    have e2:decide ((a:Int)+1<n)=false:=decide_eq_false J;rw[e1,e2];rfl
   ·have e1:((a:Int)+1==n)=false:=by rw[beq_eq_false_iff_ne];omega
    have e2:decide ((a:Int)+1<n)=true:=decide_eq_true J;rw[e1,e2];rfl
def ag2 {W T:Nat->Int}{h:Nat->Bool}{a:Nat}{k g:Int}(h0:¬W 0>0)(ha:a<n):rmP W T n h a k g=LL W T n h a k g:=by
 unfold rmP LL
 cases hw:decide (W a>0) with
 |false=>exact tK ha
 |true =>
  have ha0:(a:Int)>0:=by
   have:=of_decide_eq_true hw;rcases Nat.eq_zero_or_pos a with e|e
   ·subst e;exact absurd this h0
   ·omega
  rw[decide_eq_true ha0,aqr,tK (by omega:0<n),tK ha];rfl
def YF (S:List Step)(x:PN)(y:Nat):PN×Bool :=
 let r:=LL (Wn S) (Tm S) S.length (CF (outs (S.map Step.cond) (XZ (y:Int) (Xu x.last y) (decide (x.last<0)) (ZL (S.map Step.cond)) x.YI))) x.cur.1 x.cur.2.1 x.cur.2.2
 (⟨XS (y:Int) (Xu x.last y) (decide (x.last<0)) (ZL (S.map Step.cond)) x.YI,r.1,y⟩,r.2)
def Un (S:List Step)(x:RN)(y:Nat):RN×Bool :=
 let r:=rmP (Wn S) (Tm S) S.length (CF (Ms x.last y (S.map Step.cond) x.marks).1) x.cur.1 x.cur.2.1 x.cur.2.2
 (⟨(Ms x.last y (S.map Step.cond) x.marks).2.1,r.1,y⟩,r.2)
def DM (S:List Step)(x:RN):PN:=⟨Io (S.map Step.cond) x.marks,x.cur,x.last⟩
structure DN (S:List Step)(c:pV):Prop where
 a:c.1<S.length
 k:0<=c.2.1/\c.2.1<Tm S c.1
 g:0<=c.2.2/\c.2.2<=Wn S c.1
structure K5 (S:List Step)(m:Nat)(x:RN):Prop where
 last : -1<=x.last/\x.last<m
 marks:C' x.last (S.map Step.cond) x.marks
 cur:DN S x.cur
structure Yu (S:List Step):Prop where
 ne:0<S.length
 wf:∀s∈S,s.cond.wf
 tm:∀s∈S,1<=s.times/\s.times<=64
 wi:∀s∈S,0<=s.within/\s.within<=255
 w0:Wn S 0=0
def Yu.tmA (h:Yu S){a:Nat}(ha:a<S.length):1<=Tm S a:=by rw[yC ha];exact (h.tm _ (adm ha)).1
def Yu.wiA (h:Yu S){a:Nat}(ha:a<S.length):0<=Wn S a:=by rw[pU ha];exact (h.wi _ (adm ha)).1
def Yu.jf (h:Yu S):∀c∈S.map Step.cond,c.wf:=λc hc=>by
 obtain⟨s,hs,rfl⟩:=ap0.1 hc;exact h.wf s hs
def F1 (h:Yu S){H:Nat->Bool}{a:Nat}{k g:Int}(hc:DN S (a,k,g)):DN S (DA (Tm S) S.length H a k g).1:=by
 unfold DA;have h0:DN S (0,0,0):=⟨h.ne,⟨Int.le_refl _,by have:=h.tmA h.ne;show (0:Int)<Tm S 0;omega⟩,Int.le_refl _,h.wiA h.ne⟩
 cases !H a with
 |true=>exact hc
 |false =>
  cases hk:decide (k+1<Tm S a) with
  |true=>exact⟨hc.a,⟨by have:=hc.k.1;show (0:Int)<=k+1;have:(0:Int)<=k:=this;omega,of_decide_eq_true hk⟩,hc.g⟩
  |false =>
   cases hn:decide ((a:Int)+1<S.length) with
   |true =>
    have hn:=of_decide_eq_true hn;have ha:a+1<S.length:=J;exact⟨ha,⟨Int.le_refl _,by have:=h.tmA ha;show (0:Int)<Tm S (a+1);omega⟩,Int.le_refl _,h.wiA ha⟩
   |false=>exact h0
def gG (h:Yu S){H:Nat->Bool}{a:Nat}{k g:Int}(hc:DN S (a,k,g)):DN S (LL (Wn S) (Tm S) S.length H a k g).1:=by
 unfold LL;have h0:DN S (0,0,0):=⟨h.ne,⟨Int.le_refl _,by have:=h.tmA h.ne;show (0:Int)<Tm S 0;omega⟩,Int.le_refl _,h.wiA h.ne⟩
 cases hw:decide (Wn S a>0) with
 |false=>exact F1 h hc
 |true =>
  cases hq:decide ((a:Int)>0)&&decide (g+1>Wn S a) with
  |true=>exact F1 h h0
  |false =>
   have ha0:a≠0:=λe=>by
    subst e;have:=of_decide_eq_true hw;rw[h.w0] at this;exact absurd this Mo
   rw[decide_eq_true (show (a:Int)>0 by omega),aqr] at hq;have hq:=of_decide_eq_false hq;have hg:(0:Int)<=g:=hc.g.1;exact F1 h ⟨hc.a,hc.k,by show (0:Int)<=g+1;omega,by show g+1<=Wn S a;omega⟩
def Qa (h:Yu S){m:Nat}{x:RN}(hx:K5 S m x){y:Nat}(hy:y<m) :
  DM S (Un S x y).1=(YF S (DM S x) y).1/\(Un S x y).2=(YF S (DM S x) y).2/\K5 S m (Un S x y).1:=by
 have hb:=K4 (last:=x.last) (sym:=(y:Int)) (S.map Step.cond) x.marks (λc hc ms hm=>qA hx.last.1 c (h.jf c hc) ms hm) hx.marks;obtain⟨len,run⟩:=hb;obtain⟨bs,own,e1,e2,e3,e4,e5,e6,e7⟩:=run [];rw[aqw] at e1;have e7:=e7 [];rw[aqw] at e7;obtain⟨marks,⟨a,k,g⟩,last⟩:=x;have hW:¬Wn S 0>0:=by rw[h.w0];decide
 have hm:=ag2 (T:=Tm S) (n:=S.length) (h:=CF bs) (k:=k) (g:=g) hW hx.cur.a;simp only at e1 e4 e7 hm;unfold Un YF DM;simp only[e1,e7,hm,e4];refine⟨trivial,trivial,⟨⟨by show (-1:Int)<=(y:Int);omega,by show (y:Int)<m;omega⟩,e2,gG h hx.cur⟩⟩
def je (S:List Step):RN:=⟨List.replicate (Zn (S.map Step.cond)) 0,(0,0,0),-1⟩
def AZ (S:List Step):PN:=⟨(ZL (S.map Step.cond)).map Xm,(0,0,0),-1⟩
def AJ:∀(l:List Z0),(∀c∈l,DZ (-1) c (List.replicate (leaves c) 0)/\K7 c (List.replicate (leaves c) 0)=(VE c).map Xm) ->
  C' (-1) l (List.replicate (Zn l) 0)/\Io l (List.replicate (Zn l) 0)=(ZL l).map Xm
 |[],_=>⟨by rw[C',Zn];rfl,by rw[Io,ZL];rfl⟩
 |c::l,h=>by
  obtain⟨h1,h2⟩:=h c (aba ..);obtain⟨k1,k2⟩:=AJ l λx hx=>h x (aab _ hx)
  have e:List.replicate (Zn (c::l)) (0:Int)=List.replicate (leaves c) 0++List.replicate (Zn l) 0:=by
   rw[Zn,List.replicate_append_replicate]
  refine⟨?_,?_⟩
  ·rw[C',e];exact⟨_,_,rfl,by simp,h1,k1⟩
  ·have hd:(List.replicate (leaves c) (0:Int)++List.replicate (Zn l) 0).drop (leaves c)=List.replicate (Zn l) 0:=by
    have:=aqT (l₁:=List.replicate (leaves c) (0:Int)) (l₂:=List.replicate (Zn l) 0)
    rwa [List.length_replicate] at this
   rw[Io,e,K6 c _ _ h1,hd,h2,k2,ZL,aqf]
def aaD:∀c:Z0,c.wf->DZ (-1) c (List.replicate (leaves c) 0)/\K7 c (List.replicate (leaves c) 0)=(VE c).map Xm:=by
 intro c
 induction c using Z0.ind with
 |h k a b mi ma p nl kids ih =>
  intro Ot;have W_:=Ot.Lc;have Ht:=Ot;rw[Z0.wf] at Ht;have Qp:∀x∈kids,x.wf:=Ht.2.2.2.2.2.2.2.2.2.2.2.2;have e:List.replicate (leaves (.mk k a b mi ma p nl kids)) (0:Int)=0::List.replicate (Zn kids) 0:=by rw[leaves];rfl
  cases hk:Xn k with
  |true =>
   obtain⟨k1,k2⟩:=AJ kids λx hx=>ih x hx (Qp x hx)
   rw[e,DZ,K7,VE,hk,Of rfl];exact⟨⟨_,rfl,k1⟩,k2⟩
  |false =>
   have zu:kids=[]:=by
    have:=Ph Ot;rw[hk] at this;exact Ht.2.2.2.2.2.2.2.2.1 this.symm
   have e2:List.replicate (Zn kids) (0:Int)=[]:=by rw[zu,Zn];rfl
   rw[e,e2,DZ,K7,VE,hk,O3 Mo];refine⟨⟨0,rfl,mV _ _ W_.mi.1 W_.ma.1⟩,?_⟩;have:=mU (.mk k a b mi ma p nl kids);simp only[cond_false,List.headD_cons,aqe,List.map_nil];rw[<-this];rfl
def P_ (h:Yu S){m:Nat}:DM S (je S)=AZ S/\K5 S m (je S):=by
 obtain⟨k1,k2⟩:=AJ (S.map Step.cond) λc hc=>aaD c (h.jf c hc)
 refine⟨?_,⟨⟨Int.le_refl _,?_⟩,k1,⟨h.ne,⟨Int.le_refl _,?_⟩,Int.le_refl _,h.wiA h.ne⟩⟩⟩
 ·unfold DM je AZ;simp only[k2]
 ·show (-1:Int)<m;omega
 ·have:=h.tmA h.ne;show (0:Int)<Tm S 0;omega
def ajG (x:RN):AV:=.agg [.int .i64 x.last,.fz (ints x.marks),.int .i64 x.cur.1,.int .i64 x.cur.2.1,.int .i64 x.cur.2.2]
def VX (c:Z0):Nat:=(WA (Zs c.kind) c).toNat
def dgM (d:Kd)(m:Int):Nat:=match d with
 |.UB|.gap=>(m+1).toNat
 |_=>m.toNat
mutual
def uj:Z0->List Nat
 |.mk k a b mi ma p nl kids=>bif Xn k then 1::Hu kids else [VX (.mk k a b mi ma p nl kids)]
def Hu:List Z0->List Nat
 |[]=>[]
 |c::l=>uj c++Hu l
end
mutual
def My:Z0->List Int->List Nat
 |.mk k a b mi ma p nl kids,ms=>bif Xn k then 0::Pp kids ms.tail else [dgM (Zs k) (ms.headD 0)]
def Pp:List Z0->List Int->List Nat
 |[],_=>[]
 |c::l,ms=>My c ms++Pp l (ms.drop (leaves c))
end
def qD {c:Z0}(hc:c.wf):(VX c:Int)=match Zs c.kind with
  |.UB|.gap=>c.ma+3
  |.idle|.setup=>c.mi+2
  |.TC=>4
  |_=>1:=by
 have h:=hc.Lc;have h1:=h.mi;have h2:=h.ma;unfold VX WA
 cases Zs c.kind <;> simp only
 all_goals try rw[wrap_i64 J J]
 all_goals omega
def iJ {c:Z0}(hc:c.wf){m last:Int}(h:mkI (Zs c.kind) c m last):dgM (Zs c.kind) m<VX c/\0<=qC (Zs c.kind) c m/\(qC (Zs c.kind) c m).toNat<VX c:=by
 have hv:=qD hc;have hs:=hc.Lc;have h1:=hs.mi;have h2:=hs.ma;generalize VX c=z at *
 cases hd:Zs c.kind <;> rw[hd] at h hv <;> simp only[mkI,dgM,qC] at h hv ⊢
 case UB =>
  obtain⟨q1,q2,_⟩:=h;by_cases e:m = -1
  ·subst e;refine⟨J,?_,?_⟩ <;> simp <;> omega
  ·have e':(m == -1)=false:=by simpa using e
   rw[e',cond_false];omega
 case gap =>
  obtain⟨q1,q2,_⟩:=h;by_cases e:m = -1
  ·subst e;refine⟨J,?_,?_⟩ <;> simp <;> omega
  ·have e':(m == -1)=false:=by simpa using e
   rw[e',cond_false];omega
 case setup =>
  by_cases e:m=0
  ·subst e;refine⟨J,?_,?_⟩ <;> simp <;> omega
  ·have e':(m==0)=false:=by simpa using e
   rw[e',cond_false];omega
 case TC =>
  obtain⟨q1,q2,_⟩:=h;have:m=0\/m=1\/m=2:=J;rcases this with rfl|rfl|rfl <;> simp <;> omega
 all_goals omega
def aan {d:Kd}{c:Z0}{m m' last OS:Int}(h:mkI d c m last)(h':mkI d c m' OS)(e:dgM d m=dgM d m'):m=m':=by
 cases d <;> simp only[mkI,dgM] at h h' e <;> omega
structure agE (last:Int)(c:Z0)(ms:List Int):Prop where
 Zd:Uv (uj c) (My c ms)
 app:∀v,My c (ms++v)=My c ms
 YI:Uv ((VE c).map VX) ((K7 c ms).map Int.toNat)
 pos:∀x∈K7 c ms,0<=x
structure agF (last:Int)(l:List Z0)(ms:List Int):Prop where
 Zd:Uv (Hu l) (Pp l ms)
 app:∀v,Pp l (ms++v)=Pp l ms
 YI:Uv ((ZL l).map VX) ((Io l ms).map Int.toNat)
 pos:∀x∈Io l ms,0<=x
def M_ {last:Int}:∀(l:List Z0) (ms:List Int),(∀c∈l,∀ms,DZ last c ms->agE last c ms)->C' last l ms->agF last l ms
 |[],ms,_,h=>⟨by rw[Hu,Pp];trivial,λv=>by rw[Pp,Pp],by rw[ZL,Io];trivial,λx hx=>by rw[Io] at hx;simp at hx⟩
 |c::l,ms,hc,h=>by
  rw[C'] at h;obtain⟨u,v,rfl,hu,h1,h2⟩:=h;obtain⟨a1,a2,a3,a4⟩:=hc c (aba ..) u h1;obtain⟨b1,b2,b3,b4⟩:=M_ l v (λx hx=>hc x (aab _ hx)) h2;refine⟨?_,λw=>?_,?_,λx hx=>?_⟩
  ·rw[Hu,Pp,a2,<-hu,aqT];exact Gr _ _ _ _ a1 b1
  ·rw[Pp,Pp,aqs,a2,a2,<-hu,aqT,aqT,b2]
  ·rw[ZL,Io,K6 c u v h1,<-hu,aqT,aqf,aqf];exact Gr _ _ _ _ a3 b3
  ·rw[Io,K6 c u v h1,<-hu,aqT] at hx;rcases aqm.1 hx with hx|hx
   ·exact a4 x hx
   ·exact b4 x hx
def M9 {last:Int}:∀c:Z0,c.wf->∀ms,DZ last c ms->agE last c ms:=by
 intro c
 induction c using Z0.ind with
 |h k a b mi ma p nl kids ih =>
  intro Ot ms h;have Ht:=Ot;rw[Z0.wf] at Ht;have Qp:∀x∈kids,x.wf:=Ht.2.2.2.2.2.2.2.2.2.2.2.2;rw[DZ] at h
  cases hk:Xn k with
  |true =>
   rw[hk,Of rfl] at h;obtain⟨r,rfl,hr⟩:=h;obtain⟨a1,a2,a3,a4⟩:=M_ kids r (λx hx ms hm=>ih x hx (Qp x hx) ms hm) hr;refine⟨?_,λv=>?_,?_,λx hx=>?_⟩
   ·rw[uj,My,hk];exact⟨Nat.one_pos,a1⟩
   ·rw[My,My,hk];simp only[cond_true,aqk,List.tail_cons,a2]
   ·rw[VE,K7,hk];exact a3
   ·rw[K7,hk] at hx;exact a4 x hx
  |false =>
   rw[hk,O3 Mo] at h;obtain⟨m,rfl,hm⟩:=h;obtain⟨d1,d2,d3⟩:=iJ Ot hm;refine⟨?_,λv=>?_,?_,λx hx=>?_⟩
   ·rw[uj,My,hk];exact⟨d1,trivial⟩
   ·rw[My,My,hk];rfl
   ·rw[VE,K7,hk];exact⟨d3,trivial⟩
   ·rw[K7,hk] at hx;rw[apY.1 hx];exact d2
def Gq {last OS:Int}:∀(l:List Z0) (ms ns:List Int),(∀c∈l,∀ms ns,DZ last c ms->DZ OS c ns->My c ms=My c ns->ms=ns)->(∀c∈l,c.wf)->C' last l ms->C' OS l ns->Pp l ms=Pp l ns->ms=ns
 |[],ms,ns,_,_,h,h',_=>by rw[C'] at h h';rw[h,h']
 |c::l,ms,ns,hc,hw,h,h',e=>by
  rw[C'] at h h';obtain⟨u,v,rfl,hu,h1,h2⟩:=h;obtain⟨u',v',rfl,ui,h1',h2'⟩:=h';have d1:=M9 c (hw c (aba ..)) u h1;have d2:=M9 c (hw c (aba ..)) u' h1';have hl:∀(bs ds es:List Nat),Uv bs ds->Uv bs es->ds.length=es.length:=by
   intro bs
   induction bs with
   |nil=>intro ds es h h';cases ds <;> cases es <;> simp_all [Uv]
   |cons b bs ih=>intro ds es h h';cases ds <;> cases es <;> simp_all [Uv];exact ih _ _ h.2 h'.2
  rw[Pp,Pp,d1.app,d2.app] at e;have hlen:=hl _ _ _ d1.Zd d2.Zd;obtain⟨e1,e2⟩:=List.append_inj e hlen;have x1:(u++v).drop (leaves c)=v:=by rw[<-hu,aqT]
  have x2:(u'++v').drop (leaves c)=v':=by rw[<-ui,aqT]
  rw[x1,x2] at e2;rw[hc c (aba ..) u u' h1 h1' e1,Gq l v v' (λx hx=>hc x (aab _ hx)) (λx hx=>hw x (aab _ hx)) h2 h2' e2]
def iH {last OS:Int}:∀c:Z0,c.wf->∀ms ns,DZ last c ms->DZ OS c ns->My c ms=My c ns->ms=ns:=by
 intro c
 induction c using Z0.ind with
 |h k a b mi ma p nl kids ih =>
  intro Ot ms ns h h' e;have Ht:=Ot;rw[Z0.wf] at Ht;have Qp:∀x∈kids,x.wf:=Ht.2.2.2.2.2.2.2.2.2.2.2.2;rw[DZ] at h h';rw[My,My] at e
  cases hk:Xn k with
  |true =>
   rw[hk,Of rfl] at h h';rw[hk,cond_true,cond_true] at e;obtain⟨r,rfl,hr⟩:=h;obtain⟨r',rfl,T8⟩:=h';simp only[List.tail_cons,List.cons.injEq,true_and] at e;rw[Gq kids r r' (λx hx ms ns=>ih x hx (Qp x hx) ms ns) Qp hr T8 e]
  |false =>
   rw[hk,O3 Mo] at h h';rw[hk,cond_false,cond_false] at e;obtain⟨m,rfl,hm⟩:=h;obtain⟨m',rfl,hm'⟩:=h';simp only[List.headD_cons,List.cons.injEq,and_true] at e;rw[aan hm hm' e]
def Jp:∀(l:List Z0),(∀c∈l,X' (uj c)=X' ((VE c).map VX))->X' (Hu l)=X' ((ZL l).map VX)
 |[],_=>by rw[Hu,ZL];rfl
 |c::l,h=>by
  rw[Hu,ZL,aqf,Qo,Qo,h c (aba ..),Jp l λx hx=>h x (aab _ hx)]
def nE:∀c:Z0,X' (uj c)=X' ((VE c).map VX):=by
 intro c
 induction c using Z0.ind with
 |h k a b mi ma p nl kids ih =>
  rw[uj,VE]
  cases Xn k with
  |true=>rw[cond_true,cond_true,X',aqP];exact Jp kids ih
  |false=>rfl
def VD (S:List Step)(m:Nat):Nat:=(m+1)*(UZ S*X' ((ZL (S.map Step.cond)).map VX))
def iG (S:List Step)(m:Nat)(x:RN):Nat:=Hs ((m+1)::UZ S::Hu (S.map Step.cond)) ((x.last+1).toNat::Q0 S x.cur.1 x.cur.2.1.toNat x.cur.2.2.toNat::Pp (S.map Step.cond) x.marks)
def nD (S:List Step)(m:Nat)(x:PN):Nat:=Hs ((m+1)::UZ S::(ZL (S.map Step.cond)).map VX) ((x.last+1).toNat::Q0 S x.cur.1 x.cur.2.1.toNat x.cur.2.2.toNat::x.YI.map Int.toNat)
def QY :∀{a:Nat} {k g:Int},DN S (a,k,g)->Hr S a k.toNat g.toNat:=by
 have key:∀(S:List Step) (a k g:Nat),a<S.length->(k:Int)<Tm S a->(g:Int)<=Wn S a->Hr S a k g:=by
  intro S
  induction S with
  |nil=>intro a k g h;simp at h
  |cons s S ih =>
   intro a k g h1 h2 h3
   cases a with
   |zero =>
    have e1:Tm (s::S) 0=s.times:=rfl;have e2:Wn (s::S) 0=s.within:=rfl;rw[e1] at h2;rw[e2] at h3;rw[Hr];omega
   |succ a =>
    have e1:Tm (s::S) (a+1)=Tm S a:=rfl;have e2:Wn (s::S) (a+1)=Wn S a:=rfl;rw[e1] at h2;rw[e2] at h3;rw[Hr];exact ih a k g (by simpa using h1) h2 h3
 intro a k g h;have h1:=h.k;have h2:=h.g;simp only at h1 h2;exact key S a _ _ h.a J J
def qB (h:Yu S){m:Nat}{x:RN}(hx:K5 S m x):iG S m x<VD S m:=by
 obtain⟨marks,⟨a,k,g⟩,last⟩:=x;have d:=M_ (last:=last) (S.map Step.cond) marks (λc hc ms hm=>M9 c (h.jf c hc) ms hm) hx.marks;have hl:=hx.last;simp only at hl;have:=Be ((m+1)::UZ S::Hu (S.map Step.cond)) ((last+1).toNat::Q0 S a k.toNat g.toNat::Pp (S.map Step.cond) marks) ⟨J,Po S a _ _ (QY hx.cur),d.Zd⟩;unfold VD;rw[X',X',Jp _ λc _=>nE c] at this;exact this
def zi (h:Yu S){m:Nat}{x y:RN}(hx:K5 S m x)(hy:K5 S m y)(e:iG S m x=iG S m y):x=y:=by
 obtain⟨marks,⟨a,k,g⟩,last⟩:=x;obtain⟨uh,⟨a',k',g'⟩,OS⟩:=y;have d:=M_ (last:=last) (S.map Step.cond) marks (λc hc ms hm=>M9 c (h.jf c hc) ms hm) hx.marks;have d':=M_ (last:=OS) (S.map Step.cond) uh (λc hc ms hm=>M9 c (h.jf c hc) ms hm) hy.marks;have hl:=hx.last;have DY:=hy.last;simp only at hl DY;have he:=Gp _ _ _ (show Uv ((m+1)::UZ S::Hu (S.map Step.cond)) ((last+1).toNat::Q0 S a k.toNat g.toNat::Pp (S.map Step.cond) marks) from⟨J,Po S a _ _ (QY hx.cur),d.Zd⟩)
  (show Uv ((m+1)::UZ S::Hu (S.map Step.cond)) ((OS+1).toNat::Q0 S a' k'.toNat g'.toNat::Pp (S.map Step.cond) uh) from⟨J,Po S a' _ _ (QY hy.cur),d'.Zd⟩) e
 simp only[List.cons.injEq] at he;obtain⟨e1,e2,e3⟩:=he;obtain⟨f1,f2,f3⟩:=Gn S _ _ _ _ _ _ (QY hx.cur) (QY hy.cur) e2;have k1:=hx.cur.k.1;have k2:=hy.cur.k.1;have g1:=hx.cur.g.1;have g2:=hy.cur.g.1;simp only at k1 k2 g1 g2;have e4:=Gq (S.map Step.cond) marks uh (λc hc ms ns=>iH c (h.jf c hc) ms ns) h.jf hx.marks hy.marks e3;subst f1;subst e4;have:last=OS:=J;subst this;have:k=k':=J;subst this;have:g=g':=J;subst this;rfl
def QF (S:List Step)(m:Nat)(x:PN):Prop:=∃r,K5 S m r/\DM S r=x
def QF.Zd (h:Yu S){m:Nat}{x:PN}(hx:QF S m x):(Uv ((m+1)::UZ S::(ZL (S.map Step.cond)).map VX) ((x.last+1).toNat::Q0 S x.cur.1 x.cur.2.1.toNat x.cur.2.2.toNat::x.YI.map Int.toNat))/\(-1<=x.last/\x.last<m)/\DN S x.cur/\(∀s∈x.YI,0<=s)/\x.YI.length=(ZL (S.map Step.cond)).length:=by
 obtain⟨⟨marks,⟨a,k,g⟩,last⟩,hr,rfl⟩:=hx;have d:=M_ (last:=last) (S.map Step.cond) marks (λc hc ms hm=>M9 c (h.jf c hc) ms hm) hr.marks;have w:=K4 (last:=last) (sym:=0) (S.map Step.cond) marks (λc hc ms hm=>qA hr.last.1 c (h.jf c hc) ms hm) hr.marks;have hl:=hr.last;simp only at hl;exact⟨⟨by show (last+1).toNat<m+1;omega,Po S a _ _ (QY hr.cur),d.YI⟩,hl,hr.cur,d.pos,w.len⟩
def Bd (h:Yu S){m:Nat}{x:PN}(hx:QF S m x):nD S m x<VD S m:=by
 have:=Be _ _ (hx.Zd h).1;rw[X',X'] at this;exact this
def toNat_inj:∀{a b:List Int},(∀x∈a,0<=x)->(∀x∈b,0<=x)->a.map Int.toNat=b.map Int.toNat->a=b
 |[],[],_,_,_=>rfl
 |x::a,y::b,h,h',e=>by
  simp only[aqe,List.cons.injEq] at e;have h1:=h x (aba ..);have h2:=h' y (aba ..);rw[toNat_inj (λz hz=>h z (aab _ hz)) (λz hz=>h' z (aab _ hz)) e.2,show x=y by omega]
 |[],y::b,_,_,e=>by simp at e
 |x::a,[],_,_,e=>by simp at e
def Gl (h:Yu S){m:Nat}{x y:PN}(hx:QF S m x)(hy:QF S m y)(e:nD S m x=nD S m y):x=y:=by
 obtain⟨u1,l1,c1,p1,_⟩:=hx.Zd h;obtain⟨u2,l2,c2,p2,_⟩:=hy.Zd h;have he:=Gp _ _ _ u1 u2 e;obtain⟨YI,⟨a,k,g⟩,last⟩:=x;obtain⟨apu,⟨a',k',g'⟩,OS⟩:=y;simp only[List.cons.injEq] at he l1 l2 p1 p2;obtain⟨e1,e2,e3⟩:=he;obtain⟨f1,f2,f3⟩:=Gn S _ _ _ _ _ _ (QY c1) (QY c2) e2;have k1:=c1.k.1;have k2:=c2.k.1;have g1:=c1.g.1;have g2:=c2.g.1;simp only at k1 k2 g1 g2;have e4:=toNat_inj p1 p2 e3;subst f1;subst e4;have:last=OS:=J;subst this;have:k=k':=J;subst this;have:g=g':=J;subst this;rfl
end Go.Am
namespace Go.Am
open Go
variable [Z8]
variable {s:St}{v:AV}
def og {f:FuncId}{rs:List ResultVar}{r:RC}(h:Zm f=some (rs,r)){args:List AV}{x:AV×St}(hg:go U (Us U rs) [] r (Zr 0 args .nil) s=some x):ND U (X0 U) f args s=some x:=by
 obtain⟨fn,c,f1,f2,f3,f4⟩:=PG h;exact NA U f1 f2 f3 f4 hg
def MkV (s:St)(bM:Nat)(l:List Int)(v:AV):Prop:=v=.fz (ints l)\/(v=.sl bM 0 l.length (some l.length) 1/\s.get bM=some (.cells (ints l) 3 false 0 0))
def MkV.keep {s s':St}{bM:Nat}{l:List Int}(h:MkV s bM l v)(hg:s'.get bM=s.get bM):MkV s' bM l v:=by
 rcases h with h|⟨h1,h2⟩
 ·exact .inl h
 ·exact .inr ⟨h1,by rw[hg];exact h2⟩
def bQ (x:RN)(v:AV):List AV:=[.int .i64 x.last,v,.int .i64 x.cur.1,.int .i64 x.cur.2.1,.int .i64 x.cur.2.2]
def MkV.Ya {bM:Nat}{x:RN}(h:MkV s bM x.marks v)(d:Nat):Go.Am.Ya U s (d+4) (.agg (bQ x v))=some (ajG x):=by
 have e:Go.Am.Ya U s (d+3) v=some (.fz (ints x.marks)):=by
  rcases h with rfl|⟨rfl,hg⟩
  ·rw[ER]
  ·exact J0 (d:=d+1) (cap:=some x.marks.length) hg
 have hm:YS (Go.Am.Ya U s (d+3)) (bQ x v)=some [.int .i64 x.last,.fz (ints x.marks),.int .i64 x.cur.1,.int .i64 x.cur.2.1,.int .i64 x.cur.2.2]:=by
  unfold bQ;simp only[YS,e];rfl
 rw[Wt,hm];rfl
end Go.Am
namespace Go.Am
open Go
section
variable {S:Type} [DecidableEq S]
def Wm:List S->S->Nat
 |[],_=>0
 |x::l,c=>if x=c then 0 else Wm l c+1
def MF:∀(l:List S) (c:S),Wm l c<l.length<->c∈l
 |[],c=>by simp[Wm]
 |x::l,c=>by
  have:=MF l c;rw[Wm,ap1,ap9];by_cases h:x=c
  ·rw[Of h];exact⟨λ_=>.inl h.symm,λ_=>J⟩
  ·rw[O3 h]
   constructor
   ·intro h2;exact .inr (this.1 J)
   ·rintro (h2|h2)
    ·exact absurd h2.symm h
    ·have:=this.2 h2;omega
def vy (c:S):∀(L R:List S),c∈L->Wm (L++R) c=Wm L c
 |[],R,h=>by simp at h
 |x::L,R,h=>by
  rw[aqk,Wm,Wm];by_cases hx:x=c
  ·rw[Of hx,Of hx]
  ·rw[O3 hx,O3 hx,vy c L R (by
    rcases ap9.1 h with h|h
    ·exact absurd h.symm hx
    ·exact h)]
def vu (c:S):∀(L:List S),c∉L->Wm (L++[c]) c=L.length
 |[],_=>by simp[Wm]
 |x::L,h=>by
  rw[aqk,Wm,O3 (λe=>h (by rw[e];exact aba ..)),vu c L λh2=>h (aab _ h2)];rfl
def zF (c:S):∀(L:List S),c∉L->Wm L c=L.length
 |[],_=>rfl
 |x::L,h=>by
  rw[Wm,O3 (λe=>h (by rw[e];exact aba ..)),zF c L λh2=>h (aab _ h2)];rfl
def Gw:∀{l:List S} {c:S},c∈l->l[Wm l c]? = some c
 |[],c,h=>by simp at h
 |x::l,c,h=>by
  rw[Wm];by_cases hx:x=c
  ·rw[Of hx,hx];rfl
  ·rw[O3 hx,aqv];exact Gw (by
    rcases ap9.1 h with h|h
    ·exact absurd h.symm hx
    ·exact h)
def Ry (L:List S)(z:S):List S:=if z∈L then L else L++[z]
def FM (L:List S)(z:S):∃R,Ry L z=L++R:=by
 unfold Ry;by_cases h:z∈L
 ·exact⟨[],by rw[Of h,aqw]⟩
 ·exact⟨[z],by rw[O3 h]⟩
def vw (L:List S)(z:S):z∈Ry L z:=by
 unfold Ry;by_cases h:z∈L
 ·rw[Of h];exact h
 ·rw[O3 h];exact List.mem_append_right _ (apY.2 rfl)
def nV {L:List S}{z c:S}(h:c∈Ry L z):c∈L\/c=z:=by
 unfold Ry at h;by_cases hz:z∈L
 ·rw[Of hz] at h;exact .inl h
 ·rw[O3 hz] at h;rcases aqm.1 h with h|h
  ·exact .inl h
  ·exact .inr (apY.1 h)
def acO {L:List S}(h:L.Nodup)(z:S):(Ry L z).Nodup:=by
 unfold Ry;by_cases hz:z∈L
 ·rw[Of hz];exact h
 ·rw[O3 hz];rw[List.nodup_append];refine⟨h,by simp,λa ha b hb=>?_⟩;rw[apY.1 hb];rintro rfl;exact hz ha
def TR (g:Nat->S):Nat->Nat->List S->List S
 |0,_,L=>L
 |r+1,y,L=>TR g r (y+1) (Ry L (g y))
def Oa (nx:S->Nat->S)(m:Nat):Nat->Nat->List S->List S
 |0,_,L=>L
 |f+1,i,L=>match L[i]? with
  |none=>L
  |some x=>Oa nx m f (i+1) (TR (nx x) m 0 L)
def D6 {Inv:S->Prop}{g:Nat->S}:∀(r y:Nat) (L:List S),(∀z,y<=z->z<y+r->Inv (g z))->L.Nodup->(∀x∈L,Inv x) ->
  (∃R,TR g r y L=L++R)/\(TR g r y L).Nodup/\(∀x∈TR g r y L,Inv x)/\∀z,y<=z->z<y+r->g z∈TR g r y L
 |0,y,L,_,h1,h2=>⟨⟨[],(aqw L).symm⟩,h1,h2,λz a b=>J⟩
 |r+1,y,L,hg,h1,h2=>by
  obtain⟨R0,e0⟩:=FM L (g y);obtain⟨⟨R,e⟩,k1,k2,k3⟩:=D6 (Inv:=Inv) (g:=g) r (y+1) (Ry L (g y)) (λz a b=>hg z J J) (acO h1 _) λx hx=>by
   rcases nV hx with h|h
   ·exact h2 x h
   ·rw[h];exact hg y (api _) J
  refine⟨⟨R0++R,by rw[TR,e,e0,aqs]⟩,k1,k2,λz a b=>?_⟩;by_cases hz:z=y
  ·subst hz;rw[TR,e];exact List.mem_append_left _ (vw L (g z))
  ·exact k3 z J J
structure zx (nx:S->Nat->S)(m:Nat)(Inv:S->Prop)(i:Nat)(L:List S):Prop where
 nd:L.Nodup
 inv:∀x∈L,Inv x
 le:i<=L.length
 cl:∀j,j<i->∀(h:j<L.length) y,y<m->nx L[j] y∈L
def zx.len {nx:S->Nat->S}{m n:Nat}{Inv:S->Prop}{κ:S->Nat}(hκ:∀x,Inv x->κ x<n)(hinj:∀x y,Inv x->Inv y->κ x=κ y->x=y){i:Nat}{L:List S}(h:zx nx m Inv i L):L.length<=n:=by
 have Ax:((L.map κ).map id).Nodup:=by
  rw[List.map_id,List.nodup_iff_pairwise_ne,List.pairwise_map];exact (List.nodup_iff_pairwise_ne.1 h.nd).imp_of_mem λha hb (ZB:_≠_) e=>ZB (hinj _ _ (h.inv _ ha) (h.inv _ hb) e)
 have:=Wj Ax (n:=n) λa ha=>by
  obtain⟨x,hx,rfl⟩:=ap0.1 ha;exact hκ x (h.inv x hx)
 rwa [ala] at this
def zx.row {nx:S->Nat->S}{m:Nat}{Inv:S->Prop}(hI:∀x,Inv x->∀y,y<m->Inv (nx x y)){i:Nat}{L:List S}(h:zx nx m Inv i L)(hi:i<L.length):zx nx m Inv (i+1) (TR (nx L[i]) m 0 L)/\∃R,TR (nx L[i]) m 0 L=L++R:=by
 obtain⟨⟨R,e⟩,k1,k2,k3⟩:=D6 (Inv:=Inv) (g:=nx L[i]) m 0 L (λz _ hz=>hI _ (h.inv _ (adm hi)) z J) h.nd h.inv;refine⟨⟨k1,k2,by rw[e,ann];omega,λj hj hjl y hy=>?_⟩,R,e⟩;have hg:(TR (nx L[i]) m 0 L)[j]=L[j]'J:=by
  have:(L++R)[j]'(by rw[ann];omega)=L[j]'J:=aqX J;rw[<-this]
  congr 1
 rw[hg];by_cases hji:j=i
 ·subst hji;exact k3 y (apW _) J
 ·rw[e];exact List.mem_append_left _ (h.cl j J J y hy)
def Pe {nx:S->Nat->S}{m n:Nat}{Inv:S->Prop}{κ:S->Nat}(hI:∀x,Inv x->∀y,y<m->Inv (nx x y))(hκ:∀x,Inv x->κ x<n)(hinj:∀x y,Inv x->Inv y->κ x=κ y->x=y) :
  ∀(f i:Nat) (L:List S),zx nx m Inv i L->n+1<=f+i->zx nx m Inv (Oa nx m f i L).length (Oa nx m f i L)/\(Oa nx m f i L).length<=n/\∃R,Oa nx m f i L=L++R:=by
 have hlen:∀i L,zx nx m Inv i L->L.length<=n:=λi L h=>h.len hκ hinj
 intro f
 induction f with
 |zero =>
  intro i L h hf;have:=hlen i L h;have:=h.le;omega
 |succ f ih =>
  intro i L h hf;rw[Oa];by_cases hi:i<L.length
  ·rw[aaa hi];simp only;obtain⟨h',R,e⟩:=h.row hI hi;obtain⟨k1,k2,R2,e2⟩:=ih (i+1) _ h' J;exact⟨k1,k2,R++R2,by rw[e2,e,aqs]⟩
  ·rw[aqA J];have:i=L.length:=by have:=h.le;omega
   subst this;exact⟨h,hlen _ _ h,[],(aqw L).symm⟩
end
end Go.Am
namespace Go.Am
open Go
variable [Z8]
variable {s:St}{v:AV}{S:List Step}
def Ml (k:Nat)(v:AV)(j:Nat):Prop:=∃n cap,v=.sl j 0 n cap k
def AX (k b n j:Nat)(cap:Option Nat):Ml k (.sl b 0 n cap k) j<->b=j:=by
 constructor
 ·rintro⟨m,c,h⟩;cases h;rfl
 ·rintro rfl;exact⟨n,cap,rfl⟩
structure ExE (s:St)(bM:Nat)(L:List RN)(E:List (RN×AV)):Prop where
 fst:E.map (·.1)=L
 vs:∀p∈E,MkV s bM p.1.marks p.2
def ExE.len {bM:Nat}{L:List RN}{E:List (RN×AV)}(h:ExE s bM L E):E.length=L.length:=by
 rw[<-h.fst,ala]
def ExE.keep {s s':St}{bM:Nat}{L:List RN}{E:List (RN×AV)}(h:ExE s bM L E)(hg:s'.get bM=s.get bM):ExE s' bM L E:=⟨h.fst,λp hp=>(h.vs p hp).keep hg⟩
def apa {YI:List Int}{a k g last:Int}(XP:okK (a::k::g::last::YI))(h0:YI≠[])(hl:YI.length<=2^20):∃s',go U (Us U [.tmp 6]) [] aaY (Zr 0 [.fz (ints YI),.agg [.int .i64 a,.int .i64 k,.int .i64 g],.int .i64 last] .nil) (Ym U)=some (.str (PV (a::k::g::last::YI)),s'):=by
 obtain⟨L,hL⟩:∃L,L=a::k::g::last::YI:=⟨_,rfl⟩;have hLl:L.length=4+YI.length:=by rw[hL];simp;omega
 have iU:YI.length≠0:=λe=>h0 (aqo.1 e)
 rw[<-hL] at XP ⊢;have xP:=λS=>Fz YI S
 simp only[go_sem,aaY,xP];have e1:An 3 1 8 (.sl 10 0 4 (some 4) 1) (some (YI.length,ints YI)) ((((Ym U).new (.cells [.int .i64 a,.int .i64 k,.int .i64 g] 133 false 0 0)).new (.cells [.U4,.ZQ] 150 false 0 0)).new (.cells [.int .i64 a,.int .i64 k,.int .i64 g,.int .i64 last] 3 false 0 0))=some (.sl 11 0 (4+YI.length) none 1,((((Ym U).new (.cells [.int .i64 a,.int .i64 k,.int .i64 g] 133 false 0 0)).new (.cells [.U4,.ZQ] 150 false 0 0)).new (.cells [.int .i64 a,.int .i64 k,.int .i64 g,.int .i64 last] 3 false 0 0)).new (.cells (ints L) 3 false 0 0)):=by
  have hz:Go.Am.WV (.sl 10 0 4 (some 4) 1)=4:=rfl;rw[Zx (by rw[YB];omega) (by rw[hz];omega) (by rw[hz];omega) iU,Rs (cs:=[.int .i64 a,.int .i64 k,.int .i64 g,.int .i64 last]) (lo:=0) (hi:=0) (by simp only[go_sem]) rfl J];rw[hL];rfl
 rw[e1];simp only[go_sem];obtain⟨S0,Mu⟩:∃S0,S0=((((Ym U).new (.cells [.int .i64 a,.int .i64 k,.int .i64 g] 133 false 0 0)).new (.cells [.U4,.ZQ] 150 false 0 0)).new (.cells [.int .i64 a,.int .i64 k,.int .i64 g,.int .i64 last] 3 false 0 0)).new (.cells (ints L) 3 false 0 0):=⟨_,rfl⟩;rw[<-Mu];have DV:S0.next=12:=by rw[Mu];simp only[go_sem]
 have gL0:S0.get 11=some (.cells (ints L) 3 false 0 0):=by rw[Mu];simp only[go_sem]
 have gb0:S0.get 9=some (.cells [.U4,.ZQ] 150 false 0 0):=by rw[Mu];simp only[go_sem]
 have fr0:Fr S0:=by rw[Mu];exact (((Fr.own.new _).new _).new _).new _
 rw[<-hLl];refine YT (ZC:=λ(o:Option (AV×St))=>∃s',o=some (.str (PV L),s')) (σ:=Nat) (λi=>L.length-i) (λi e' s'=>i<=L.length/\e'.get 7=.ptr 9 0/\e'.get 19=.sl 11 0 L.length none 1/\e'.get 20=.int .i64 (L.length:Nat)/\e'.get 21=.int .i64 (i:Nat)/\s'.get 11=some (.cells (ints L) 3 false 0 0)/\12<=s'.next/\Fr s'/\He s' 9 (PV (L.take i))) 0 ?_
  ⟨apW _,?_,?_,?_,?_,gL0,J,fr0,⟨.U4,.ZQ,gb0,.inl rfl,J,ZD.nil _ _ _ _⟩⟩
 ·rintro Lp i e' s' ⟨hi,q7,q19,q20,q21,gL,Vq,Wk,hB⟩ IH;by_cases hd:i<L.length
  ·have hw:=ZI hd J;have hx:(ints L)[i]? = some (.int .i64 L[i]):=by rw[ints,aqc,aaa hd];rfl
   obtain⟨o1,o2⟩:=XP L[i] (adm hd);have hit:=ac' L[i] o1 o2;obtain⟨f1,f2,_,_⟩:=PU o1 o2;have Dp:=NM (L.take i) λx hx=>XP x (List.mem_of_mem_take hx)
   rw[aqO] at Dp;obtain⟨s1,r1,h131,B1,tf,n1,K1⟩:=ac8 hB Wk (zn L[i]) f1 J;obtain⟨s2,h130,B2,OJ,n2,K2⟩:=ac9 B1 tf 32 (by rw[ann];omega);have g1:=K1 11 _ _ J J gL Mo;have gL1:=g1.trans gL;have g2:=K2 11 _ _ J J gL1 Mo;have gL2:=g2.trans gL1;have h130:UN U 78 [.ptr 9 0,.int .u8 32] s1=some (.Tz,s2):=h130;simp only[go_sem,Ki,q7,q19,q20,q21,Z9,hd,gL,hx,hit,fM,h131,ac_,h130,hw,ap4,ap3];refine IH (i+1) _ _ J ⟨J,?_,?_,?_,?_,gL2,J,OJ,?_⟩
   case refine_5=>rw[NN hd,xO];exact B2
   all_goals simp only[go_sem,q7,q19,q20]
  ·have G5:i=L.length:=J;subst G5;rw[aqN] at hB;have Dp:=NM L XP;obtain⟨s3,h133,n3,tU,_⟩:=fK hB Wk J;simp only[go_sem,Ki,q7,q20,q21,Z9,ap5,px,h133];exact⟨_,rfl⟩
 all_goals simp only[go_sem]
 all_goals rfl
def akT {YI:List Int}{a k g last:Int}(XP:okK (a::k::g::last::YI))(h0:YI≠[])(hl:YI.length<=2^20)(S:St):UX U 133 (some [.fz (ints YI),.agg [.int .i64 a,.int .i64 k,.int .i64 g],.int .i64 last]) S=some (.str (PV (a::k::g::last::YI)),S):=by
 obtain⟨s',h1⟩:=apa XP h0 hl;refine XM U S ?_;unfold X7;rw[og ahy h1];rfl
def Mf (x:PN):XJ:=PV ((x.cur.1:Int)::x.cur.2.1::x.cur.2.2::x.last::x.YI)
structure PB (x:PN):Prop where
 ok:okK ((x.cur.1:Int)::x.cur.2.1::x.cur.2.2::x.last::x.YI)
 ne:x.YI≠[]
 le:x.YI.length<=2^20
def uU {x y:PN}(hx:PB x)(hy:PB y)(e:Mf x=Mf y):x=y:=by
 have h:=uV _ _ hx.ok hy.ok e;obtain⟨l,⟨a,k,g⟩,m⟩:=x;obtain⟨l',⟨a',k',g'⟩,m'⟩:=y;simp only[List.cons.injEq] at h;obtain⟨h1,h2,h3,h4,h5⟩:=h;have h1:a=a':=J;subst h1;subst h2;subst h3;subst h4;subst h5;rfl
def aag {L:List PN}(hL:∀x∈L,PB x){z:PN}(hz:PB z):Wm (L.map Mf) (Mf z)=Wm L z:=by
 induction L with
 |nil=>rfl
 |cons x l ih =>
  have hx:=hL x (aba ..);rw[aqe,Wm,Wm,ih λy hy=>hL y (aab _ hy)];by_cases h:x=z
  ·subst h;rw[Of rfl,Of rfl]
  ·rw[O3 h,O3 λe=>h (uU hx hz e)]
def aX (s:St)(bS:Nat)(l:List Int)(v:AV):Prop:=v=.fz (ints l)\/(v=.sl bS 0 l.length none 1/\s.get bS=some (.cells (ints l) 3 false 0 0))
def aX.keep {s s':St}{bS:Nat}{l:List Int}(h:aX s bS l v)(hg:∀c,s.get bS=some (.cells c 3 false 0 0)->s'.get bS=some (.cells c 3 false 0 0)):aX s' bS l v:=by
 rcases h with h|⟨h1,h2⟩
 ·exact .inl h
 ·exact .inr ⟨h1,hg _ h2⟩
def aX.Ya {bS:Nat}{l:List Int}(h:aX s bS l v)(d:Nat):Go.Am.Ya U s (d+2) v=some (.fz (ints l)):=by
 rcases h with rfl|⟨rfl,hg⟩
 ·rw[ER]
 ·exact J0 (d:=d) (cap:=none) hg
def aX.Zu {bS:Nat}{l:List Int}(h:aX s bS l v):Go.Am.Zu v=true:=by
 rcases h with rfl|⟨rfl,hg⟩ <;> rfl
def Vy (x:PN)(v:AV):List AV:=[v,.int .i64 x.cur.1,.int .i64 x.cur.2.1,.int .i64 x.cur.2.2,.int .i64 x.last]
def akU {x:PN}(hx:PB x){bS:Nat}(hv:aX s bS x.YI v) :
  Yx U (ZE U 133 [v,.agg [.int .i64 x.cur.1,.int .i64 x.cur.2.1,.int .i64 x.cur.2.2],.int .i64 x.last]) 133 [v,.agg [.int .i64 x.cur.1,.int .i64 x.cur.2.1,.int .i64 x.cur.2.2],.int .i64 x.last] s=some (.str (Mf x),s):=by
 rcases hv with rfl|⟨rfl,hg⟩
 ·rw[alL hx.ok hx.ne hx.le,UO];rfl
 ·rw[alK (by simp[ZT,still])];have e1:Go.Am.Ya U s 40 (.sl bS 0 x.YI.length none 1)=some (.fz (ints x.YI)):=J0 (d:=38) (cap:=none) hg;have hm:YS (Go.Am.Ya U s 40) [.sl bS 0 x.YI.length none 1,.agg [.int .i64 x.cur.1,.int .i64 x.cur.2.1,.int .i64 x.cur.2.2],.int .i64 x.last]=some [.fz (ints x.YI),.agg [.int .i64 x.cur.1,.int .i64 x.cur.2.1,.int .i64 x.cur.2.2],.int .i64 x.last]:=by
   simp only[YS,e1];rfl
  rw[hm];exact akT hx.ok hx.ne hx.le s
def Le:List XJ->Nat->List (AV×AV)
 |[],_=>[]
 |k::ks,i=>(.str k,.int .i64 (i:Int))::Le ks (i+1)
def D3 (k:XJ):∀(ks:List XJ) (i:Nat),UY (.str k) (Le ks i)=some (bif decide (Wm ks k<ks.length) then some (.int .i64 ((i+Wm ks k:Nat):Int)) else none)
 |[],i=>rfl
 |x::l,i=>by
  rw[Le,UY,VP,Wm];by_cases h:x=k
  ·subst h;rw[Of rfl];simp
  ·have ZB:(k==x)=false:=by simpa using λe=>h (Eq.symm e)
   rw[ZB,O3 h];simp only[ap1];rw[D3 k l (i+1)];have e:decide (Wm l k+1<l.length+1)=decide (Wm l k<l.length):=by congr 1;apply propext;omega
   rw[e]
   congr 2
   rw[show i+1+Wm l k=i+(Wm l k+1) by omega]
def Bh (k:XJ):∀(ks:List XJ) (i:Nat),k∉ks->Km (.str k) (.int .i64 ((i+ks.length:Nat):Int)) (Le ks i)=some (Le (ks++[k]) i)
 |[],i,_=>rfl
 |x::l,i,h=>by
  rw[ap9,not_or] at h;have ZB:(k==x)=false:=by simpa using h.1
  have ih:=Bh k l (i+1) h.2;rw[show i+1+l.length=i+(x::l).length by rw[ap1];omega] at ih;rw[Le,Km,VP,ZB,aqk,Le];simp only[ih]
def jj {m:Nat}{ks:List XJ}(h:s.get m=some (.map (Le ks 0) false))(k:XJ):WM U 207 (.map m) (.str k) true s=some (bif decide (Wm ks k<ks.length) then .XQ [.int .i64 ((Wm ks k:Nat):Int),.bool true] else .XQ [.int .i64 0,.bool false]):=by
 have hu:U.Zd 207=some (.map 9 3):=It;have h9:U.Zd 9=some .string:=It;have hz:zero U 3=some (.int .i64 0):=It;unfold WM;rw[hu];simp only[Vr,h9,if_true,h,D3,ap4]
 cases decide (Wm ks k<ks.length) with
 |true=>rfl
 |false=>simp only[cond_false,hz]
def ji {m:Nat}{ks:List XJ}(h:s.get m=some (.map (Le ks 0) false)){k:XJ}(hk:k∉ks):VZ U 207 (.map m) (.str k) (.int .i64 ((ks.length:Nat):Int)) s=some (s.put m (.map (Le (ks++[k]) 0) false)):=by
 have hu:U.Zd 207=some (.map 9 3):=It;have h9:U.Zd 9=some .string:=It;have:=Bh k ks 0 hk;rw[ap4] at this;unfold VZ;rw[hu];simp only[Vr,h9,if_true,h,this]
def ncs (E:List (PN×AV)):List AV:=E.flatMap λp=>Vy p.1 p.2
structure Ob (s:St)(bS mm mb nb N:Nat)(L:List PN)(E:List (PN×AV))(pv:AV):Prop where
 fst:E.map (·.1)=L
 vs:∀p∈E,aX s bS p.1.YI p.2
 map:s.get mm=some (.map (Le (L.map Mf) 0) false)
 yK:s.get mb=some (.cells [.map mm] 207 false 0 0)
 Vy:s.get nb=some (.cells [pv] 208 false 0 0)
 row:ZD s N 210 5 L.length (ncs E) pv
 lt:bS<N/\mm<N/\mb<N/\nb<N/\N<=s.next
def aj3 {bS mm mb nb N:Nat}{L:List PN}{E:List (PN×AV)}{pv:AV}(h:Ob s bS mm mb nb N L E pv)(hL:∀x∈L,PB x)(hlen:L.length<=2^20){z:PN}(hz:PB z){V:AV}(hV:aX s bS z.YI V)(fr:Fr s) :
  ∃s' E' SD,UN U 132 [.agg (Vy z V),.ptr mb 0,.ptr nb 0] s=some (.int .i64 (Wm L z:Nat),s')/\Ob s' bS mm mb nb N (Ry L z) E' SD/\Fr s'/\s.next<=s'.next/\(∀j c t lo hi,s.get j=some (.cells c t false lo hi)->j<s.next->t≠210->t≠208->s'.get j=some (.cells c t false lo hi))/\(∀j,j<s.next->j≠mm->j≠nb->¬Ml 5 pv j->s'.get j=s.get j)/\∀j,Ml 5 SD j->Ml 5 pv j\/s.next<=j:=by
 obtain⟨n1,n2,n3,n4,n5⟩:=h.lt;have hk:=akU hz (s:=s.new (.cells (Go.Am.Vy z V) 210 false 0 0)) (hV.keep λc hc=>by rw[Z5,O3 J];exact hc);have hik:=aag hL hz;have aah:(s.new (.cells (Go.Am.Vy z V) 210 false 0 0)).get mm=some (.map (Le (L.map Mf) 0) false):=by rw[Z5,O3 J];exact h.map
 have lj:=jj aah (Mf z);rw[hik,ala] at lj;unfold Go.Am.Vy at hk lj aah;have f1:(s.next=mb)=False:=F_;have f2:(s.next=nb)=False:=F_;have hmc:=h.yK;have aq:=h.Vy;have Pq:=hV.Zu;by_cases TD:z∈L
 ·refine⟨s.new (.cells (Go.Am.Vy z V) 210 false 0 0),E,pv,?_,?_,fr.new _,O0,λj c t lo hi hj YA _ _=>by rw[Z5,O3 J];exact hj,λj h1 _ _ _=>by rw[Z5,O3 J],λj hj=>.inl hj⟩
  ·refine Yi aja It ?_;have YA:=(MF L z).2 TD;rw[decide_eq_true YA,cond_true] at lj;unfold Go.Am.Vy;simp only[go_sem,afc,hk,hmc,lj,f1]
  ·rw[Ry,Of TD];exact⟨h.fst,λp hp=>(h.vs p hp).keep λc hc=>by rw[Z5,O3 J];exact hc,by rw[Z5,O3 J];exact h.map,by rw[Z5,O3 J];exact h.yK,by rw[Z5,O3 J];exact h.Vy,h.row.mono O0 λj h1 h2=>by rw[Z5,O3 J],O0⟩
 ·have YA:¬Wm L z<L.length:=λh'=>TD ((MF L z).1 h')
  have hix:Wm L z=L.length:=zF z L TD;rw[decide_eq_false YA,cond_false] at lj;have iX:((mm=nb)=False)/\((mm=mb)=False)/\((nb=mb)=False):=by
   refine⟨eq_false λe=>?_,eq_false λe=>?_,eq_false λe=>?_⟩
   ·have:=h.map;rw[e,aq] at this;cases this
   ·have:=h.map;rw[e,hmc] at this;cases this
   ·rw[e,hmc] at aq;cases aq
  obtain⟨m1,m2,m3⟩:=iX;have zu:Mf z∉L.map Mf:=λhm=>by
   obtain⟨x,hx,e⟩:=ap0.1 hm;exact TD (uU (hL x hx) hz e ▸ hx)
  have aQ:=ji aah zu;rw[ala] at aQ;have qg:=h.row.len;have Oi:=h.row.WV;have TV:(L.length+1)*56<=1099511627776:=J;have U5:L.length+1<=1099511627776:=J;have f3:(mm=s.next)=False:=F_;have f4:∀k,(s.next+k=nb)=False:=λk=>F_
  obtain⟨S1,hS1⟩:∃S1,S1=((s.new (.cells [V,.int .i64 z.cur.1,.int .i64 z.cur.2.1,.int .i64 z.cur.2.2,.int .i64 z.last] 210 false 0 0)).put mm (.map (Le (L.map Mf++[Mf z]) 0) false)).new (.cells [V,.int .i64 z.cur.1,.int .i64 z.cur.2.1,.int .i64 z.cur.2.2,.int .i64 z.last] 210 false 0 0):=⟨_,rfl⟩;have apU:S1.next=s.next+2:=by rw[hS1,Z',Z_,Z']
  have k1:∀j,j<s.next->j≠mm->S1.get j=s.get j:=λj h1 h2=>by rw[hS1,Z5,Z_,Z',O3 J,Z7,O3 h2.symm,Z5,O3 J]
  have k1m:S1.get mm=some (.map (Le (L.map Mf++[Mf z]) 0) false):=by rw[hS1,Z5,Z_,Z',O3 J,Z7,Of rfl]
  have Jh:Fr S1:=by rw[hS1];exact ((fr.new _).put O0 _).new _
  have yL:ZD S1 N 210 5 L.length (ncs E) pv:=h.row.mono J λj h1 h2=>k1 j h2 J
  obtain⟨s2,a1,a2,a3,a4,a5⟩:=yL.FA J (m:=1) (new:=[V,.int .i64 z.cur.1,.int .i64 z.cur.2.1,.int .i64 z.cur.2.2,.int .i64 z.last]) J rfl (by rw[List.all_cons,Pq];rfl);have nM:∀j c t lo hi,s.get j=some (.cells c t false lo hi)->j<s.next->t≠210->s2.get j=some (.cells c t false lo hi):=λj c t lo hi hj YA ht=>by
   have hjm:j≠mm:=λe=>by
    have:=h.map;rw[<-e,hj] at this;cases this
   have hj1:=(k1 j YA hjm).trans hj;rw[a4 j J (yL.other hj1 ht)];exact hj1
  have knb:=nM nb _ _ _ _ aq J Mo;have kmb:=nM mb _ _ _ _ hmc J Mo;have kmm:s2.get mm=some (.map (Le (L.map Mf++[Mf z]) 0) false):=by rw[a4 mm J (yL.xQ (.inr J))];exact k1m
  have Yf:UN U 132 [.agg (Go.Am.Vy z V),.ptr mb 0,.ptr nb 0] s=some (.int .i64 (L.length:Nat),s2.put nb (.cells [.sl S1.next 0 (L.length+1) none 5] 208 false 0 0)):=by
   refine Yi aja It ?_;unfold Go.Am.Vy;simp only[go_sem,afc,hk,hmc,aq,lj,f1,f2,f3,qg,aQ,m1,Zx,Nat.reducePow,aqP,Oi,TV,U5];rw[<-hS1,a1];simp only[go_sem,knb]
  rw[hix];refine⟨_,E++[(z,V)],.sl S1.next 0 (L.length+1) none 5,Yf,?_,(a5 Jh).put J _,O0,λj c t lo hi hj YA h1 h2=>?_,λj h1 h2 h3 h4=>?_,λj hj=>?_⟩
  ·rw[Ry,O3 TD];have hbS:∀c,s.get bS=some (.cells c 3 false 0 0)->(s2.put nb (.cells [.sl S1.next 0 (L.length+1) none 5] 208 false 0 0)).get bS=some (.cells c 3 false 0 0):=λc hc=>by
    rw[Z7,O3 (λe=>by rw[e,hc] at aq;cases aq)];exact nM bS _ _ _ _ hc J Mo
   refine⟨by rw[aqf,h.fst];rfl,λp hp=>?_,?_,?_,by rw[Z7,Of rfl],?_,O0⟩
   ·rcases aqm.1 hp with hp|hp
    ·exact (h.vs p hp).keep hbS
    ·rw[apY.1 hp];exact hV.keep hbS
   ·rw[Z7,O3 (λe=>by rw[e] at m1;simp at m1),aqf];exact kmm
   ·rw[Z7,O3 (λe=>by rw[e] at m3;simp at m3)];exact kmb
   ·have:ncs (E++[(z,V)])=ncs E++[V,.int .i64 z.cur.1,.int .i64 z.cur.2.1,.int .i64 z.cur.2.2,.int .i64 z.last]:=by simp[ncs,Go.Am.Vy]
    rw[this,ann,aqh];exact a3.mono O0 λj h1 h2=>by rw[Z7,O3 J]
  ·rw[Z7,O3 (λe=>by rw[e,hj] at aq;cases aq;exact h2 rfl)];exact nM j c t lo hi hj YA h1
  ·rw[Z7,O3 h3.symm,a4 j J (λe=>h4 ⟨_,_,e⟩),k1 j h1 h2]
  ·rw[AX] at hj;right;omega
def nG:∀(bs ds:List Nat),Uv bs ds->(∀d∈ds,d<X' bs)/\1<=X' bs
 |[],[],_=>⟨λd h=>by simp at h,api 1⟩
 |b::bs,d::ds,h=>by
  obtain⟨h1,h2⟩:=h;obtain⟨k1,k2⟩:=nG bs ds h2;have hb:1<=b:=J;rw[X'];refine⟨λx hx=>?_,Nat.mul_pos hb k2⟩;rcases ap9.1 hx with rfl|hx
  ·calc x<b:=h1
    _=b*1:=(ap3 b).symm
    _<=b*X' bs:=Nat.mul_le_mul_left b k2
  ·calc x<X' bs:=k1 x hx
    _=1*X' bs:=(aqP _).symm
    _<=b*X' bs:=aqC _ hb
 |[],d::ds,h=>by simp[Uv] at h
 |b::bs,[],h=>by simp[Uv] at h
def QF.pb (h:Yu S)(hn8:S.length<=8){m:Nat}(hm:2<=m/\m<=16)(hz:VD S m<=512)(hL:(ZL (S.map Step.cond)).length<=2^20){x:PN}(hx:QF S m x) :
  PB x/\(∀s∈x.YI,0<=s/\s<=256)/\x.YI.length=(ZL (S.map Step.cond)).length:=by
 obtain⟨u,l,c,p,e⟩:=hx.Zd h;obtain⟨_,uc,us⟩:=u;obtain⟨k1,k2⟩:=nG _ _ us;have hT:1<=UZ S:=J;have Vt:X' ((ZL (S.map Step.cond)).map VX)<=170:=by
  unfold VD at hz;generalize X' ((ZL (S.map Step.cond)).map VX)=P at *;have h1:P<=UZ S*P:=by calc P=1*P:=(aqP P).symm
    _<=UZ S*P:=aqC P hT
  have h2:3*(UZ S*P)<=(m+1)*(UZ S*P):=aqC _ J;omega
 have hs:∀s∈x.YI,0<=s/\s<=170:=λs hs=>by
  have h1:=p s hs;have h2:=k1 s.toNat (ap0.2 ⟨s,hs,rfl⟩);omega
 have ZB:x.YI≠[]:=λe'=>by
  rw[e'] at e;exact zZ h.jf (λe2=>by have:=h.ne;rw[List.map_eq_nil_iff] at e2;rw[e2] at this;simp at this) (aqo.1 e.symm)
 have ha:=c.a;have hk:=c.k;have hg:=c.g;have ht:=h.tm S[x.cur.1] (adm ha);have hw:=h.wi S[x.cur.1] (adm ha);rw[yC ha] at hk;rw[pU ha] at hg;refine⟨⟨λn hn=>?_,ZB,J⟩,λs h=>by have:=hs s h;omega,e⟩;simp only[ap9] at hn;rcases hn with rfl|rfl|rfl|rfl|hn
 ·omega
 ·omega
 ·omega
 ·omega
 ·have:=hs n hn;omega
def nW (h:Yu S){m:Nat}{x:PN}(hx:QF S m x){y:Nat}(hy:y<m):QF S m (YF S x y).1:=by
 obtain⟨r,hr,rfl⟩:=hx;obtain⟨a,b,c⟩:=Qa h hr hy;exact⟨_,c,a⟩
def RP (S:List Step)(m:Nat):List PN:=Oa (λx y=>(YF S x y).1) m (VD S m+1) 0 [AZ S]
def pI0 (h:Yu S){m:Nat}:zx (λx y=>(YF S x y).1) m (QF S m) 0 [AZ S] :=
 ⟨by simp,λx hx=>by rw[apY.1 hx];exact⟨_,(P_ h).2,(P_ (m:=m) h).1⟩,apW _,λj hj=>J⟩
def pIn (h:Yu S){m:Nat}:∀x,QF S m x->∀y,y<m->QF S m (YF S x y).1:=λx hx y hy=>nW h hx hy
def Qh (h:Yu S)(m:Nat):zx (λx y=>(YF S x y).1) m (QF S m) (RP S m).length (RP S m)/\(RP S m).length<=VD S m/\∃R,RP S m=AZ S::R:=by
 obtain⟨a,b,R,e⟩:=Pe (n:=VD S m) (κ:=nD S m) (pIn h) (λx=>Bd h) (λx y=>Gl h) (VD S m+1) 0 [AZ S] (pI0 h) J;exact⟨a,b,R,e⟩
section
variable {S:Type} [DecidableEq S]
def WY (nx:S->Nat->S×Bool)(L:List S)(m:Nat)(x:S):List Nat:=(List.range m).map λy=>Wm L (nx x y).1
def WJ (nx:S->Nat->S×Bool)(m:Nat)(x:S):List Bool:=(List.range m).map λy=>(nx x y).2
def N4 (lines:Int)(nx:S->Nat->S×Bool)(L:List S):Zv :=
 ⟨lines,true,L.map λx=>(false,Ur (WY nx L (2^lines.toNat) x)),true,L.map λx=>(false,WJ nx (2^lines.toNat) x)⟩
variable {lines:Int}{nx:S->Nat->S×Bool}{L:List S}{Inv:S->Prop}
def oe:(N4 lines nx L).fa.n=L.length:=by
 show (L.map _).length=_;rw[ala]
def rl {i x:Nat}(hi:i<L.length)(hx:x<2^lines.toNat):(N4 lines nx L).fa.nx i x=Wm L (nx L[i] x).1:=by
 have e:(L.map λz=>(false,Ur (WY nx L (2^lines.toNat) z))).getD i (true,[])=(false,Ur (WY nx L (2^lines.toNat) L[i])):=by
  rw[Y' (by rw[ala];exact hi),List.getElem_map]
 show ((((L.map λz=>(false,Ur (WY nx L (2^lines.toNat) z))).getD i (true,[])).2.getD x 0).toNat)=_;rw[e];show ((Ur (WY nx L (2^lines.toNat) L[i])).getD x 0).toNat=_;have hl:x<(Ur (WY nx L (2^lines.toNat) L[i])).length:=by rw[VG];simp[WY];exact hx
 rw[Y' hl];simp[Ur,WY]
def rk {i x:Nat}(hi:i<L.length)(hx:x<2^lines.toNat):(N4 lines nx L).fa.fr i x=(nx L[i] x).2:=by
 have e:(L.map λz=>(false,WJ nx (2^lines.toNat) z)).getD i (true,[])=(false,WJ nx (2^lines.toNat) L[i]):=by
  rw[Y' (by rw[ala];exact hi),List.getElem_map]
 show (((L.map λz=>(false,WJ nx (2^lines.toNat) z)).getD i (true,[])).2.getD x false)=_;rw[e];show (WJ nx (2^lines.toNat) L[i]).getD x false=_;have hl:x<(WJ nx (2^lines.toNat) L[i]).length:=by simp[WJ];exact hx
 rw[Y' hl];simp[WJ]
def AE (hl:1<=lines/\lines<=4)(h:zx (λx y=>(nx x y).1) (2^lines.toNat) Inv L.length L)(h0:0<L.length)(hf:L.length<=512):(N4 lines nx L).ok:=by
 refine⟨hl,by simp only[N4,ala];exact h0,by simp only[N4,ala];exact hf,by simp only[N4,ala],λi hi=>?_,λi hi=>?_⟩
 ·have QD:i<L.length:=by simpa only[N4,ala] using hi
  simp only[N4,List.getElem_map,ala];refine⟨by simp[Ur,WY],λx hx=>?_⟩;simp only[Ur,WY,aqY,ap0,aqg,Function.comp] at hx;obtain⟨z,hz,rfl⟩:=hx;have:=(MF _ _).2 (h.cl i QD QD z hz);omega
 ·have QD:i<L.length:=by simpa only[N4,ala] using hi
  simp[N4,WJ]
end
def ad1 {S S':Type} [DecidableEq S] [DecidableEq S'] {lines:Int}{nx:S->Nat->S×Bool}{nx':S'->Nat->S'×Bool}{L:List S}{L':List S'}{Inv:S->Prop}{ad2:S'->Prop}{ψ:S'->S}(hl:1<=lines/\lines<=4)
  (h:zx (λx y=>(nx x y).1) (2^lines.toNat) Inv L.length L)(h':zx (λx y=>(nx' x y).1) (2^lines.toNat) ad2 L'.length L'){x0:S}{x0':S'}(e0:L[0]? = some x0)(e0':L'[0]? = some x0')(aoe:ψ x0'=x0)
  (hψ:∀x,ad2 x->∀y,y<2^lines.toNat->ψ (nx' x y).1=(nx (ψ x) y).1/\(nx' x y).2=(nx (ψ x) y).2)(hm:∀x∈L',ψ x∈L)(hf:L.length<=512)(EL:L'.length<=512):ZS (N4 lines nx' L')=ZS (N4 lines nx L):=by
 obtain⟨p0,_⟩:=apX.1 e0;obtain⟨p0',_⟩:=apX.1 e0';have ajM:∀i,i<L'.length->∃z,L'[i]? = some z/\ψ z∈L:=λi hi=>⟨L'[i],aaa hi,hm _ (adm hi)⟩
 obtain⟨φ,hφ⟩:∃φ:Nat->Nat,φ=λi=>match L'[i]? with|some z=>Wm L (ψ z)|none=>0:=⟨_,rfl⟩
 have af2:∀i (hi:i<L'.length),φ i=Wm L (ψ L'[i]):=λi hi=>by rw[hφ];simp only[aaa hi]
 have od:∀i,i<L'.length->φ i<L.length:=λi hi=>by rw[af2 i hi];exact (MF _ _).2 (hm _ (adm hi))
 have af3:∀i (hi:i<L'.length),L[φ i]? = some (ψ L'[i]):=λi hi=>by rw[af2 i hi];exact Gw (hm _ (adm hi))
 refine bY (AE hl h p0 hf) (AE hl h' p0' EL) rfl (ψ:=φ) ?_ ?_ ?_ ?_
 ·have h1:=af3 0 p0';have h2:L'[0]=x0':=by rw[aaa p0'] at e0';exact aqb e0'
  rw[h2,aoe] at h1;have Da:=od 0 p0';rw[aaa Da] at h1;rw[aaa p0] at e0;exact (List.getElem_inj h.nd).1 (by rw[aqb h1,aqb e0])
 ·intro i hi;rw[oe] at hi ⊢;exact od i hi
 ·intro i x hi hx;rw[oe] at hi;have hx:x<2^lines.toNat:=hx;have hc:=h'.cl i hi hi x hx;have YA:Wm L' (nx' L'[i] x).1<L'.length:=(MF _ _).2 hc;have h1:=af3 i hi;have Da:=od i hi;rw[aaa Da] at h1;have h1:=aqb h1;rw[rl hi hx,rl Da hx,h1];have h3:=Gw hc;rw[aaa YA] at h3;rw[af2 _ YA,aqb h3,(hψ _ (h'.inv _ (adm hi)) x hx).1]
 ·intro i x hi hx;rw[oe] at hi;have hx:x<2^lines.toNat:=hx;have h1:=af3 i hi;have Da:=od i hi;rw[aaa Da] at h1;have h1:=aqb h1;rw[rk hi hx,rk Da hx,h1,(hψ _ (h'.inv _ (adm hi)) x hx).2]
end Go.Am
namespace Go.Am
open Go
variable [Z8]
section
variable {S:Type} [DecidableEq S]
def Cs (g:Nat->S):∀(r y:Nat) (L:List S),∃R,TR g r y L=L++R
 |0,y,L=>⟨[],by rw[TR,aqw]⟩
 |r+1,y,L=>by
  obtain⟨R0,e0⟩:=FM L (g y);obtain⟨R,e⟩:=Cs g r (y+1) (Ry L (g y));exact⟨R0++R,by rw[TR,e,e0,aqs]⟩
def tO (nx:S->Nat->S×Bool)(L:List S)(m:Nat)(x:S):(WY nx L m x).length=m:=by simp[WY]
def tN (nx:S->Nat->S×Bool)(m:Nat)(x:S):(WJ nx m x).length=m:=by simp[WJ]
end
end Go.Am
namespace Go.Am
open Go
variable [Z8]
variable {S:List Step}
def N5 (S:List Step)(m:Nat):List RN:=Oa (λx y=>(Un S x y).1) m (VD S m+1) 0 [je S]
def rI0 (h:Yu S){m:Nat}:zx (λx y=>(Un S x y).1) m (K5 S m) 0 [je S] :=
 ⟨by simp,λx hx=>by rw[apY.1 hx];exact (P_ h).2,apW _,λj hj=>J⟩
def rIn (h:Yu S){m:Nat}:∀x,K5 S m x->∀y,y<m->K5 S m (Un S x y).1:=λx hx y hy=>(Qa h hx hy).2.2
def Cy (h:Yu S)(m:Nat):zx (λx y=>(Un S x y).1) m (K5 S m) (N5 S m).length (N5 S m)/\(N5 S m).length<=VD S m/\∃R,N5 S m=je S::R:=by
 obtain⟨a,b,R,e⟩:=Pe (n:=VD S m) (κ:=iG S m) (rIn h) (λx=>qB h) (λx y=>zi h) (VD S m+1) 0 [je S] (rI0 h) J;exact⟨a,b,R,e⟩
def bD (lines:Int){S:Type} [DecidableEq S] (nx:S->Nat->S×Bool)(L:List S):XW (N4 lines nx L)=.agg [.int .i64 lines,ZU true (L.map λx=>AV.fz (Zz (WY nx L (2^lines.toNat) x))),ZU true (L.map λx=>AV.fz (Zt (WJ nx (2^lines.toNat) x)))]:=by
 rw[YH,VI,XD,N4];simp only[aqY];have e1:∀x:S,(ZF∘λx:S=>(false,Ur (WY nx L (2^lines.toNat) x))) x=AV.fz (Zz (WY nx L (2^lines.toNat) x)):=λx=>by simp only[Function.comp,ZF,Ta];try rfl
 have e2:∀x:S,(ZM∘λx:S=>(false,WJ nx (2^lines.toNat) x)) x=AV.fz (Zt (WJ nx (2^lines.toNat) x)):=λx=>by simp only[Function.comp,ZM,Ta];try rfl
 rw[aqD (λx _=>e1 x),aqD (λx _=>e2 x)]
def Qw (n:Nat):Nat:=min n 65537
def eF {X Y:Nat}(hX:1<=X)(hY:1<=Y):Js (Qw X:Nat) (Qw Y:Nat)=((Qw (X*Y):Nat):Int):=by
 have h1:Qw X<=65537:=Nat.min_le_right _ _;have h2:Qw Y<=65537:=Nat.min_le_right _ _;have h3:Qw X*Qw Y<=65537*65537:=Nat.mul_le_mul h1 h2;have h4:((Qw X:Nat):Int)*((Qw Y:Nat):Int)=((Qw X*Qw Y:Nat):Int):=by push_cast;rfl
 unfold Js;rw[h4,wrap_i64 J J];have h5:min ((Qw X*Qw Y:Nat):Int) 65537=((min (Qw X*Qw Y) 65537:Nat):Int):=J;rw[h5]
 congr 1
 by_cases hx:X<=65537
 ·by_cases hy:Y<=65537
  ·have e1:Qw X=X:=Nat.min_eq_left hx;have e2:Qw Y=Y:=Nat.min_eq_left hy;rw[e1,e2];rfl
  ·have e2:Qw Y=65537:=Nat.min_eq_right J;have k1:1<=Qw X:=by unfold Qw;omega
   have k2:1*65537<=Qw X*65537:=aqC _ k1;have k3:1*65537<=X*Y:=Nat.mul_le_mul hX J;rw[e2];unfold Qw at *;omega
 ·have e1:Qw X=65537:=Nat.min_eq_right J;have k1:1<=Qw Y:=by unfold Qw;omega
  have k2:65537*1<=65537*Qw Y:=Nat.mul_le_mul_left _ k1;have k3:65537*1<=X*Y:=Nat.mul_le_mul J hY;rw[e1];unfold Qw at *;omega
def lF {k:XJ}{a b mi ma:Int}{p:XJ}{nl:Bool}{kids:List Z0}(h:(Z0.mk k a b mi ma p nl kids).wf):(Zs k).leaf=!Xn k:=by
 rw[Ph h];rw[Z0.wf] at h;have hk:=h.2.2.2.2.2.2.1;generalize Zs k=d at *
 cases d <;> first|rfl|(simp[Kd.known] at hk)
def EU {c:Z0}(h:c.wf):1<=VX c/\VX c<=65537/\WA (Zs c.kind) c=(VX c:Int):=by
 have e:=qD h;have h1:=h.Lc.mi;have h2:=h.Lc.ma;have e2:WA (Zs c.kind) c=(VX c:Int):=by
  unfold VX WA
  cases Zs c.kind <;> simp only
  all_goals try rw[wrap_i64 J J]
  all_goals omega
 generalize VX c=z at *;refine⟨?_,?_,e2⟩
 all_goals
  cases hd:Zs c.kind <;> rw[hd] at e <;> simp only at e <;> omega
def IG:∀(l:List Nat),(∀x∈l,1<=x)->1<=X' l
 |[],_=>api 1
 |x::l,h=>by
  rw[X'];exact Nat.mul_pos (h x (aba ..)) (IG l λy hy=>h y (aab _ hy))
def oM {c:Z0}(h:c.wf):1<=X' ((VE c).map VX):=IG _ λx hx=>by
 obtain⟨y,hy,rfl⟩:=ap0.1 hx;exact (EU (NQ c h y hy).1).1
def oL:∀(l:List Z0),(∀c∈l,c.wf)->(∀c∈l,Dv c=((Qw (X' ((VE c).map VX)):Nat):Int))->∀X,1<=X->Mq l (Qw X:Nat)=((Qw (X*X' ((ZL l).map VX)):Nat):Int)
 |[],_,_,X,_=>by rw[Mq,ZL,List.map_nil,X',ap3]
 |c::l,hw,h,X,hX=>by
  have h1:=oM (hw c (aba ..));rw[Mq,h c (aba ..),eF hX h1,oL l (λx hx=>hw x (aab _ hx)) (λx hx=>h x (aab _ hx)) _ (Nat.mul_pos hX h1),ZL,aqf,Qo,Nat.mul_assoc]
def aeM:∀c:Z0,c.wf->Dv c=((Qw (X' ((VE c).map VX)):Nat):Int):=by
 intro c
 induction c using Z0.ind with
 |h k a b mi ma p nl kids ih =>
  intro Ot;have Ow:=lF Ot;have o5:=EU Ot;have Ht:=Ot;rw[Z0.wf] at Ht;have Qp:∀x∈kids,x.wf:=Ht.2.2.2.2.2.2.2.2.2.2.2.2;rw[Dv,VE,Ow]
  cases hk:Xn k with
  |true =>
   have:=oL kids Qp (λc hc=>ih c hc (Qp c hc)) 1 (api 1);rw[aqP] at this;exact this
  |false =>
   obtain⟨h1,h2,h3⟩:=o5;show WA (Zs k) _=_;rw[show WA (Zs k) (.mk k a b mi ma p nl kids)=(VX (.mk k a b mi ma p nl kids):Int) from h3];simp only[cond_false,aqe,List.map_nil,X',ap3];unfold Qw;omega
def BU:∀(l:List Step),(∀s∈l,s.cond.wf)->(∀s∈l,1<=s.times/\s.times<=64)->(∀s∈l,0<=s.within/\s.within<=255)->∀(X x:Nat),1<=X->x+l.length*16384<=2^40 ->
  Ww l (Qw X:Nat) (x:Nat)=(((Qw (X*X' ((ZL (l.map Step.cond)).map VX)):Nat):Int),((x+UZ l:Nat):Int))/\UZ l<=l.length*16384
 |[],_,_,_,X,x,_,_=>⟨by rw[Ww,List.map_nil,ZL,List.map_nil,X',ap3,UZ,Nat.add_zero],apW _⟩
 |s::l,hw,ht,hi,X,x,hX,hx=>by
  have h1:=oM (hw s (aba ..));obtain⟨t1,t2⟩:=ht s (aba ..);obtain⟨w1,w2⟩:=hi s (aba ..);have e1:((s.times.toNat:Nat):Int)=s.times:=J;have e2:((s.within.toNat:Nat):Int)=s.within:=J;have m1:s.times.toNat*(s.within.toNat+1)<=64*256:=Nat.mul_le_mul J J;have e3:s.times*(s.within+1)=((s.times.toNat*(s.within.toNat+1):Nat):Int):=by rw[<-e1,<-e2];push_cast;simp only[aqt]
  rw[ap1] at hx;have e4:IntKind.i64.wrap ((x:Int)+IntKind.i64.wrap (s.times*IntKind.i64.wrap (s.within+1)))=((x+s.times.toNat*(s.within.toNat+1):Nat):Int):=by
   rw[wrap_i64 (n:=s.within+1) J J,e3,wrap_i64 (n:=((s.times.toNat*(s.within.toNat+1):Nat):Int)) J J,wrap_i64 J J];push_cast;rfl
  obtain⟨k1,k2⟩:=BU l (λy hy=>hw y (aab _ hy)) (λy hy=>ht y (aab _ hy)) (λy hy=>hi y (aab _ hy)) (X*X' ((VE s.cond).map VX)) (x+s.times.toNat*(s.within.toNat+1)) (Nat.mul_pos hX h1) J;refine⟨?_,by rw[UZ,ap1];omega⟩;rw[Ww,aeM s.cond (hw s (aba ..)),eF hX h1,e4,k1,aqe,ZL,aqf,Qo,Nat.mul_assoc,UZ,ap2]
def oK {p:Prog}(h:p.ok)(Ot:∀s∈p.steps,s.cond.wf)(hl:p.lines<=4){n:Nat}(hn:n<=400)(hz:QL p<=n):VD p.steps (2^p.lines.toNat)<=n:=by
 have Da:=h.lines.1;have qz:IntKind.i64.wrap ((2:Int)^p.lines.toNat+1)=((Qw (2^p.lines.toNat+1):Nat):Int):=by
  have:p.lines.toNat=1\/p.lines.toNat=2\/p.lines.toNat=3\/p.lines.toNat=4:=J;rcases this with h|h|h|h <;> rw[h] <;> decide
 have hm:1<=2^p.lines.toNat+1:=Nat.succ_le_succ (apW _);have Pm:=h.few;obtain⟨k1,k2⟩:=BU p.steps Ot h.tm h.wi (2^p.lines.toNat+1) 0 hm J;have hP:1<=X' ((ZL (p.steps.map Step.cond)).map VX):=IG _ λx hx=>by
  obtain⟨y,hy,rfl⟩:=ap0.1 hx;have hC:∀c∈p.steps.map Step.cond,c.wf:=λc hc=>by
   obtain⟨s,hs,rfl⟩:=ap0.1 hc;exact Ot s hs
  obtain⟨c,hc,hy⟩:=NR hy;exact (EU (NQ c (hC c hc) y hy).1).1
 have hT:1<=UZ p.steps:=by
  cases hs:p.steps with
  |nil=>exact absurd hs h.ne
  |cons s l =>
   have h1:=h.tm s (by rw[hs];exact aba ..);rw[UZ];have:1*1<=s.times.toNat*(s.within.toNat+1):=Nat.mul_le_mul J J;omega
 unfold QL at hz;rw[qz,show (0:Int)=((0:Nat):Int) from rfl,k1] at hz;simp only[ap4] at hz;have hQ:1<=(2^p.lines.toNat+1)*X' ((ZL (p.steps.map Step.cond)).map VX):=Nat.mul_pos hm hP;unfold VD;rw[show (2^p.lines.toNat+1)*(UZ p.steps*X' ((ZL (p.steps.map Step.cond)).map VX))=((2^p.lines.toNat+1)*X' ((ZL (p.steps.map Step.cond)).map VX))*UZ p.steps by rw[Nat.mul_comm (UZ _),Nat.mul_assoc]];generalize (2^p.lines.toNat+1)*X' ((ZL (p.steps.map Step.cond)).map VX)=Q at *;generalize UZ p.steps=T at *;have e5:T<=131072:=J;have h3:Qw Q*T<=65537*131072:=Nat.mul_le_mul (Nat.min_le_right _ _) e5;have h4:((Qw Q:Nat):Int)*((T:Nat):Int)=((Qw Q*T:Nat):Int):=by push_cast;rfl
 unfold Js at hz;rw[h4,wrap_i64 J J] at hz;have h5:Qw Q*T<=n:=J;have h6:Qw Q*1<=Qw Q*T:=Nat.mul_le_mul_left _ hT;have h7:Qw Q=Q:=by unfold Qw at *;omega
 rw[h7] at h5;exact h5
def gy (d:Kd)(c:Z0)(m last sym:Int):FY d c.norm m last sym=FY d c m last sym:=by
 have ha:c.norm.a=c.a:=by cases c;rw[Z0.norm];rfl
 have hb:c.norm.b=c.b:=by cases c;rw[Z0.norm];rfl
 have hi:c.norm.mi=c.mi:=by cases c;rw[Z0.norm];rfl
 have hx:c.norm.ma=c.ma:=by cases c;rw[Z0.norm];rfl
 have hr:=λl t=>yz l t c
 unfold FY wdR tG;rw[ha,hb,hi,hx]
 cases d <;> simp only[hr]
def Jc (last sym:Int):∀l:List Z0,(∀c∈l,∀ms,KA last sym c.norm ms=KA last sym c ms)->∀ms,Ms last sym (VM l) ms=Ms last sym l ms
 |[],_,ms=>by rw[VM]
 |c::l,h,ms=>by
  have ih:=Jc last sym l λx hx=>h x (aab _ hx)
  rw[VM,Ms,Ms,h c (aba ..),ih]
def mQ (last sym:Int):∀(c:Z0) (ms:List Int),KA last sym c.norm ms=KA last sym c ms:=by
 intro c
 induction c using Z0.ind with
 |h k a b mi ma p nl kids ih =>
  intro ms;have h1:=Jc last sym kids λx hx=>ih x hx
  have h2:=gy (Zs k) (.mk k a b mi ma p nl kids) (ms.headD 0) last sym;rw[Z0.norm] at h2 ⊢;rw[KA,KA,h1,h2]
def LJ (S:List Step):(S.map Step.norm).map Step.cond=VM (S.map Step.cond):=by
 rw[RZ,aqY,aqY];rfl
def pT (S:List Step):Wn (S.map Step.norm)=Wn S:=by
 funext i
 unfold Wn;rw[aqc]
 cases S[i]? <;> rfl
def aaF (S:List Step):Tm (S.map Step.norm)=Tm S:=by
 funext i
 unfold Tm;rw[aqc]
 cases S[i]? <;> rfl
def FX (S:List Step):Un (S.map Step.norm)=Un S:=by
 funext x y
 unfold Un;rw[pT,aaF,ala,LJ,Jc _ _ _ λc _=>mQ _ _ c]
def Kz:∀l:List Z0,Zn (VM l)=Zn l
 |[]=>by rw[VM]
 |c::l=>by rw[VM,Zn,Zn,Ky,Kz l]
def gx (S:List Step):je (S.map Step.norm)=je S:=by
 unfold je;rw[LJ,Kz]
def gu (c:Z0):VX c.norm=VX c:=by
 cases c
 rw[Z0.norm];unfold VX WA;rfl
def FV:∀l:List Z0,(∀c∈l,(VE c.norm).map VX=(VE c).map VX)->(ZL (VM l)).map VX=(ZL l).map VX
 |[],_=>by rw[VM]
 |c::l,h=>by rw[VM,ZL,ZL,aqf,aqf,h c (aba ..),FV l λx hx=>h x (aab _ hx)]
def aaG:∀c:Z0,(VE c.norm).map VX=(VE c).map VX:=by
 intro c
 induction c using Z0.ind with
 |h k a b mi ma p nl kids ih =>
  have h1:=FV kids λx hx=>ih x hx
  have h2:=gu (.mk k a b mi ma p nl kids);rw[Z0.norm] at h2 ⊢;rw[VE,VE]
  cases Xn k with
  |true=>exact h1
  |false=>simp only[cond_false,aqe,List.map_nil,h2]
def CA:∀S:List Step,UZ (S.map Step.norm)=UZ S
 |[]=>rfl
 |s::S=>by rw[aqe,UZ,UZ,CA S];rfl
def Cz (S:List Step)(m:Nat):VD (S.map Step.norm) m=VD S m:=by
 unfold VD;rw[CA,LJ,FV _ λc _=>aaG c]
def mP (S:List Step)(m:Nat):N5 (S.map Step.norm) m=N5 S m:=by
 unfold N5;rw[FX,gx,Cz]
def RF {p:Prog}(h:p.ok):Yu p.steps:=by
 refine⟨List.length_pos_iff.2 h.ne,h.wf,h.tm,h.wi,?_⟩;unfold Wn
 cases hs:p.steps[0]? with
 |none=>rfl
 |some s=>exact h.first s hs
def AG (h:Yu S):Yu (S.map Step.norm):=by
 refine⟨by rw[ala];exact h.ne,λs hs=>?_,λs hs=>?_,λs hs=>?_,by rw[pT];exact h.w0⟩
 all_goals
  obtain⟨y,hy,rfl⟩:=ap0.1 hs
 ·exact pS _ (h.wf y hy)
 ·exact h.tm y hy
 ·exact h.wi y hy
def FU (h:Yu S){lines:Int}(hl:1<=lines/\lines<=4)(hz:VD S (2^lines.toNat)<=512):ZS (N4 lines (Un S) (N5 S (2^lines.toNat)))=ZS (N4 lines (YF S) (RP S (2^lines.toNat))):=by
 obtain⟨p1,p2,Rp,p3⟩:=Qh h (2^lines.toNat);obtain⟨r1,r2,Rr,r3⟩:=Cy h (2^lines.toNat);have W_:=P_ h (m:=2^lines.toNat);have SE:∀x∈N5 S (2^lines.toNat),K5 S (2^lines.toNat) x/\DM S x∈RP S (2^lines.toNat):=by
  obtain⟨a,_,_⟩:=Pe (nx:=λx y=>(Un S x y).1) (m:=2^lines.toNat) (n:=VD S (2^lines.toNat)) (Inv:=λx=>K5 S (2^lines.toNat) x/\DM S x∈RP S (2^lines.toNat)) (κ:=iG S (2^lines.toNat)) (λx hx y hy=>by
   obtain⟨k1,k2,k3⟩:=Qa h hx.1 hy;refine⟨k3,?_⟩;rw[k1];obtain⟨j,hj,e⟩:=aqd.1 hx.2;rw[<-e];exact p1.cl j hj hj y hy) (λx hx=>qB h hx.1) (λx y hx hy=>zi h hx.1 hy.1) (VD S (2^lines.toNat)+1) 0 [je S]
   ⟨by simp,λx hx=>by rw[apY.1 hx];exact⟨W_.2,by rw[W_.1,p3];exact aba ..⟩,apW _,λj hj=>J⟩ J
  exact a.inv
 exact ad1 (Inv:=QF S (2^lines.toNat)) (ad2:=K5 S (2^lines.toNat)) (ψ:=DM S) (x0:=AZ S) (x0':=je S) hl p1 r1 (by rw[p3];rfl) (by rw[r3];rfl) W_.1 (λx hx y hy=>⟨(Qa h hx hy).1,(Qa h hx hy).2.1⟩) (λx hx=>(SE x hx).2) J J
def AF (h:Yu S){lines:Int}(hl:1<=lines/\lines<=4)(hz:VD S (2^lines.toNat)<=512):(N4 lines (YF S) (RP S (2^lines.toNat))).ok:=by
 obtain⟨p1,p2,Rp,p3⟩:=Qh h (2^lines.toNat);exact AE hl p1 (by rw[p3];simp) J
def aaH (h:Yu S){lines:Int}(hl:1<=lines/\lines<=4)(hz:VD S (2^lines.toNat)<=512):(N4 lines (Un S) (N5 S (2^lines.toNat))).ok:=by
 obtain⟨p1,p2,Rp,p3⟩:=Cy h (2^lines.toNat);exact AE hl p1 (by rw[p3];simp) J
section
variable {S:Type} [DecidableEq S]
def jD (nx:S->Nat->S×Bool)(l:List Int):Nat->Nat->S->List Int
 |0,_,_=>[]
 |r+1,t,x=>bif (nx x (WL l t)).2 then (t:Int)::jD nx l r (t+1) (nx x (WL l t)).1 else jD nx l r (t+1) (nx x (WL l t)).1
def oc {lines:Int}{nx:S->Nat->S×Bool}{L:List S}{Inv:S->Prop}(h:zx (λx y=>(nx x y).1) (2^lines.toNat) Inv L.length L){l:List Int} :
  ∀(r t s:Nat) (x:S),L[s]? = some x->(∀i,i<r->WL l (t+i)<2^lines.toNat)->(IS (N4 lines nx L).fa l r t s).1=jD nx l r t x
 |0,_,_,_,_,_=>rfl
 |r+1,t,s,x,hs,hl=>by
  obtain⟨YA,hx⟩:=apX.1 hs;have h0:=hl 0 J;rw[Nat.add_zero] at h0;have hn:L[(N4 lines nx L).fa.nx s (WL l t)]? = some (nx x (WL l t)).1:=by
   rw[rl YA h0,hx];refine Gw ?_;have:=h.cl s YA YA _ h0;rw[hx] at this;exact this
  have ih:=oc h r (t+1) _ _ hn λi hi=>by have:=hl (i+1) J;rwa [show t+(i+1)=t+1+i by omega] at this
  rw[IS,jD,rk YA h0,hx];simp only[ih]
end
def n_ {l:List Int}(hl:∀x∈l,0<=x){t:Nat}(ht:t<l.length):((WL l t:Nat):Int)=XG l (t:Int):=by
 unfold WL XG;have:=hl _ (adm ht);rw[aqt,ap6,aaa ht];show ((l[t].toNat:Nat):Int)=l[t];omega
def bH (S:List Step){l:List Int}(hl:∀x∈l,0<=x):∀(r t:Nat) (YI:List Int) (a:Nat) (k g last:Int),t+r<=l.length->(t=0->last = -1)->(0<t->last=XG l ((t-1:Nat):Int))->jD (YF S) l r t ⟨YI,(a,k,g),last⟩=runT l S r t YI (a,k,g)
 |0,_,_,_,_,_,_,_,_,_=>rfl
 |r+1,t,YI,a,k,g,last,ht,h0,h1=>by
  have e:=n_ hl (show t<l.length by omega);have el:decide (last<0)=((t:Int)==0)/\Xu last (WL l t:Nat)=VU l (t:Int):=by
   cases t with
   |zero =>
    rw[h0 rfl,e];exact⟨rfl,by unfold Xu VU;rfl⟩
   |succ u =>
    have hb:=h1 J;rw[show u+1-1=u by omega] at hb;have hp:0<=last:=by
     rw[hb,<-n_ hl J];omega
    rw[decide_eq_false (by omega:¬last<0)];refine⟨?_,?_⟩
    ·symm;simp;omega
    ·rw[N8,<-hb];unfold Xu;rw[decide_eq_false (by omega:¬last<0)];rfl
  rw[jD,runT];unfold YF;simp only;rw[el.1,el.2,e];generalize hm:LL (Wn S) (Tm S) S.length (CF (outs (S.map Step.cond) (XZ (XG l (t:Int)) (VU l (t:Int)) ((t:Int)==0) (ZL (S.map Step.cond)) YI))) a k g=M;obtain⟨⟨a',k',g'⟩,b⟩:=M;have ih:=bH S hl r (t+1) (XS (XG l (t:Int)) (VU l (t:Int)) ((t:Int)==0) (ZL (S.map Step.cond)) YI) a' k' g' (XG l (t:Int)) J (λh=>absurd h J) (λ_=>by rw[show t+1-1=t by omega]);simp only;unfold YF at ih;rw[<-ih]
def rn {p:Prog}(ok:p.ok)(hl:1<=p.lines/\p.lines<=4)(hz:VD p.steps (2^p.lines.toNat)<=512){l:List Int}(hs:ez (2^p.lines.toNat) l) :
  (IS (ZS (N4 p.lines (Un p.steps) (N5 p.steps (2^p.lines.toNat)))).fa l l.length 0 0).1=su l p.steps:=by
 have hS:=RF ok;have dI:∀i,i<l.length->WL l i<2^p.lines.toNat:=λi hi=>(abi hs (nl:=true) hi).2
 have hn:∀x∈l,0<=x:=λx hx=>(hs.2 x hx).1
 obtain⟨p1,p2,Rp,p3⟩:=Qh hS (2^p.lines.toNat);have h0:(RP p.steps (2^p.lines.toNat))[0]? = some (AZ p.steps):=by rw[p3];rfl
 rw[FU hS hl hz,lr (AF hS hl hz) dI,oc p1 l.length 0 0 _ h0 (λi hi=>by rw[ap4];exact dI i hi)];unfold AZ;rw[bH p.steps hn l.length 0 _ 0 0 0 (-1) J (λ_=>rfl) (λh=>absurd h J)];have q:=Ca l p.steps ok.wf;unfold UL at q;rw[q];exact wS l p.steps (by have:=hS.w0;omega) hS.ne
def jJ {p:Prog}(ok:p.ok)(hl:1<=p.lines/\p.lines<=4)(hz:VD p.steps (2^p.lines.toNat)<=512):(ZS (N4 p.lines (Un p.steps) (N5 p.steps (2^p.lines.toNat)))).next.length<=VD p.steps (2^p.lines.toNat):=by
 have hS:=RF ok;obtain⟨p1,p2,Rp,p3⟩:=Qh hS (2^p.lines.toNat);rw[FU hS hl hz];obtain⟨fin,hf⟩:=yT (AF hS hl hz);have e:=lu (N4 p.lines (YF p.steps) (RP p.steps (2^p.lines.toNat)));have h1:=hf.len;have h2:=hf.le;rw[oe] at h2;have h3:(ZS (N4 p.lines (YF p.steps) (RP p.steps (2^p.lines.toNat)))).fa.n=(ZS (N4 p.lines (YF p.steps) (RP p.steps (2^p.lines.toNat)))).next.length:=rfl;omega
end Go.Am
