/- A part of the proof. -/
import Derived.Test.YtkmaeondbkpajaaGreatDoorE34
set_option linter.all false
set_option maxHeartbeats 8000000
set_option maxRecDepth 100000
namespace Go.Am
open Go
variable [Z8]
theorem I9 {L:Nat}(hL:L<=16){l:List Int}(h:l.length<=4096)(hx:∀x∈l,0<=x/\x<(2:Int)^L):Sl (L:Nat) l=0:=by
 unfold Sl;have h1:decide ((l.length:Int)>4096)=false:=decide_eq_false J;have h2:Nz (L:Nat) l=false:=by
  rw[Nz,List.any_eq_false];intro x L7;have:=hx x L7;rw[aqt];simp[outside];omega
 rw[h1,h2,Zp,Zp]
structure PrE (p:Prog)(L:Nat):Prop where
 lines:p.lines=(L:Nat)
 fits:p.fits
 adx:p.norm.fits
 VE:(ZL (p.norm.steps.map Step.cond)).length<=2^20
 cp:pk p.norm=0
theorem prE {p:Prog}(hs:short p 6=true)(BW:AH p=0){L:Nat}(Tp:p.lines=(L:Nat)):PrE p L:=by
 have hf:=O2 hs;obtain⟨_,_,uF⟩:=wD Mo hs;exact⟨Tp,hf,EO hf,uF,by rw[xG,BT,BW]⟩
theorem PrE.q18 {p:Prog}{L:Nat}(h:PrE p L)(hL:L<=16){l:List Int}(hl:l.length<=4096)(hx:∀x∈l,0<=x/\x<(2:Int)^L):ZE U 18 [XU p.norm,ZU true (ints l)]=some (.XQ [ZU true (ints (UL l p.norm.steps)),.int .i64 0]):=by
 rw[c32 p.norm h.adx h.VE true l];have hn:p.norm.lines=(L:Nat):=h.lines;unfold abh;rw[h.cp,hn,I9 hL hl hx];rfl
theorem PrE.ajT {p:Prog}{L:Nat}(h:PrE p L)(hL:L<=16){l:List Int}(hl:l.length<=4096)(hx:∀x∈l,0<=x/\x<(2:Int)^L){s:St}{B:Nat}{v:AV}(hv:ZD s B 3 1 l.length (ints l) v):Yx U (ZE U 18 [XU p.norm,v]) 18 [XU p.norm,v] s=some (.XQ [ZU true (ints (UL l p.norm.steps)),.int .i64 0],s):=by
 have hn:p.norm.lines=(L:Nat):=h.lines;exact anZ h.adx h.VE h.cp (by rw[hn];exact I9 hL hl hx) hv
section
variable {p o:Prog}{L:Nat}(hL:L=1\/L=2)(hp:PrE p L)(ho:PrE o L){A B:Zv}(hA:ym p A L)(hB:ym o B L){d:List Nat}(D:bR A B d)
include hL hp ho hA hB D
theorem alv:∀x∈Ur d,0<=x/\x<(2:Int)^L:=λx hx=>by
 obtain⟨z,hz,rfl⟩:=ap0.1 hx;have h1:=D.sym z hz;have h2:A.fa.m=2^L:=by show 2^A.lines.toNat=_;rw[hA.lines,aqt]
 rw[h2] at h1;have h3:=Int.ofNat_lt.2 h1;push_cast at h3;exact⟨Int.natCast_nonneg _,h3⟩
theorem ahg:d.length<=300:=by
 have h1:=D.short;have h2:=hA.le;have h3:=hB.le;have e1:A.fa.n=A.next.length:=rfl;have e2:B.fa.n=B.next.length:=rfl;omega
theorem alw:ZE U 33 [XU p,XU o,.int .i64 (min (((d.length-1:Nat):Int)) (5-p.lines))]=some (.bool true):=by
 have hd:=ahg hL hp ho hA hB D;have mG:L<=16:=by rcases hL with rfl|rfl <;> omega
 have hL5:L<=5:=by rcases hL with rfl|rfl <;> omega
 have em:min (((d.length-1:Nat):Int)) (5-p.lines)=((min (d.length-1) (5-L):Nat):Int):=by
  rw[hp.lines];omega
 rw[em];have hn:L*min (d.length-1) (5-L)<=6:=by
  rcases hL with rfl|rfl <;> omega
 refine aiG hL hp.lines hn (T:=Q' A.fa) ⟨c33 p hp.fits,c33 o ho.fits,λl s B' v hl hx hv=>?_,λl s B' v hl hx hv=>?_,rr _⟩ ho.lines
 ·have:=hp.ajT mG J hx hv;rw[hA.times l J hx] at this;exact this
 ·have:=ho.ajT mG J hx hv;rw[hB.times l J hx] at this;have ha:Q' A.fa l=Q' B.fa l:=D.toyi.alike J λi hi=>by
   have h2:A.fa.m=2^L:=by show 2^A.lines.toNat=_;rw[hA.lines,aqt]
   rw[h2];have L7:=hx l[i] (adm hi);have e:WL l i=l[i].toNat:=by
    unfold WL;rw[Y' hi]
   rw[e];have:((2^L:Nat):Int)=(2:Int)^L:=by push_cast;rfl
   omega
  rw[ha];exact this
end
end Go.Am
namespace Go.Am
open Go
variable [Z8]
def tA (p o:Prog){L:Nat}(hL:L=1\/L=2)(hp:PrE p L)(ho:PrE o L){A B:Zv}(hA:ym p A L)(hB:ym o B L)
  (s1:short p 6=true)(s2:short o 6=true)(k1:AH p=0)(k2:AH o=0)(z1:decide (p.lines<=3)&&decide (Kq p<=150))(z2:decide (o.lines<=3)&&decide (Kq o<=150)):ZE U 6 [XU p,XU o]=some (.bool true):=by
 have aw:=yl;have Se:=c31 p 6;have QZ:=c31 o 6;rw[s1] at Se;rw[s2] at QZ;have O6:=c34 p hp.fits;have OB:=c34 o ho.fits;rw[k1] at O6;rw[k2] at OB;have l16:0<=p.lines/\p.lines<=16:=by rw[hp.lines];rcases hL with rfl|rfl <;> omega
 have ad6:0<=o.lines/\o.lines<=16:=by rw[ho.lines];rcases hL with rfl|rfl <;> omega
 have Hh:=c39 p hp.fits l16 150;have Au:=c39 o ho.fits ad6 150;rw[z1] at Hh;rw[z2] at Au;have aaL:=c33 p hp.fits;have aaM:=c33 o ho.fits;have aaN:=hA.q16;have aaO:=hB.q16;have fZ:=c50 A;have ad7:=c50 B;rw[hA.ck] at fZ;rw[hB.ck] at ad7;have ZB:(p.lines != o.lines)=false:=by rw[hp.lines,ho.lines];simp
 have h2:decide (p.lines>2)=false:=by rw[hp.lines];rcases hL with rfl|rfl <;> rfl
 have h00:((0:Int) != 0)=false:=rfl;have e00:((0:Int)==0)=true:=rfl;have w0:IntKind.i64.wrap (0+0)=0:=wrap_zero;have w0':IntKind.i64.wrap 0=0:=wrap_zero;have la:U1 (VI A)=some (.int .i64 A.next.length):=by
  have:=ZN A.Xb (A.next.map ZF);rw[ala] at this;exact this
 have lb:U1 (VI B)=some (.int .i64 B.next.length):=by
  have:=ZN B.Xb (B.next.map ZF);rw[ala] at this;exact this
 have ga:decide ((A.next.length:Int)>150)=false:=decide_eq_false (by have:=hA.le;omega);have gb:decide ((B.next.length:Int)>150)=false:=decide_eq_false (by have:=hB.le;omega);have na1:Zu (VI A)=true:=ZV ..;have na2:Zu (XD A)=true:=ZV ..;have ca1:(VI A).cells=[VI A]:=ZK ..;have ca2:(XD A).cells=[XD A]:=ZK ..;have nb1:Zu (VI B)=true:=ZV ..;have nb2:Zu (XD B)=true:=ZV ..;have cb1:(VI B).cells=[VI B]:=ZK ..;have cb2:(XD B).cells=[XD B]:=ZK ..;have np:=ZV p.nl (Zy p.steps);have no:=ZV o.nl (Zy o.steps);have cp:=ZK p.nl (Zy p.steps);have co:=ZK o.nl (Zy o.steps);have hAB:A.lines=B.lines:=by rw[hA.lines,hB.lines]
 have bnb:∀x y:Bool,Xj U .neq 4 false (.bool x) (.bool y)=some (.bool (x != y)):=λx y=>aaP false x y
 refine ZP KP It (by simp[ZT,YK]) ?_;rcases aaQ hA.toMi hB.toMi hAB with rfl|⟨d,D⟩
 ·have C:=ahf hA.toMi;have q27:=C.q27;have At:=C.At;have DQ:=C.DQ;have Hk:=hA.ok.pos;have Hm:=yj A.fa.n (UE A);have e77:((7:Int)==7)=true:=rfl;have b1:(true != true)=false:=rfl;generalize XU p.norm=PN at *;generalize XU o.norm=ON at *;rw[Ze p] at Se O6 Hh aaL ⊢;rw[Ze o] at QZ OB Au aaM ⊢;rw[YH A] at aaN aaO fZ q27 At DQ;simp only[go_sem,Oe,A4,A5,aw,Se,QZ,O6,OB,Hh,Au,aaL,aaM,aaN,aaO,fZ,q27,At,DQ,ZB,h2,h00,e00,e77,w0',la,ga,na1,na2,Hm,bnb,b1];refine ad8 (k:=A.fa.n) (L:=UE A) (by have:=C.len;have:=hA.le;have:A.fa.n=A.next.length:=rfl;omega) C.diag ?_ ?_ ?_ ?_ ?_ ?_
  case refine_6 =>
   intro e' s' v h1 h13 hv hs hn fr;simp only[go_sem] at hs hn;have u10:=hs 10 J;have u11:=hs 11 J;simp only[go_sem] at u10 u11;simp only[go_sem];refine ad9 C Hk ?_ ?_ ?_ h13 u10 u11 hv
   ·rw[h1 5 J];simp only[go_sem]
   ·rw[h1 7 J];simp only[go_sem]
   ·rw[h1 11 J];simp only[go_sem]
  case refine_5 =>
   repeat first|exact Fr.own|apply Fr.new|apply Fr.put|apply Fr.upto
   all_goals simp only[go_sem]
   all_goals first|rfl|omega|decide
  all_goals simp only[go_sem]
  all_goals rfl
 ·have q27:=D.q27;have At:=D.At;have DQ:=D.DQ;have hds:=alv hL hp ho hA hB D;have hdl:=ahg hL hp ho hA hB D;have nr:=D.pos;have mG:L<=16:=by rcases hL with rfl|rfl <;> omega
  have q33:=alw hL hp ho hA hB D;have ad_:=hp.q18 mG (l:=Ur d) (by rw[VG];omega) hds;have ad':=ho.q18 mG (l:=Ur d) (by rw[VG];omega) hds;rw[hA.times _ (by rw[VG];omega) hds,HZ _ nr] at ad_;rw[hB.times _ (by rw[VG];omega) hds,HZ _ nr,<-D.toyi.base] at ad';have q31:=c28 p.lines (by rw[hp.lines];rcases hL with rfl|rfl <;> omega) (by rw[hp.lines];omega) true (Ur d);have hck:Sl p.lines (Ur d)=0:=by rw[hp.lines];exact I9 mG (by rw[VG];omega) hds
  rw[hck] at q31;have Ik:(Rx A.fa d).length<=d.length-1:=by
   unfold Rx;rw[ala];have:=List.length_filter_le (WH A.fa (Ur d)) (List.range (d.length-1))
   rwa [aqR] at this
  have ahh:=fY A.fa d;have L_:=D.last;have e07:((0:Int)==7)=false:=rfl;have alx:((29:Int)==0)=false:=rfl;have e29:((29:Int) != 29)=false:=rfl;have b1:(false != false)=false:=rfl;have ld:U1 (ZU true (Zz d))=some (.int .i64 (d.length:Nat)):=by
   rw[ZN,Wd]
  have ed0:((d.length:Int)==0)=false:=by rw[beq_eq_false_iff_ne];omega
  have wab:IntKind.i64.wrap ((A.next.length:Int)+(B.next.length:Int))=(A.next.length:Int)+(B.next.length:Int):=by
   have:=hA.le;have:=hB.le;rw[wrap_i64] <;> omega
  have gd:decide ((d.length:Int)>(A.next.length:Int)+(B.next.length:Int))=false:=by
   have h1:=D.short;have e1:A.fa.n=A.next.length:=rfl;have e2:B.fa.n=B.next.length:=rfl;exact decide_eq_false J
  have nd:Zu (ZU true (Zz d))=true:=ZV ..;have aly:ZE U 31 [.int .i64 p.lines,ZU true (Zz d)]=some (.int .i64 0):=q31;have ac3:ZE U 18 [XU p.norm,ZU true (Zz d)]=_:=ad_;have ac4:ZE U 18 [XU o.norm,ZU true (Zz d)]=_:=ad';obtain⟨x16,aaR⟩:∃x,x=ZU true (ints (Rx A.fa d++(bif WH A.fa (Ur d) (d.length-1) then [((d.length-1:Nat):Int)] else []))):=⟨_,rfl⟩;obtain⟨x18,aaS⟩:∃x,x=ZU true (ints (Rx A.fa d++(bif WH B.fa (Ur d) (d.length-1) then [((d.length-1:Nat):Int)] else []))):=⟨_,rfl⟩;rw[<-aaR] at ac3;rw[<-aaS] at ac4;have apz:Zu x16=true:=by rw[aaR];exact ZV ..
  have apA:Zu x18=true:=by rw[aaS];exact ZV ..
  have h16:x16=bif WH A.fa (Ur d) (d.length-1) then ZU true (ints (Rx A.fa d++[((d.length-1:Nat):Int)])) else ZU true (ints (Rx A.fa d)):=by
   rw[aaR]
   cases WH A.fa (Ur d) (d.length-1) <;> simp
  have h18:x18=bif WH A.fa (Ur d) (d.length-1) then ZU true (ints (Rx A.fa d)) else ZU true (ints (Rx A.fa d++[((d.length-1:Nat):Int)])):=by
   rw[aaS]
   cases h1:WH A.fa (Ur d) (d.length-1) <;> cases h2:WH B.fa (Ur d) (d.length-1) <;> first|(exact absurd (h1.trans h2.symm) L_)|simp
  clear ad_ ad' aaR aaS;have key:∀(e:Env) (s:St),e.get 2=.ptr 8 0->e.get 3=.ptr 9 0->e.get 9=ZU true (Zz d)->e.get 16=x16->e.get 18=x18->s.get 8=some (.cells [.int .i64 p.lines,ZU p.nl (Zy p.steps)] 31 false 0 0)->s.get 9=some (.cells [.int .i64 o.lines,ZU o.nl (Zy o.steps)] 31 false 0 0)->Fr s->9<s.next->∀ks,go U (U7 U [.tmp 4]) ks Pf e s=some (.bool true):=λe s j2 j3 j9 j16 j18 u8 u9 fr nx ks =>
   aeb (p:=p) (o:=o) (b:=Rx A.fa d) (last:=d.length-1) ahh Ik J hL hp.lines (d:=d) J (one:=WH A.fa (Ur d) (d.length-1)) j2 j3 j9 (j16.trans h16) (j18.trans h18) u8 u9 fr nx q33
  clear h16 h18 q33;generalize ZU true (Zz d)=DD at *;generalize XU p.norm=PN at *;generalize XU o.norm=ON at *;rw[Ze p] at Se O6 Hh aaL ⊢;rw[Ze o] at QZ OB Au aaM ⊢;rw[YH A] at aaN fZ q27 At DQ;rw[YH B] at aaO ad7 q27 At DQ;simp only[go_sem,Oe,A4,A5,ql,aw,Se,QZ,O6,OB,Hh,Au,aaL,aaM,aaN,aaO,fZ,ad7,q27,At,DQ,ZB,h2,h00,e07,alx,e29,w0',la,lb,ga,gb,na1,na2,nb1,nb2,bnb,b1,ld,ed0,wab,gd,aly,ac3,ac4];refine key _ _ ?_ ?_ ?_ ?_ ?_ ?_ ?_ ?_ ?_ _
  case refine_8 =>
   repeat first|exact Fr.own|apply Fr.new|apply Fr.put|apply Fr.upto
   all_goals simp only[go_sem]
   all_goals first|rfl|omega|decide
  all_goals simp only[go_sem]
  all_goals first|rfl|omega|decide
def ajU (p o:Prog):ZE U 6 [XU p,XU o]=some (.bool true):=by
 have aw:=yl;have Se:=c31 p 6;have QZ:=c31 o 6;have np:=ZV p.nl (Zy p.steps);have no:=ZV o.nl (Zy o.steps);have cp:=ZK p.nl (Zy p.steps);have co:=ZK o.nl (Zy o.steps);have h00:((0:Int) != 0)=false:=rfl
 cases s1:short p 6 with
 |false =>
  rw[s1] at Se;refine ZP KP It (by simp[ZT,YK]) ?_;rw[Ze p] at Se ⊢;rw[Ze o];simp only[go_sem,Oe,aw,Se,Ug,Ra]
 |true =>
 rw[s1] at Se
 cases s2:short o 6 with
 |false =>
  rw[s2] at QZ;refine ZP KP It (by simp[ZT,YK]) ?_;rw[Ze p] at Se ⊢;rw[Ze o] at QZ ⊢;simp only[go_sem,Oe,aw,Se,QZ,Ug,Ra]
 |true =>
 rw[s2] at QZ;have iQ:=O2 s1;have hfo:=O2 s2;have O6:=c34 p iQ;have OB:=c34 o hfo
 cases k1:(AH p != 0) with
 |true =>
  refine ZP KP It (by simp[ZT,YK]) ?_;rw[Ze p] at Se O6 ⊢;rw[Ze o] at QZ OB ⊢;simp only[go_sem,Oe,aw,Se,QZ,O6,k1,Ug,Ra]
 |false =>
 have k1':AH p=0:=by simpa using k1
 rw[k1'] at O6
 cases k2:(AH o != 0) with
 |true =>
  refine ZP KP It (by simp[ZT,YK]) ?_;rw[Ze p] at Se O6 ⊢;rw[Ze o] at QZ OB ⊢;simp only[go_sem,Oe,aw,Se,QZ,O6,OB,h00,k2,Ug,Ra]
 |false =>
 have iO:AH o=0:=by simpa using k2
 rw[iO] at OB
 cases ZB:(p.lines != o.lines) with
 |true =>
  refine ZP KP It (by simp[ZT,YK]) ?_;rw[Ze p] at Se O6 ⊢;rw[Ze o] at QZ OB ⊢;simp only[go_sem,Oe,aw,Se,QZ,O6,OB,h00,ZB,Ug,Ra]
 |false =>
 cases h2:decide (p.lines>2) with
 |true =>
  refine ZP KP It (by simp[ZT,YK]) ?_;rw[Ze p] at Se O6 ⊢;rw[Ze o] at QZ OB ⊢;simp only[go_sem,Oe,aw,Se,QZ,O6,OB,h00,ZB,h2,Ug,Ra]
 |false =>
 have ok1:=L8 k1';have ok2:=L8 iO;have pY:p.lines=o.lines:=by simpa using ZB
 have IY:¬p.lines>2:=of_decide_eq_false h2;have Da:=ok1.lines;have l16:0<=p.lines/\p.lines<=16:=J;have ad6:0<=o.lines/\o.lines<=16:=J;have Hh:=c39 p iQ l16 150;have Au:=c39 o hfo ad6 150
 cases z1:(decide (p.lines<=3)&&decide (Kq p<=150)) with
 |false =>
  rw[z1] at Hh;refine ZP KP It (by simp[ZT,YK]) ?_;rw[Ze p] at Se O6 Hh ⊢;rw[Ze o] at QZ OB ⊢;simp only[go_sem,Oe,aw,Se,QZ,O6,OB,Hh,h00,ZB,h2,Ug,Ra]
 |true =>
 cases z2:(decide (o.lines<=3)&&decide (Kq o<=150)) with
 |false =>
  rw[z1] at Hh;rw[z2] at Au;refine ZP KP It (by simp[ZT,YK]) ?_;rw[Ze p] at Se O6 Hh ⊢;rw[Ze o] at QZ OB Au ⊢;simp only[go_sem,Oe,aw,Se,QZ,O6,OB,Hh,Au,h00,ZB,h2]
 |true =>
 obtain⟨L,Tp,hL⟩:∃L:Nat,p.lines=(L:Nat)/\(L=1\/L=2):=⟨p.lines.toNat,J,J⟩;have zw:o.lines=(L:Nat):=by rw[<-pY,Tp]
 have y1:=z1;have y2:=z2;rw[ahe,decide_eq_true_iff,decide_eq_true_iff,size_eq ok1] at y1;rw[ahe,decide_eq_true_iff,decide_eq_true_iff,size_eq ok2] at y2;obtain⟨A,hA⟩:=adv s1 k1' Tp hL y1.2;obtain⟨B,hB⟩:=adv s2 iO zw hL y2.2;exact tA p o hL (prE s1 k1' Tp) (prE s2 iO zw) hA hB s1 s2 k1' iO z1 z2
end Go.Am
