/- A part of the proof of a statement of this seat: the machine on which the program is read, and what it computes; for every input. -/
import Derived.Test.YtkmaeondbkpajaaGreatDoorG22
import Derived.Test.YtkmaeondbkpajaaGreatDoorG07
import Derived.Test.YtkmaeondbkpajaaGreatDoorG23
import Derived.Test.YtkmaeondbkpajaaGreatDoorG09
import Derived.Test.YtkmaeondbkpajaaGreatDoorG19
import Derived.Test.YtkmaeondbkpajaaGreatDoorG21
import Derived.Test.YtkmaeondbkpajaaGreatDoorG15
set_option linter.all false
namespace Go.Am
open Go
variable [ZZ]
set_option maxRecDepth 100000
set_option maxHeartbeats 8000000
theorem jW:isS (UN U (exec U 100000) 75 [.int .i64 (-1)] true) [45,49]=true:=by kernel_rfl
def Co (n:Int):X6:=bif decide (n<0) then [45,49] else dg n
theorem dp (n:Int)(h0 : -1<=n)(h1:n<=255):Zw U 75 [.int .i64 n]=some (.str (Co n)):=by
 unfold Co;by_cases h:n<0
 ·have:n = -1:=by omega
  subst this;exact I9 (by kernel_rfl) rfl (RQ U (n:=100000) (kE jW))
 ·rw[decide_eq_false h];exact ah0 n (by omega) h1
theorem dU:((List.range 256).all fun n=>Nat.ble 1 (Ui n).length&&Nat.ble (Ui n).length 3&&(Ui n).all (fun c=>!(c==32)&&!(c==45))&&((List.range 256).all fun m=>!(Ui n==Ui m)||Nat.beq n m))=true:=by kernel_rfl
theorem Ro {n:Int}(h0 : -1<=n)(h1:n<=255):Co n≠[]/\(Co n).length<=3/\(32:UInt8)∉Co n/\∀m:Int,-1<=m->m<=255->Co n=Co m->n=m:=by
 have key:∀k:Nat,k<256->dg (k:Int)=Ui k:=fun k hk=>by
  unfold dg;rw[ajD,zN k (by omega)]
 have Xv:=ajq.1 dU;have hx:∀k:Nat,k<256->1<=(Ui k).length/\(Ui k).length<=3/\(32:UInt8)∉Ui k/\(45:UInt8)∉Ui k/\∀m,m<256->Ui k=Ui m->k=m:=fun k hk=>by
  have h:=Xv k (ajE.2 hk);simp only[adm] at h;obtain⟨⟨⟨a1,a2⟩,a3⟩,a4⟩:=h;have a3:=ajq.1 a3;refine⟨Nat.le_of_ble_eq_true a1,Nat.le_of_ble_eq_true a2,fun hm=>?_,fun hm=>?_,fun m hm e=>?_⟩
  ·have:=a3 _ hm;simp at this
  ·have:=a3 _ hm;simp at this
  ·have:=ajq.1 a4 m (ajE.2 hm);rw[e] at this;simp at this;exact Nat.eq_of_beq_eq_true (by simpa using this)
 by_cases h:n<0
 ·have:n = -1:=by omega
  subst this;refine⟨by decide,by decide,by decide,fun m m0 m1 e=>?_⟩;by_cases hm:m<0
  ·omega
  ·obtain⟨k,rfl⟩:=Int.eq_ofNat_of_zero_le (show 0<=m by omega);have e2:Co (k:Int)=Ui k:=by unfold Co;rw[decide_eq_false hm];exact key k (by omega)
   rw[e2] at e;have h45:=(hx k (by omega)).2.2.2.1;rw[<-e] at h45;exact absurd (by decide) h45
 ·obtain⟨j,rfl⟩:=Int.eq_ofNat_of_zero_le (show 0<=n by omega);have e1:Co (j:Int)=Ui j:=by unfold Co;rw[decide_eq_false h];exact key j (by omega)
  obtain⟨b1,b2,b3,b4,b5⟩:=hx j (by omega);rw[e1];refine⟨fun e=>by rw[e] at b1;simp at b1,b2,b3,fun m m0 m1 e=>?_⟩;by_cases hm:m<0
  ·have:m = -1:=by omega
   subst this;rw[e] at b4;exact absurd (by decide) b4
  ·obtain⟨k,rfl⟩:=Int.eq_ofNat_of_zero_le (show 0<=m by omega);have e2:Co (k:Int)=Ui k:=by unfold Co;rw[decide_eq_false hm];exact key k (by omega)
   rw[e2] at e;rw[b5 k (by omega) e]
def Rq (L:List Int):X6:=L.flatMap fun n=>Co n++[32]
theorem Q6 (n:Int)(L:List Int):Rq (n::L)=Co n++32::Rq L:=by
 unfold Rq;rw[ajL,ajQ];rfl
theorem jV:∀(a b x y:X6),(32:UInt8)∉a->(32:UInt8)∉b->a++32::x=b++32::y->a=b/\x=y
 |[],[],x,y,_,_,e=>⟨rfl,by simpa using e⟩
 |[],c::b,x,y,_,h,e=>by
  simp at e;exact absurd (by rw[<-e.1];exact aba ..) h
 |c::a,[],x,y,h,_,e=>by
  simp at e;exact absurd (by rw[e.1];exact aba ..) h
 |c::a,d::b,x,y,h,h',e=>by
  simp only[ajz,List.cons.injEq] at e;obtain⟨e1,e2⟩:=jV a b x y (fun hm=>h (aab _ hm)) (fun hm=>h' (aab _ hm)) e.2;exact⟨by rw[e.1,e1],e2⟩
def aq (L:List Int):Prop:=∀n∈L,-1<=n/\n<=255
theorem zz:∀(L M:List Int),aq L->aq M->Rq L=Rq M->L=M
 |[],[],_,_,_=>rfl
 |[],m::M,_,_,e=>by
  rw[Q6] at e;have:=congrArg List.length e;simp[Rq] at this
 |n::L,[],_,_,e=>by
  rw[Q6] at e;have:=congrArg List.length e;simp[Rq] at this
 |n::L,m::M,h,h',e=>by
  rw[Q6,Q6] at e;obtain⟨a1,a2⟩:=h n (aba ..);obtain⟨b1,b2⟩:=h' m (aba ..);obtain⟨_,_,c3,c4⟩:=Ro a1 a2;obtain⟨_,_,d3,_⟩:=Ro b1 b2;obtain⟨e1,e2⟩:=jV _ _ _ _ c3 d3 e;rw[c4 m b1 b2 e1,zz L M (fun x hx=>h x (aab _ hx)) (fun x hx=>h' x (aab _ hx)) e2]
theorem PC:∀(L:List Int),aq L->(Rq L).length<=L.length*4
 |[],_=>by simp[Rq]
 |n::L,h=>by
  obtain⟨a1,a2⟩:=h n (aba ..);have:=(Ro a1 a2).2.1;have h2:=PC L fun x hx=>h x (aab _ hx)
  rw[Q6,ajh,ajk,ajk];omega
theorem Br (L:List Int)(n:Int):Rq (L++[n])=(Rq L++Co n)++[32]:=by
 unfold Rq;simp
def du (b:Nat)(s s':St):Prop:=∀j c t,j<s.next->j≠b->s.get j=some (.cells c t false 0 0)->t≠5->s'.get j=s.get j
theorem dt {s:St}{b:Nat}{bs:X6}(h:JX s b bs)(hf:Fr s)(t:X6)(ht:t≠[])(hlen:bs.length+t.length<=2^39) :
  ∃s' r,SH U 79 [.ptr b 0,.str t] s=some (r,s')/\JX s' b (bs++t)/\Fr s'/\s.next<=s'.next/\du b s s':=by
 obtain⟨p,v,hg,hp,hb,hv⟩:=h;obtain⟨s0,g1,g2,g3,g4,g5⟩:=aA hg hp hb;have Qf:=hv.Xg;have Un:(bs.length+t.length)*1<=1099511627776:=by omega
 have VD:bs.length+t.length<=1099511627776:=by omega
 have iX:(t.length=0)=False:=by simp[ht]
 have Qm:ZF s0 (b+1) 5 1 bs.length (X5 bs) v:=hv.mono (by omega) fun j hj yh=>g4 j (by omega)
 obtain⟨s1,e1,e2,e3,e4,e5⟩:=Qm.Il (by omega) (m:=t.length) (new:=X5 t) (by intro h0;simp[ht] at h0) (by rw[SV];omega) (Mv t);have kb:=e4 b (by omega) (Qm.Bt (.inr (by omega)));rw[g3] at kb;rw[g2] at e1 e2 e3;refine⟨s1.put b (.cells [.ptr b 0,.sl s.next 0 (bs.length+t.length) none 1] 150 false 0 0),.XF [.int .i64 t.length,.Ul],?_,⟨.ptr b 0,.sl s.next 0 (bs.length+t.length) none 1,by rw[Z0,if_pos rfl],.inr rfl,by rw[Z_];omega,?_⟩,(e5 (g5 hf)).put (by omega) _,by rw[Z_];omega,fun j c t' hj hJ hc iN=>?_⟩
 ·refine V_ acZ (by kernel_rfl) ?_;simp only[go_sem,az,ay,g1,g2,g3,Mu,Nat.add_eq_left,ZD,Qf,Un,VD,Nat.reducePow,SV,iX,ajj,not_false_eq_true];rw[e1];simp only[go_sem,kb]
 ·have hl:(bs++t).length=bs.length+t.length:=by simp
  rw[hl];have yS:X5 (bs++t)=X5 bs++X5 t:=by simp[X5]
  rw[yS];exact e3.mono (by rw[Z_];omega) fun j hj _=>by rw[Z0,if_neg (by omega)]
 ·rw[Z0,if_neg (by omega),e4 j (by omega) (Qm.other (by rw[g4 j hJ];exact hc) iN),g4 j hJ]
theorem dr {s:St}{b:Nat}{bs:X6}(h:JX s b bs)(hf:Fr s)(c:UInt8)(hlen:bs.length+1<=2^39) :
  ∃s',SH U 78 [.ptr b 0,.int .u8 c.toNat] s=some (.Ul,s')/\JX s' b (bs++[c])/\Fr s'/\s.next<=s'.next/\du b s s':=by
 obtain⟨p,v,hg,hp,hb,hv⟩:=h;obtain⟨s0,g1,g2,g3,g4,g5⟩:=aA hg hp hb;have Qf:=hv.Xg;have Un:(bs.length+1)*1<=1099511627776:=by omega
 have VD:bs.length+1<=1099511627776:=by omega
 have Qm:ZF (s0.new (.cells [.int .u8 c.toNat] 5 false 0 0)) (b+1) 5 1 bs.length (X5 bs) v:=hv.mono (by rw[Z'];omega) fun j hj yh=>by rw[ZY,if_neg (by omega),g4 j (by omega)]
 obtain⟨s1,e1,e2,e3,e4,e5⟩:=Qm.Il (by rw[Z'];omega) (m:=1) (new:=[.int .u8 c.toNat]) (by omega) rfl rfl;have kb:=e4 b (by rw[Z'];omega) (Qm.Bt (.inr (by omega)));rw[ZY,if_neg (by omega),g3] at kb;rw[Z',g2] at e1 e2 e3;refine⟨s1.put b (.cells [.ptr b 0,.sl (s.next+1) 0 (bs.length+1) none 1] 150 false 0 0),?_,⟨.ptr b 0,.sl (s.next+1) 0 (bs.length+1) none 1,by rw[Z0,if_pos rfl],.inr rfl,by rw[Z_];omega,?_⟩,(e5 ((g5 hf).new _)).put (by omega) _,by rw[Z_];omega,fun j c' t' hj hJ hc iN=>?_⟩
 ·refine V_ agi (by kernel_rfl) ?_;simp only[go_sem,ac0,ay,g1,g2,g3,Nat.add_eq_left,ZD,Qf,Un,VD,Nat.reducePow];rw[e1];simp only[go_sem,kb]
 ·have hl:(bs++[c]).length=bs.length+1:=by simp
  rw[hl];have yS:X5 (bs++[c])=X5 bs++[.int .u8 c.toNat]:=by simp[X5]
  rw[yS];exact e3.mono (by rw[Z_];omega) fun j hj _=>by rw[Z0,if_neg (by omega)]
 ·rw[Z0,if_neg (by omega),e4 j (by rw[Z'];omega) (Qm.other (by rw[ZY,if_neg (by omega),g4 j hJ];exact hc) iN),ZY,if_neg (by omega),g4 j hJ]
theorem dq (args:List AV)(s:St):XR U (Zw U 78 args) 78 args s=SH U 78 args s:=(XL U 78 args s).symm
theorem agj {args:List AV}{s:St}(h:ZO args=false):XR U (Zw U 133 args) 133 args s=Tq U 133 (YT (Yc U s 40) args) s:=yP (by kernel_rfl) s h
theorem Ik (l:List Int)(s:St):WV 1 (.fz (ints l)) s=some (l.length,ints l):=by
 have h1:(ints l).all (fun x=>x.cells.length==1)=true:=by
  rw[ajq];intro x hx;obtain⟨n,_,rfl⟩:=ajs.1 hx;rfl
 have h2:(ints l).flatMap AV.cells=ints l:=by
  unfold ints;rw[List.flatMap_map]
  induction l with
  |nil=>rfl
  |cons x l ih=>rw[ajL,aju,ih (by
    rw[ints,aju,List.all_cons,adm] at h1;exact h1.2)];rfl
 simp only[WV,h1,h2,Zl];rfl
theorem PD {L:List Int}{i:Nat}(h:i<L.length):L.take (i+1)=L.take i++[L[i]]:=ajC h
theorem agk {Za:List Int}{a k g last:Int}(Ya:aq (a::k::g::last::Za))(h0:Za≠[])(hl:Za.length<=2^20):Zw U 133 [.fz (ints Za),.agg [.int .i64 a,.int .i64 k,.int .i64 g],.int .i64 last]=some (.str (Rq (a::k::g::last::Za))):=by
 refine ZI ac1 (by kernel_rfl) (by simp[ZO,still]) ?_;obtain⟨L,hL⟩:∃L,L=a::k::g::last::Za:=⟨_,rfl⟩;have hLl:L.length=4+Za.length:=by rw[hL];simp;omega
 have dy:Za.length≠0:=fun e=>h0 (ajI.1 e)
 rw[<-hL] at Ya ⊢;have Bs:=fun S=>Ik Za S
 simp only[go_sem,g_,Bs];have e1:JW 3 1 8 (.sl 10 0 4 (some 4) 1) (some (Za.length,ints Za)) ((((Yl U).new (.cells [.int .i64 a,.int .i64 k,.int .i64 g] 133 false 0 0)).new (.cells [.VI,.ZM] 150 false 0 0)).new (.cells [.int .i64 a,.int .i64 k,.int .i64 g,.int .i64 last] 3 false 0 0))=some (.sl 11 0 (4+Za.length) none 1,((((Yl U).new (.cells [.int .i64 a,.int .i64 k,.int .i64 g] 133 false 0 0)).new (.cells [.VI,.ZM] 150 false 0 0)).new (.cells [.int .i64 a,.int .i64 k,.int .i64 g,.int .i64 last] 3 false 0 0)).new (.cells (ints L) 3 false 0 0)):=by
  have hz:Go.Am.Xg (.sl 10 0 4 (some 4) 1)=4:=rfl;rw[ZD (by rw[Zl];omega) (by rw[hz];omega) (by rw[hz];omega) dy,TU (cs:=[.int .i64 a,.int .i64 k,.int .i64 g,.int .i64 last]) (lo:=0) (hi:=0) (by simp only[go_sem]) rfl (by omega)];rw[hL];rfl
 rw[e1];simp only[go_sem];obtain⟨S0,Lm⟩:∃S0,S0=((((Yl U).new (.cells [.int .i64 a,.int .i64 k,.int .i64 g] 133 false 0 0)).new (.cells [.VI,.ZM] 150 false 0 0)).new (.cells [.int .i64 a,.int .i64 k,.int .i64 g,.int .i64 last] 3 false 0 0)).new (.cells (ints L) 3 false 0 0):=⟨_,rfl⟩;rw[<-Lm];have DL:S0.next=12:=by rw[Lm];simp only[go_sem]
 have gL0:S0.get 11=some (.cells (ints L) 3 false 0 0):=by rw[Lm];simp only[go_sem]
 have gb0:S0.get 9=some (.cells [.VI,.ZM] 150 false 0 0):=by rw[Lm];simp only[go_sem]
 have fr0:Fr S0:=by rw[Lm];exact (((Fr.own.new _).new _).new _).new _
 rw[<-hLl];refine YG (Zu:=fun (o:Option AV)=>o=some (.str (Rq L))) (σ:=Nat) (fun i=>L.length-i) (fun i e' s'=>i<=L.length/\Env.get e' 7=.ptr 9 0/\Env.get e' 19=.sl 11 0 L.length none 1/\Env.get e' 20=.int .i64 (L.length:Nat)/\Env.get e' 21=.int .i64 (i:Nat)/\s'.get 11=some (.cells (ints L) 3 false 0 0)/\12<=s'.next/\Fr s'/\JX s' 9 (Rq (L.take i))) 0 ?_
  ⟨aji _,?_,?_,?_,?_,gL0,by omega,fr0,⟨.VI,.ZM,gb0,.inl rfl,by omega,ZF.nil _ _ _ _⟩⟩
 ·rintro Lp i e' s' ⟨hi,q7,aT,iE,ix,gL,UL,UB,hB⟩ IH;by_cases hd:i<L.length
  ·have hw:=ZE hd (by omega);have hx:(ints L)[i]? = some (.int .i64 L[i]):=by rw[ints,ajv,aaa hd];rfl
   obtain⟨o1,o2⟩:=Ya L[i] (ajc hd);have hit:=dp L[i] o1 o2;obtain⟨f1,f2,_,_⟩:=Ro o1 o2;have Cp:=PC (L.take i) fun x hx=>Ya x (List.mem_of_mem_take hx)
   rw[aj2] at Cp;obtain⟨s1,r1,h131,B1,gZ,n1,K1⟩:=dt hB UB (Co L[i]) f1 (by omega);obtain⟨s2,h130,B2,IV,n2,K2⟩:=dr B1 gZ 32 (by rw[ajh];omega);have g1:=K1 11 _ _ (by omega) (by omega) gL (by decide);have gL1:=g1.trans gL;have g2:=K2 11 _ _ (by omega) (by omega) gL1 (by decide);have gL2:=g2.trans gL1;have h130:SH U 78 [.ptr 9 0,.int .u8 32] s1=some (.Ul,s2):=h130;simp only[go_sem,Mt,q7,aT,iE,ix,Z9,hd,gL,hx,hit,oD,h131,dq,h130,hw,ajr,ajj];refine IH (i+1) _ _ (by omega) ⟨by omega,?_,?_,?_,?_,gL2,by omega,IV,?_⟩
   case refine_5=>rw[PD hd,Br];exact B2
   all_goals simp only[go_sem,q7,aT,iE]
  ·have hie:i=L.length:=by omega
   subst hie;rw[List.take_length] at hB;have Cp:=PC L Ya;obtain⟨s3,h133,n3,tn,_⟩:=oC hB UB (by omega);simp only[go_sem,Mt,q7,iE,ix,Z9,ajp,va,h133]
 all_goals simp only[go_sem]
 all_goals rfl
def aeH (x:RN):AV:=.agg [.int .i64 x.last,.fz (ints x.marks),.int .i64 x.cur.1,.int .i64 x.cur.2.1,.int .i64 x.cur.2.2]
end Go.Am
namespace Go.Am
open Go
variable [ZZ]
set_option maxRecDepth 100000
set_option maxHeartbeats 4000000
def WG (c:ZX):Nat:=(WZ (Zy c.kind) c).toNat
def dgM (d:Kd)(m:Int):Nat:=match d with
 |.Vj|.gap=>(m+1).toNat
 |_=>m.toNat
mutual
def y_:ZX->List Nat
 |.mk k a b mi ma p nl kids=>bif XJ k then 1::Kc kids else [WG (.mk k a b mi ma p nl kids)]
def Kc:List ZX->List Nat
 |[]=>[]
 |c::l=>y_ c++Kc l
end
mutual
def Oh:ZX->List Int->List Nat
 |.mk k a b mi ma p nl kids,ms=>bif XJ k then 0::Q0 kids ms.tail else [dgM (Zy k) (ms.headD 0)]
def Q0:List ZX->List Int->List Nat
 |[],_=>[]
 |c::l,ms=>Oh c ms++Q0 l (ms.drop (leaves c))
end
theorem v9 {c:ZX}(hc:c.wf):(WG c:Int)=match Zy c.kind with
  |.Vj|.gap=>c.ma+3
  |.idle|.setup=>c.mi+2
  |.Um=>4
  |_=>1:=by
 have h:=hc.Cz;have h1:=h.mi;have h2:=h.ma;unfold WG WZ
 cases Zy c.kind <;> simp only
 all_goals try rw[wrap_i64 (by omega) (by omega)]
 all_goals omega
theorem pQ {c:ZX}(hc:c.wf){m last:Int}(h:jI (Zy c.kind) c m last):dgM (Zy c.kind) m<WG c/\0<=vZ (Zy c.kind) c m/\(vZ (Zy c.kind) c m).toNat<WG c:=by
 have hv:=v9 hc;have hs:=hc.Cz;have h1:=hs.mi;have h2:=hs.ma;generalize WG c=z at *
 cases hd:Zy c.kind <;> rw[hd] at h hv <;> simp only[jI,dgM,vZ] at h hv ⊢
 case Vj =>
  obtain⟨q1,q2,_⟩:=h;by_cases e:m = -1
  ·subst e;refine⟨by omega,?_,?_⟩ <;> simp <;> omega
  ·have e':(m == -1)=false:=by simpa using e
   rw[e',cond_false];omega
 case gap =>
  obtain⟨q1,q2,_⟩:=h;by_cases e:m = -1
  ·subst e;refine⟨by omega,?_,?_⟩ <;> simp <;> omega
  ·have e':(m == -1)=false:=by simpa using e
   rw[e',cond_false];omega
 case setup =>
  by_cases e:m=0
  ·subst e;refine⟨by omega,?_,?_⟩ <;> simp <;> omega
  ·have e':(m==0)=false:=by simpa using e
   rw[e',cond_false];omega
 case Um =>
  obtain⟨q1,q2,_⟩:=h;have:m=0\/m=1\/m=2:=by omega
  rcases this with rfl|rfl|rfl <;> simp <;> omega
 all_goals omega
theorem iZ {d:Kd}{c:ZX}{m m' last Qw:Int}(h:jI d c m last)(h':jI d c m' Qw)(e:dgM d m=dgM d m'):m=m':=by
 cases d <;> simp only[jI,dgM] at h h' e <;> omega
structure ace (last:Int)(c:ZX)(ms:List Int):Prop where
 Zj:Vd (y_ c) (Oh c ms)
 app:∀v,Oh c (ms++v)=Oh c ms
 Za:Vd ((Wd c).map WG) ((Ng c ms).map Int.toNat)
 pos:∀x∈Ng c ms,0<=x
structure acf (last:Int)(l:List ZX)(ms:List Int):Prop where
 Zj:Vd (Kc l) (Q0 l ms)
 app:∀v,Q0 l (ms++v)=Q0 l ms
 Za:Vd ((ZQ l).map WG) ((KP l ms).map Int.toNat)
 pos:∀x∈KP l ms,0<=x
theorem OS {last:Int}:∀(l:List ZX) (ms:List Int),(∀c∈l,∀ms,Gz last c ms->ace last c ms)->FP last l ms->acf last l ms
 |[],ms,_,h=>⟨by rw[Kc,Q0];trivial,fun v=>by rw[Q0,Q0],by rw[ZQ,KP];trivial,fun x hx=>by rw[KP] at hx;simp at hx⟩
 |c::l,ms,hc,h=>by
  rw[FP] at h;obtain⟨u,v,rfl,hu,h1,h2⟩:=h;obtain⟨a1,a2,a3,a4⟩:=hc c (aba ..) u h1;obtain⟨b1,b2,b3,b4⟩:=OS l v (fun x hx=>hc x (aab _ hx)) h2;refine⟨?_,fun w=>?_,?_,fun x hx=>?_⟩
  ·rw[Kc,Q0,a2,<-hu,aj5];exact Jh _ _ _ _ a1 b1
  ·rw[Q0,Q0,ajQ,a2,a2,<-hu,aj5,aj5,b2]
  ·rw[ZQ,KP,Nf c u v h1,<-hu,aj5,ajA,ajA];exact Jh _ _ _ _ a3 b3
  ·rw[KP,Nf c u v h1,<-hu,aj5] at hx;rcases ajX.1 hx with hx|hx
   ·exact a4 x hx
   ·exact b4 x hx
theorem OR {last:Int}:∀c:ZX,c.wf->∀ms,Gz last c ms->ace last c ms:=by
 intro c
 induction c using ZX.ind with
 |h k a b mi ma p nl kids ih =>
  intro QZ ms h;have Kb:=QZ;rw[ZX.wf] at Kb;have RT:∀x∈kids,x.wf:=Kb.2.2.2.2.2.2.2.2.2.2.2.2;rw[Gz] at h
  cases hk:XJ k with
  |true =>
   rw[hk,if_pos rfl] at h;obtain⟨r,rfl,hr⟩:=h;obtain⟨a1,a2,a3,a4⟩:=OS kids r (fun x hx ms hm=>ih x hx (RT x hx) ms hm) hr;refine⟨?_,fun v=>?_,?_,fun x hx=>?_⟩
   ·rw[y_,Oh,hk];exact⟨Nat.one_pos,a1⟩
   ·rw[Oh,Oh,hk];simp only[cond_true,ajz,List.tail_cons,a2]
   ·rw[Wd,Ng,hk];exact a3
   ·rw[Ng,hk] at hx;exact a4 x hx
  |false =>
   rw[hk,if_neg (by decide)] at h;obtain⟨m,rfl,hm⟩:=h;obtain⟨d1,d2,d3⟩:=pQ QZ hm;refine⟨?_,fun v=>?_,?_,fun x hx=>?_⟩
   ·rw[y_,Oh,hk];exact⟨d1,trivial⟩
   ·rw[Oh,Oh,hk];rfl
   ·rw[Wd,Ng,hk];exact⟨d3,trivial⟩
   ·rw[Ng,hk] at hx;rw[ajm.1 hx];exact d2
theorem Jg {last Qw:Int}:∀(l:List ZX) (ms ns:List Int),(∀c∈l,∀ms ns,Gz last c ms->Gz Qw c ns->Oh c ms=Oh c ns->ms=ns)->(∀c∈l,c.wf)->FP last l ms->FP Qw l ns->Q0 l ms=Q0 l ns->ms=ns
 |[],ms,ns,_,_,h,h',_=>by rw[FP] at h h';rw[h,h']
 |c::l,ms,ns,hc,hw,h,h',e=>by
  rw[FP] at h h';obtain⟨u,v,rfl,hu,h1,h2⟩:=h;obtain⟨u',v',rfl,y0,h1',h2'⟩:=h';have d1:=OR c (hw c (aba ..)) u h1;have d2:=OR c (hw c (aba ..)) u' h1';have hl:∀(bs ds es:List Nat),Vd bs ds->Vd bs es->ds.length=es.length:=by
   intro bs
   induction bs with
   |nil=>intro ds es h h';cases ds <;> cases es <;> simp_all [Vd]
   |cons b bs ih=>intro ds es h h';cases ds <;> cases es <;> simp_all [Vd];exact ih _ _ h.2 h'.2
  rw[Q0,Q0,d1.app,d2.app] at e;have hlen:=hl _ _ _ d1.Zj d2.Zj;obtain⟨e1,e2⟩:=List.append_inj e hlen;have x1:(u++v).drop (leaves c)=v:=by rw[<-hu,aj5]
  have x2:(u'++v').drop (leaves c)=v':=by rw[<-y0,aj5]
  rw[x1,x2] at e2;rw[hc c (aba ..) u u' h1 h1' e1,Jg l v v' (fun x hx=>hc x (aab _ hx)) (fun x hx=>hw x (aab _ hx)) h2 h2' e2]
theorem pP {last Qw:Int}:∀c:ZX,c.wf->∀ms ns,Gz last c ms->Gz Qw c ns->Oh c ms=Oh c ns->ms=ns:=by
 intro c
 induction c using ZX.ind with
 |h k a b mi ma p nl kids ih =>
  intro QZ ms ns h h' e;have Kb:=QZ;rw[ZX.wf] at Kb;have RT:∀x∈kids,x.wf:=Kb.2.2.2.2.2.2.2.2.2.2.2.2;rw[Gz] at h h';rw[Oh,Oh] at e
  cases hk:XJ k with
  |true =>
   rw[hk,if_pos rfl] at h h';rw[hk,cond_true,cond_true] at e;obtain⟨r,rfl,hr⟩:=h;obtain⟨r',rfl,UM⟩:=h';simp only[List.tail_cons,List.cons.injEq,true_and] at e;rw[Jg kids r r' (fun x hx ms ns=>ih x hx (RT x hx) ms ns) RT hr UM e]
  |false =>
   rw[hk,if_neg (by decide)] at h h';rw[hk,cond_false,cond_false] at e;obtain⟨m,rfl,hm⟩:=h;obtain⟨m',rfl,hm'⟩:=h';simp only[List.headD_cons,List.cons.injEq,and_true] at e;rw[iZ hm hm' e]
theorem Lz:∀(l:List ZX),(∀c∈l,Yv (y_ c)=Yv ((Wd c).map WG))->Yv (Kc l)=Yv ((ZQ l).map WG)
 |[],_=>by rw[Kc,ZQ];rfl
 |c::l,h=>by
  rw[Kc,ZQ,ajA,RR,RR,h c (aba ..),Lz l fun x hx=>h x (aab _ hx)]
theorem tC:∀c:ZX,Yv (y_ c)=Yv ((Wd c).map WG):=by
 intro c
 induction c using ZX.ind with
 |h k a b mi ma p nl kids ih =>
  rw[y_,Wd]
  cases XJ k with
  |true=>rw[cond_true,cond_true,Yv,ajB];exact Lz kids ih
  |false=>rfl
def Wu (S:List Step)(m:Nat):Nat:=(m+1)*(VC S*Yv ((ZQ (S.map Step.cond)).map WG))
def pO (S:List Step)(m:Nat)(x:RN):Nat:=Ka ((m+1)::VC S::Kc (S.map Step.cond)) ((x.last+1).toNat::SG S x.cur.1 x.cur.2.1.toNat x.cur.2.2.toNat::Q0 (S.map Step.cond) x.marks)
def tB (S:List Step)(m:Nat)(x:PN):Nat:=Ka ((m+1)::VC S::(ZQ (S.map Step.cond)).map WG) ((x.last+1).toNat::SG S x.cur.1 x.cur.2.1.toNat x.cur.2.2.toNat::x.Za.map Int.toNat)
theorem SD {S:List Step}:∀{a:Nat} {k g:Int},Gs S (a,k,g)->J' S a k.toNat g.toNat:=by
 have key:∀(S:List Step) (a k g:Nat),a<S.length->(k:Int)<Tm S a->(g:Int)<=Wn S a->J' S a k g:=by
  intro S
  induction S with
  |nil=>intro a k g h;simp at h
  |cons s S ih =>
   intro a k g h1 h2 h3
   cases a with
   |zero =>
    have e1:Tm (s::S) 0=s.times:=rfl;have e2:Wn (s::S) 0=s.within:=rfl;rw[e1] at h2;rw[e2] at h3;rw[J'];omega
   |succ a =>
    have e1:Tm (s::S) (a+1)=Tm S a:=rfl;have e2:Wn (s::S) (a+1)=Wn S a:=rfl;rw[e1] at h2;rw[e2] at h3;rw[J'];exact ih a k g (by simpa using h1) h2 h3
 intro a k g h;have h1:=h.k;have h2:=h.g;simp only at h1 h2;exact key S a _ _ h.a (by omega) (by omega)
theorem vY {S:List Step}(h:YN S){m:Nat}{x:RN}(hx:Nd S m x):pO S m x<Wu S m:=by
 obtain⟨marks,⟨a,k,g⟩,last⟩:=x;have d:=OS (last:=last) (S.map Step.cond) marks (fun c hc ms hm=>OR c (h.qh c hc) ms hm) hx.marks;have hl:=hx.last;simp only at hl;have:=D4 ((m+1)::VC S::Kc (S.map Step.cond)) ((last+1).toNat::SG S a k.toNat g.toNat::Q0 (S.map Step.cond) marks) ⟨by omega,QY S a _ _ (SD hx.cur),d.Zj⟩;unfold Wu;rw[Yv,Yv,Lz _ fun c _=>tC c] at this;exact this
theorem Ck {S:List Step}(h:YN S){m:Nat}{x y:RN}(hx:Nd S m x)(hy:Nd S m y)(e:pO S m x=pO S m y):x=y:=by
 obtain⟨marks,⟨a,k,g⟩,last⟩:=x;obtain⟨yZ,⟨a',k',g'⟩,Qw⟩:=y;have d:=OS (last:=last) (S.map Step.cond) marks (fun c hc ms hm=>OR c (h.qh c hc) ms hm) hx.marks;have d':=OS (last:=Qw) (S.map Step.cond) yZ (fun c hc ms hm=>OR c (h.qh c hc) ms hm) hy.marks;have hl:=hx.last;have D3:=hy.last;simp only at hl D3;have he:=Jf _ _ _ (show Vd ((m+1)::VC S::Kc (S.map Step.cond)) ((last+1).toNat::SG S a k.toNat g.toNat::Q0 (S.map Step.cond) marks) from⟨by omega,QY S a _ _ (SD hx.cur),d.Zj⟩)
  (show Vd ((m+1)::VC S::Kc (S.map Step.cond)) ((Qw+1).toNat::SG S a' k'.toNat g'.toNat::Q0 (S.map Step.cond) yZ) from⟨by omega,QY S a' _ _ (SD hy.cur),d'.Zj⟩) e
 simp only[List.cons.injEq] at he;obtain⟨e1,e2,e3⟩:=he;obtain⟨f1,f2,f3⟩:=Je S _ _ _ _ _ _ (SD hx.cur) (SD hy.cur) e2;have k1:=hx.cur.k.1;have k2:=hy.cur.k.1;have g1:=hx.cur.g.1;have g2:=hy.cur.g.1;simp only at k1 k2 g1 g2;have e4:=Jg (S.map Step.cond) marks yZ (fun c hc ms ns=>pP c (h.qh c hc) ms ns) h.qh hx.marks hy.marks e3;subst f1;subst e4;have:last=Qw:=by omega
 subst this;have:k=k':=by omega
 subst this;have:g=g':=by omega
 subst this;rfl
def Si (S:List Step)(m:Nat)(x:PN):Prop:=∃r,Nd S m r/\Gr S r=x
theorem Si.Zj {S:List Step}(h:YN S){m:Nat}{x:PN}(hx:Si S m x):(Vd ((m+1)::VC S::(ZQ (S.map Step.cond)).map WG) ((x.last+1).toNat::SG S x.cur.1 x.cur.2.1.toNat x.cur.2.2.toNat::x.Za.map Int.toNat))/\(-1<=x.last/\x.last<m)/\Gs S x.cur/\(∀s∈x.Za,0<=s)/\x.Za.length=(ZQ (S.map Step.cond)).length:=by
 obtain⟨⟨marks,⟨a,k,g⟩,last⟩,hr,rfl⟩:=hx;have d:=OS (last:=last) (S.map Step.cond) marks (fun c hc ms hm=>OR c (h.qh c hc) ms hm) hr.marks;have w:=Nc (last:=last) (sym:=0) (S.map Step.cond) marks (fun c hc ms hm=>vX hr.last.1 c (h.qh c hc) ms hm) hr.marks;have hl:=hr.last;simp only at hl;exact⟨⟨by show (last+1).toNat<m+1;omega,QY S a _ _ (SD hr.cur),d.Za⟩,hl,hr.cur,d.pos,w.len⟩
theorem D2 {S:List Step}(h:YN S){m:Nat}{x:PN}(hx:Si S m x):tB S m x<Wu S m:=by
 have:=D4 _ _ (hx.Zj h).1;rw[Yv,Yv] at this;exact this
theorem toNat_inj:∀{a b:List Int},(∀x∈a,0<=x)->(∀x∈b,0<=x)->a.map Int.toNat=b.map Int.toNat->a=b
 |[],[],_,_,_=>rfl
 |x::a,y::b,h,h',e=>by
  simp only[aju,List.cons.injEq] at e;have h1:=h x (aba ..);have h2:=h' y (aba ..);rw[toNat_inj (fun z hz=>h z (aab _ hz)) (fun z hz=>h' z (aab _ hz)) e.2,show x=y by omega]
 |[],y::b,_,_,e=>by simp at e
 |x::a,[],_,_,e=>by simp at e
theorem Jd {S:List Step}(h:YN S){m:Nat}{x y:PN}(hx:Si S m x)(hy:Si S m y)(e:tB S m x=tB S m y):x=y:=by
 obtain⟨u1,l1,c1,p1,_⟩:=hx.Zj h;obtain⟨u2,l2,c2,p2,_⟩:=hy.Zj h;have he:=Jf _ _ _ u1 u2 e;obtain⟨Za,⟨a,k,g⟩,last⟩:=x;obtain⟨aiQ,⟨a',k',g'⟩,Qw⟩:=y;simp only[List.cons.injEq] at he l1 l2 p1 p2;obtain⟨e1,e2,e3⟩:=he;obtain⟨f1,f2,f3⟩:=Je S _ _ _ _ _ _ (SD c1) (SD c2) e2;have k1:=c1.k.1;have k2:=c2.k.1;have g1:=c1.g.1;have g2:=c2.g.1;simp only at k1 k2 g1 g2;have e4:=toNat_inj p1 p2 e3;subst f1;subst e4;have:last=Qw:=by omega
 subst this;have:k=k':=by omega
 subst this;have:g=g':=by omega
 subst this;rfl
end Go.Am
namespace Go.Am
open Go
variable [ZZ]
set_option maxRecDepth 100000
set_option maxHeartbeats 8000000
theorem CN {f:FuncId}{rs:List ResultVar}{r:RC}(h:Zb f=some (rs,r)){args:List AV}{s:St}{x:AV×St}(hg:go U (Rs U rs) [] r (Zc 0 args .nil) s=some x):Po U (Yo U) f args s=some x:=by
 obtain⟨fn,c,f1,f2,f3,f4⟩:=Ox h;exact Ma U f1 f2 f3 f4 hg
def MkV (s:St)(bM:Nat)(l:List Int)(v:AV):Prop:=v=.fz (ints l)\/(v=.sl bM 0 l.length (some l.length) 1/\s.get bM=some (.cells (ints l) 3 false 0 0))
theorem MkV.keep {s s':St}{bM:Nat}{l:List Int}{v:AV}(h:MkV s bM l v)(hg:s'.get bM=s.get bM):MkV s' bM l v:=by
 rcases h with h|⟨h1,h2⟩
 ·exact .inl h
 ·exact .inr ⟨h1,by rw[hg];exact h2⟩
def ly (x:RN)(v:AV):List AV:=[.int .i64 x.last,v,.int .i64 x.cur.1,.int .i64 x.cur.2.1,.int .i64 x.cur.2.2]
theorem MkV.Yc {s:St}{bM:Nat}{x:RN}{v:AV}(h:MkV s bM x.marks v)(d:Nat):Go.Am.Yc U s (d+4) (.agg (ly x v))=some (aeH x):=by
 have e:Go.Am.Yc U s (d+3) v=some (.fz (ints x.marks)):=by
  rcases h with rfl|⟨rfl,hg⟩
  ·rw[HD]
  ·exact Jz (d:=d+1) (cap:=some x.marks.length) hg
 have hm:YT (Go.Am.Yc U s (d+3)) (ly x v)=some [.int .i64 x.last,.fz (ints x.marks),.int .i64 x.cur.1,.int .i64 x.cur.2.1,.int .i64 x.cur.2.2]:=by
  unfold ly;simp only[YT,e];rfl
 rw[WK,hm];rfl
end Go.Am
