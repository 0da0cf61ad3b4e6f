/- A part of the proof. -/
import Derived.Test.YtkmaeondbkpajaaGreatDoorE06
set_option linter.all false
set_option maxHeartbeats 8000000
set_option maxRecDepth 100000
namespace Go.Am
open Go
variable [Z8]
variable {e:Env}{s:St}{L:List Nat}
def afX {b n f t:Nat}{cap:Option Nat}(hc:cap=none\/cap=some n)(h1:f<=t)(h2:t<=n):Dh 1 (.sl b 0 n cap 1) (some (.int .i64 (f:Int))) (some (.int .i64 (t:Int)))=some (.sl b f (t-f) (cap.map (·-f)) 1):=by
 have e1:Yv (some (.int .i64 (t:Int))) n n=some t:=by simp[Yv];omega
 have e2:Yv (some (.int .i64 (f:Int))) 0 t=some f:=by simp[Yv];omega
 rcases hc with rfl|rfl
 ·simp only[Dh,Option.getD_none,e1,e2,ap3,ap4,if_true]
 ·simp only[Dh,aq6,e1,e2,ap3,ap4,if_true]
def sw {b n:Nat}(hL:L.length=n)(hg:s.get b=some (.cells (Zz L) 3 false 0 0))(k:Nat) :
  PF 3 1 1 [.int .i64 (k:Int)] (.sl b 0 n none 1) s=some (.sl s.next 0 (n+1) none 1,(s.put b .gone).new (.cells (Zz (L++[k])) 3 false 0 0)):=by
 have FO:(Zz L).length=n*1:=by rw[Wd,hL,ap3]
 rw[R_,hg,T9 FO J rfl,JW]
def aU {b n:Nat}(hL:L.length=n)(hg:s.get b=some (.cells (Zz L) 3 false 0 0)) :
  PF 3 1 1 [.int .i64 0] (.sl b 0 n none 1) s=some (.sl s.next 0 (n+1) none 1,(s.put b .gone).new (.cells (Zz (L++[0])) 3 false 0 0)):=sw hL hg 0
def Ix {l:List Nat}{f t:Nat}(h:t<=l.length):(piece l f t).length=t-f:=by unfold piece;simp;omega
def aT {l:List Nat}{f t i:Nat}(h:t<=l.length)(hi:i<t-f):(piece l f t)[i]'(by rw[Ix h];exact hi)=gt l (f+i):=by
 rw[Sy J];unfold piece;rw[List.getElem_take,List.getElem_drop]
def aoA {β:Type}{fin:Fl->β}{ks:List K}{ZC:β->Prop}{pb bl bs n f t K m x1 x4 x5:Nat}{L S:List Nat}{vp ve vm:AV}{c:Option Nat}{bb:Nat}(hft:f<=t)(ht:t<=L.length)(hL:L.length<=2^20)(hK:K<=2^20)(hS:S.length=n)(uF:∀i,i<L.length->gt L i<n)(hps:pb≠bs)(o5:bl≠bs)
  (g0:e.get 0=.ptr pb 0)(ij:e.get 119=.sl bl f (t-f) c 1)(ig:e.get 120=.int .i64 ((t-f:Nat):Int))(af_:e.get 121=.int .i64 (0:Nat))
  (gp:s.get pb=some (.cells [.sl bl 0 L.length none 1,vp,.sl bs 0 n (some n) 1,.sl bb 0 (K+1) none 1,ve,vm] 261 false 0 0))(gl:s.get bl=some (.cells (Zz L) 3 false 0 0))(gs:s.get bs=some (.cells (Zz S) 3 false 0 0))(pM:bs<s.next)(fr:Fr s)
  (hk:∀e' s',e'.get 0=.ptr pb 0->s'.get bs=some (.cells (Zz (Xd K (piece L f t) S)) 3 false 0 0)->(∀j,j≠bs->s'.get j=s.get j)->s.next<=s'.next->Fr s'->ZC (goN U fin ks e' s')) :
  ZC (SJ U fin (.bk 0::ks) JR e s):=by
 have Tp:=Ix (f:=f) ht;refine YT (σ:=Nat) (λi=>t-f-i) (λi e' s'=>i<=t-f/\e'.get 0=.ptr pb 0/\e'.get 119=.sl bl f (t-f) c 1/\e'.get 120=.int .i64 ((t-f:Nat):Int)/\e'.get 121=.int .i64 (i:Nat)/\(∀j,j≠bs->s'.get j=s.get j)/\s.next<=s'.next/\Fr s' /\
   ∃S',S'.length=n/\s'.get bs=some (.cells (Zz S') 3 false 0 0)/\Xd K ((piece L f t).drop i) S'=Xd K (piece L f t) S) 0 ?_
  ⟨apW _,g0,ij,ig,af_,λ_ _=>rfl,api _,fr,S,hS,gs,rfl⟩
 rintro Lp i e' s' ⟨hi,q0,ic,tW,akg,hs,Vq,Wk,S',hS',qs,Mg⟩ IH;have gp':=(hs pb hps).trans gp;have gl':=(hs bl o5).trans gl;by_cases hd:i<t-f
 ·have hw:=ZI hd J;have o1:=XY (l:=L) (i:=f+i) J;have hu:=uF (f+i) J;have Hi:=Vu (l:=S') (i:=gt L (f+i)) K J;rw[aea (by rw[Tp];exact hd),aT ht hd,Xd] at Mg;have w1:IntKind.i64.wrap (((K+1:Nat):Int)-1)=(K:Int):=by rw[wrap_i64] <;> omega
  have z1:(bs=pb)=False:=eq_false hps.symm;have z2:(bs=bl)=False:=eq_false o5.symm;simp (maxSteps:=2000000) +contextual only[go_sem,JR,q0,ic,tW,akg,Z9,hd,gp',gl',qs,o1,hu,Hi,w1,hw,ap3];refine IH (i+1) _ _ J ⟨J,?_,?_,?_,?_,λj hj=>?_,?_,?_,S'.set (gt L (f+i)) K,by rw[aqH];exact hS',?_,Mg⟩
  ·simp +contextual only[go_sem,q0]
  ·simp +contextual only[go_sem,ic]
  ·simp +contextual only[go_sem,tW]
  ·simp +contextual only[go_sem]
  ·rw[Z7,O3 hj.symm,ZR];exact hs j hj
  ·rw[Z_,Z6];omega
  ·exact (Wk.upto J).put O0 _
  ·rw[Z7,Of rfl]
 ·have:i=t-f:=J;subst this;have hdn:(piece L f t).drop (t-f)=[]:=by rw[<-Tp,aqi]
  rw[hdn,Xd] at Mg;simp (maxSteps:=2000000) +contextual only[go_sem,JR,tW,akg,Z9,ap5];refine hk _ _ ?_ (by rw[qs,Mg]) hs Vq Wk;simp +contextual only[go_sem,q0]
def acA (s0:St)(pb n bl bp bs bb be bm:Nat)(p:Pt)(v:Int)(r:Option (AV×St)):Prop :=
 ∃s' OO OM OL,r=some (.int .i64 v,s')/\KY s' pb n bl bp bs OO OM OL p/\s0.next<=s'.next/\Fr s'/\(OO=bb\/s0.next<=OO)/\(OM=be\/s0.next<=OM)/\(OL=bm\/s0.next<=OL) /\
  ∀j,j<s0.next->j≠pb->j≠bs->j≠bb->j≠be->j≠bm->s'.get j=s0.get j
def f217 {s S:St}{pb n bl bp bs bb be bm b1 b2 b3 f t:Nat}{c:Option Nat}{p:Pt}{bg' en' mr':List Nat}(Ik:bg'.length=p.bg.length+1)(Dn:en'.length=p.en.length+1)(hml:mr'.length=p.mr.length+1)(h:KY s pb n bl bp bs bb be bm p)(hw:p.Wf n)(hn:n<=2^19)(hft:f<=t)(ht:t<=n)
  (TV:s.next<=b1)(U5:b1<b2)(zo:b2<b3)(hb4:b3<S.next)
  (g0:e.get 0=.ptr pb 0)(ij:e.get 119=.sl bl f (t-f) c 1)(ig:e.get 120=.int .i64 ((t-f:Nat):Int))(af_:e.get 121=.int .i64 (0:Nat))
  (gp:S.get pb=some (.cells [.sl bl 0 p.list.length none 1,.sl bp 0 p.place.length (some n) 1,.sl bs 0 p.set.length (some n) 1,.sl b1 0 (p.bg.length+1) none 1,.sl b2 0 (p.en.length+1) none 1,.sl b3 0 (p.mr.length+1) none 1] 261 false 0 0))
  (gs:S.get bs=some (.cells (Zz p.set) 3 false 0 0))(k1:S.get b1=some (.cells (Zz bg') 3 false 0 0))(k2:S.get b2=some (.cells (Zz en') 3 false 0 0))(k3:S.get b3=some (.cells (Zz mr') 3 false 0 0))(fr:Fr S)
  (hold:∀j,j<s.next->j≠pb->j≠bs->j≠bb->j≠be->j≠bm->S.get j=s.get j) :
  acA s pb n bl bp bs bb be bm { list:=p.list,place:=p.place,set:=Xd p.bg.length (piece p.list f t) p.set,bg:=bg',en:=en',mr:=mr' } p.bg.length
   (SJ U (Us U [.tmp 4]) [.bk 0,.sq (.seq (.ops [⟨some 138,none,none,false,.Qq (.t 0)⟩,⟨some 139,none,none,false,.raw (.nilCheck (.tmp 138))⟩,⟨some 140,none,none,false,.fa 3 (.t 139)⟩,⟨some 141,none,none,false,.Sr (.t 140)⟩,⟨some 142,none,none,false,.QE (.t 141)⟩,
    ⟨some 143,none,none,false,.bin .sub 3 true (.t 142) (.v (.int .i64 1))⟩,⟨some 4,none,none,false,.Qq (.t 143)⟩]) .ret)] JR e S):=by
 have A:=Ap.of h.ne;have o5:=hw.ls;have Hm:=hw.ll;have hlp:=hw.lp;have Pm:=hw.few;have lpb:=h.lt pb No;have lbl:=h.lt bl No;have lbp:=h.lt bp No;have lbs:=h.lt bs No;have gl:S.get bl=some (.cells (Zz p.list) 3 false 0 0):=(hold bl lbl A.n1.symm A.n8 A.n9 A.o9 A.lO).trans h.gl;have gpl:S.get bp=some (.cells (Zz p.place) 3 false 0 0):=(hold bp lbp A.n2.symm A.o8 A.eV A.n14 A.zp).trans h.gp;have gp':=gp;rw[o5] at gp';refine aoA (ZC:=acA s pb n bl bp bs bb be bm { list:=p.list,place:=p.place,set:=Xd p.bg.length (piece p.list f t) p.set,bg:=bg',en:=en',mr:=mr' } p.bg.length) (x1:=0) (x4:=0) (x5:=0) (m:=0) (K:=p.bg.length) hft J J J o5 (λi hi=>(hw.li i J).1) A.n3 A.n8 g0 ij ig af_ gp' gl gs J fr ?_;intro e' s' q0 qs hs Vq Wk;have w1:IntKind.i64.wrap (((p.bg.length+1:Nat):Int)-1)=(p.bg.length:Int):=by rw[wrap_i64] <;> omega
 have hp:=(hs pb A.n3).trans gp;simp (maxSteps:=2000000) +contextual only[go_sem,q0,hp,w1];refine⟨s',b1,b2,b3,rfl,⟨?_,(hs bl A.n8).trans gl,(hs bp A.o8).trans gpl,qs,(hs b1 J).trans k1,(hs b2 J).trans k2,(hs b3 J).trans k3,?_,?_⟩,J,Wk,.inr TV,.inr J,.inr J,λj h1 h2 h3 h4 h5 h6=>by rw[hs j h3,hold j h1 h2 h3 h4 h5 h6]⟩
 ·rw[hp];simp only[Lu,Ik,Dn,hml]
 ·have:=A.n1;have:=A.n2;have:=A.n3;have:=A.n7;have:=A.n8;have:=A.o8;simp only[aqW,ap9,List.not_mem_nil,not_or,or_false,List.nodup_nil,and_true,not_false_eq_true];refine⟨⟨A.n1,A.n2,A.n3,?_,?_,?_⟩,⟨A.n7,A.n8,?_,?_,?_⟩,⟨A.o8,?_,?_,?_⟩,⟨?_,?_,?_⟩,⟨?_,?_⟩,?_⟩ <;> omega
 ·intro j hj;simp only[ap9,List.not_mem_nil,or_false] at hj;rcases hj with rfl|rfl|rfl|rfl|rfl|rfl|rfl <;> omega
def aoB {pb n bl bp bs bb be bm:Nat}{p:Pt}(h:KY s pb n bl bp bs bb be bm p)(hw:p.Wf n)(hn:n<=2^19)(fr:Fr s){k:Nat}(hk:k<p.bg.length)(hm0:0<gt p.mr k) :
  acA s pb n bl bp bs bb be bm (p.cut k).1 (bif (p.cut k).2 then (p.bg.length:Int) else -1) (UN U 172 [.ptr pb 0,.int .i64 (k:Int)] s):=by
 suffices K':acA s pb n bl bp bs bb be bm (p.cut k).1 (bif (p.cut k).2 then (p.bg.length:Int) else -1) (go U (Us U [.tmp 4]) [] dU (Zr 0 [.ptr pb 0,.int .i64 (k:Int)] .nil) s) by
  obtain⟨s',b1,b2,b3,h1,h2⟩:=K';exact⟨s',b1,b2,b3,Yi am6 It h1,h2⟩
 obtain⟨G0,xh,hk3⟩:=hw.sp k hk;have Cq:=hw.mr k hk;obtain⟨g,gl,gp,gs,gb,ge,gm,nd,lt⟩:=h;have A:=Ap.of nd;have Hm:=hw.ll;have hlp:=hw.lp;have o5:=hw.ls;have hle:=hw.le;have hlm:=hw.lm;have Pm:=hw.few;have lt':pb<s.next/\bl<s.next/\bp<s.next/\bs<s.next/\bb<s.next/\be<s.next/\bm<s.next:=by
  refine⟨lt _ No,lt _ No,lt _ No,lt _ No,lt _ No,lt _ No,lt _ No⟩
 obtain⟨lt1,lt2,lt3,lt4,lt5,lt6,lt7⟩:=lt';have q1:=XY (l:=p.mr) (i:=k) J;have q2:=XY (l:=p.en) (i:=k) J;have q3:=XY (l:=p.bg) (i:=k) hk;have km:k<p.mr.length:=J;have ke:k<p.en.length:=J;have w1:IntKind.i64.wrap (((gt p.en k:Nat):Int)-((gt p.bg k:Nat):Int))=((gt p.en k-gt p.bg k:Nat):Int):=by rw[wrap_i64] <;> omega
 have y1:=Vu (l:=p.mr) (i:=k) 0 km;have y1:lay k [.int .i64 0] (Zz p.mr)=some (Zz (p.mr.set k 0)):=y1;have z1:(bm=pb)=False:=eq_false A.n6.symm;have z2:(bm=bb)=False:=eq_false A.uv.symm;have z3:(bm=be)=False:=eq_false A.sF.symm;have e1:=ahW (gt p.mr k) (gt p.en k-gt p.bg k);unfold Pt.cut
 cases Xx:gt p.mr k==gt p.en k-gt p.bg k with
 |true =>
  rw[Xx] at e1;simp (maxSteps:=2000000) +contextual only[go_sem,dU,g,gb,ge,gm,q1,q2,q3,hk,km,ke,w1,y1,ap3,e1,cond_true];refine⟨_,bb,be,bm,rfl,⟨?_,?_,?_,?_,?_,?_,?_,nd,λj hj=>?_⟩,?_,?_,.inl rfl,.inl rfl,.inl rfl,λj h1 h2 h3 h4 h5 h6=>?_⟩
  ·rw[Z7,O3 A.n6.symm,ZR,g];simp only[aqH]
  ·rw[Z7,O3 A.lO.symm,ZR,gl]
  ·rw[Z7,O3 A.zp.symm,ZR,gp]
  ·rw[Z7,O3 A.n18.symm,ZR,gs]
  ·rw[Z7,O3 A.uv.symm,ZR,gb]
  ·rw[Z7,O3 A.sF.symm,ZR,ge]
  ·rw[Z7,Of rfl]
  ·simp only[Z_,Z6];have:=lt j hj;omega
  ·simp only[Z_,Z6];omega
  ·exact (fr.upto J).put O0 _
  ·rw[Z7,O3 h6.symm,ZR]
 |false =>
  rw[Xx] at e1;have Mc:∀j q,j<s.next->(j=s.next+q)=False:=λj q hj=>F_
  have Ju:∀j q,j<s.next->(s.next+q=j)=False:=λj q hj=>F_
  have tR:∀q,q≠0->(s.next+q=s.next)=False:=λq hq=>F_
  have tQ:∀q,q≠0->(s.next=s.next+q)=False:=λq hq=>F_
  have Ps:=fr.at;have w2:IntKind.i64.wrap (((gt p.bg k:Nat):Int)+((gt p.mr k:Nat):Int))=((gt p.bg k+gt p.mr k:Nat):Int):=by rw[wrap_i64] <;> omega
  have w3:IntKind.i64.wrap (2*((gt p.mr k:Nat):Int))=2*((gt p.mr k:Nat):Int):=by rw[wrap_i64] <;> omega
  have e2:decide (2*((gt p.mr k:Nat):Int)>((gt p.en k-gt p.bg k:Nat):Int))=decide (2*gt p.mr k>gt p.en k-gt p.bg k):=by congr 1;apply propext;omega
  have z4:(be=pb)=False:=eq_false A.n5.symm;have z5:(be=bb)=False:=eq_false A.n19.symm;have z6:(be=bm)=False:=eq_false A.sF;have z7:(bb=pb)=False:=eq_false A.n4.symm;have z8:(bb=be)=False:=eq_false A.n19;have z9:(bb=bm)=False:=eq_false A.uv;have x1:(pb=bs)=False:=eq_false A.n3;have x2:(bb=bs)=False:=eq_false A.o6.symm;have x3:(be=bs)=False:=eq_false A.n17.symm;have x4:(bm=bs)=False:=eq_false A.n18.symm;have x5:(pb=bb)=False:=eq_false A.n4;have x6:(pb=be)=False:=eq_false A.n5;have x7:(pb=bm)=False:=eq_false A.n6;have TV:(p.bg.length+1)*8<=1099511627776:=J;have U5:p.bg.length+1<=1099511627776:=J;have zo:(p.en.length+1)*8<=1099511627776:=J;have hb4:p.en.length+1<=1099511627776:=J;have pL:(p.mr.length+1)*8<=1099511627776:=J;have iY:p.mr.length+1<=1099511627776:=J
  cases h2:decide (2*gt p.mr k>gt p.en k-gt p.bg k) with
  |true =>
   rw[h2] at e2;have y2:=Vu (l:=p.en) (i:=k) (gt p.bg k+gt p.mr k) ke;have sl1:=afX (b:=bl) (n:=p.list.length) (f:=gt p.bg k+gt p.mr k) (t:=gt p.en k) (.inl rfl) J J;have a1:=λ(S:St) (h:S.get bb=some (.cells (Zz p.bg) 3 false 0 0))=>sw rfl h (gt p.bg k+gt p.mr k)
   have a2:=λ(S:St) (h:S.get be=some (.cells (Zz (p.en.set k (gt p.bg k+gt p.mr k))) 3 false 0 0))=>sw (n:=p.en.length) No h (gt p.en k)
   have a3:=λ(S:St) (h:S.get bm=some (.cells (Zz (p.mr.set k 0)) 3 false 0 0))=>aU (n:=p.mr.length) No h
   simp (maxSteps:=2000000) +contextual only[go_sem,dU,g,gb,ge,gm,q1,q2,q3,hk,km,ke,w1,w2,w3,y1,y2,ap3,z1,z2,z3,z4,z5,z6,z7,z8,z9,e1,e2,cond_true,TT dV,Mc,Ju,lt1,lt5,lt6,lt7,Ps,a1,a2,a3,Zx,Nat.reducePow,TV,U5,zo,hb4,pL,iY,ap2,Option.isNone_none,tR,tQ,sl1,Option.map_none];refine f217 (b1:=s.next+84) (b2:=s.next+85) (b3:=s.next+86) (c:=none) No No No ⟨g,gl,gp,gs,gb,ge,gm,nd,lt⟩ hw hn J J J J J ?_ ?_ ?_ ?_ ?_ ?_ ?_ ?_ ?_ ?_ ?_ ?_
   case refine_1=>simp only[Z_,Z',Z6];omega
   case refine_11 =>
    repeat first|exact fr|apply Fr.new|apply Fr.put|apply Fr.upto
    all_goals try simp only[Z_,Z',Z6]
    all_goals omega
   case refine_12 =>
    intro j h1 h2 h3 h4 h5 h6;have v1:(pb=j)=False:=eq_false h2.symm;have v2:(bs=j)=False:=eq_false h3.symm;have v3:(bb=j)=False:=eq_false h4.symm;have v4:(be=j)=False:=eq_false h5.symm;have v5:(bm=j)=False:=eq_false h6.symm;have v6:∀q,(s.next+q=j)=False:=λq=>Ju j q h1
    simp only[Z7,Z5,Z_,Z',ZR,Z6,v1,v3,v4,v5,v6,if_false,ap2]
   all_goals simp +contextual only[go_sem,gs,x1,x2,x3,x4,Mc,Ju,lt1,lt4,lt6,lt7,ap2]
   all_goals first|rfl|simp
  |false =>
   rw[h2] at e2;have y2:=Vu (l:=p.bg) (i:=k) (gt p.bg k+gt p.mr k) hk;have sl1:=afX (b:=bl) (n:=p.list.length) (f:=gt p.bg k) (t:=gt p.bg k+gt p.mr k) (.inl rfl) J J;have a1:=λ(S:St) (h:S.get bb=some (.cells (Zz (p.bg.set k (gt p.bg k+gt p.mr k))) 3 false 0 0))=>sw (n:=p.bg.length) No h (gt p.bg k)
   have a2:=λ(S:St) (h:S.get be=some (.cells (Zz p.en) 3 false 0 0))=>sw (n:=p.en.length) rfl h (gt p.bg k+gt p.mr k)
   have a3:=λ(S:St) (h:S.get bm=some (.cells (Zz (p.mr.set k 0)) 3 false 0 0))=>aU (n:=p.mr.length) No h
   simp (maxSteps:=2000000) +contextual only[go_sem,dU,g,gb,ge,gm,q1,q2,q3,hk,km,ke,w1,w2,w3,y1,y2,ap3,z1,z2,z3,z4,z6,z7,z8,z9,e1,e2,cond_true,TT dV,Mc,Ju,lt1,lt5,lt6,lt7,Ps,a1,a2,a3,Zx,Nat.reducePow,TV,U5,zo,hb4,pL,iY,ap2,Option.isNone_none,tR,tQ,sl1,Option.map_none];refine f217 (b1:=s.next+74) (b2:=s.next+75) (b3:=s.next+76) (c:=none) No No No ⟨g,gl,gp,gs,gb,ge,gm,nd,lt⟩ hw hn J J J J J ?_ ?_ ?_ ?_ ?_ ?_ ?_ ?_ ?_ ?_ ?_ ?_
   case refine_1=>simp only[Z_,Z',Z6];omega
   case refine_11 =>
    repeat first|exact fr|apply Fr.new|apply Fr.put|apply Fr.upto
    all_goals try simp only[Z_,Z',Z6]
    all_goals omega
   case refine_12 =>
    intro j h1 h2 h3 h4 h5 h6;have v1:(pb=j)=False:=eq_false h2.symm;have v2:(bs=j)=False:=eq_false h3.symm;have v3:(bb=j)=False:=eq_false h4.symm;have v4:(be=j)=False:=eq_false h5.symm;have v5:(bm=j)=False:=eq_false h6.symm;have v6:∀q,(s.next+q=j)=False:=λq=>Ju j q h1
    simp only[Z7,Z5,Z_,Z',ZR,Z6,v1,v3,v4,v5,v6,if_false,ap2]
   all_goals simp +contextual only[go_sem,gs,x1,x2,x3,x4,Mc,Ju,lt1,lt4,lt6,lt7,ap2]
   all_goals first|rfl|simp
end Go.Am
