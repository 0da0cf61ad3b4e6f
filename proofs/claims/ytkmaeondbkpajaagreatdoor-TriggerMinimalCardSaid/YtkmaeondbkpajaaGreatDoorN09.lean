/- A part of the proof of a statement of this seat: the machine on which the program is read, and what it computes; for every input. -/
import Derived.Test.YtkmaeondbkpajaaGreatDoorN08
set_option linter.all false
namespace Go.Am
open Go
variable [Z3]
set_option maxRecDepth 100000
set_option maxHeartbeats 8000000
theorem iJ {b n f t:Nat}{cap:Option Nat}(hc:cap=none\/cap=some n)(h1:f<=t)(h2:t<=n):EM 1 (.sl b 0 n cap 1) (some (.int .i64 (f:Int))) (some (.int .i64 (t:Int)))=some (.sl b f (t-f) (cap.map (·-f)) 1):=by
 have e1:Y5 (some (.int .i64 (t:Int))) n n=some t:=by simp[Y5];omega
 have e2:Y5 (some (.int .i64 (f:Int))) 0 t=some f:=by simp[Y5];omega
 rcases hc with rfl|rfl
 ·simp only[EM,Option.getD_none,e1,e2,ae3,ad4,if_true]
 ·simp only[EM,afZ,e1,e2,ae3,ad4,if_true]
theorem C_ {s:St}{b n:Nat}{L:List Nat}(hL:L.length=n)(hg:s.get b=some (.cells (ZO L) 3 false 0 0))(k:Nat) :
  SG 3 1 1 [.int .i64 (k:Int)] (.sl b 0 n none 1) s=some (.sl s.next 0 (n+1) none 1,(s.put b .gone).new (.cells (ZO (L++[k])) 3 false 0 0)):=by
 have Mx:(ZO L).length=n*1:=by rw[Xb,hL,ae3]
 rw[Uq,hg,Wm Mx (by omega) rfl,N7]
theorem tm {s:St}{b n:Nat}{L:List Nat}(hL:L.length=n)(hg:s.get b=some (.cells (ZO L) 3 false 0 0)) :
  SG 3 1 1 [.int .i64 0] (.sl b 0 n none 1) s=some (.sl s.next 0 (n+1) none 1,(s.put b .gone).new (.cells (ZO (L++[0])) 3 false 0 0)):=C_ hL hg 0
theorem MQ {l:List Nat}{f t:Nat}(h:t<=l.length):(piece l f t).length=t-f:=by unfold piece;simp;omega
theorem tk {l:List Nat}{f t i:Nat}(h:t<=l.length)(hi:i<t-f):(piece l f t)[i]'(by rw[MQ h];exact hi)=gt l (f+i):=by
 rw[ZJ (by omega)];unfold piece;rw[List.getElem_take,List.getElem_drop]
theorem ad2 {β:Type}{fin:Fl->β}{ks:List K}{ZV:β->Prop}{pb bl bs n f t K m x1 x4 x5:Nat}{L S:List Nat}{vp ve vm:AV}{c:Option Nat}{bb:Nat}(fM:f<=t)(ht:t<=L.length)(hL:L.length<=2^20)(hK:K<=2^20)(hS:S.length=n)(vZ:∀i,i<L.length->gt L i<n)(hps:pb≠bs)(ky:bl≠bs)
  {e:Env}{s:St}(g0:Env.get e 0=.ptr pb 0)(xt:Env.get e 119=.sl bl f (t-f) c 1)(xr:Env.get e 120=.int .i64 ((t-f:Nat):Int))(hZ:Env.get e 121=.int .i64 (0:Nat))
  (gp:s.get pb=some (.cells [.sl bl 0 L.length none 1,vp,.sl bs 0 n (some n) 1,.sl bb 0 (K+1) none 1,ve,vm] 261 false 0 0))(gl:s.get bl=some (.cells (ZO L) 3 false 0 0))(gs:s.get bs=some (.cells (ZO S) 3 false 0 0))(Bu:bs<s.next)(fr:Fr s)
  (hk:∀e' s',Env.get e' 0=.ptr pb 0->s'.get bs=some (.cells (ZO (Yq K (piece L f t) S)) 3 false 0 0)->(∀j,j≠bs->s'.get j=s.get j)->s.next<=s'.next->Fr s'->ZV (goN U fin ks e' s')) :
  ZV (Vx U fin (.bk 0::ks) N0 e s):=by
 have OI:=MQ (f:=f) ht;refine ZC (σ:=Nat) (fun i=>t-f-i) (fun i e' s'=>i<=t-f/\Env.get e' 0=.ptr pb 0/\Env.get e' 119=.sl bl f (t-f) c 1/\Env.get e' 120=.int .i64 ((t-f:Nat):Int)/\Env.get e' 121=.int .i64 (i:Nat)/\(∀j,j≠bs->s'.get j=s.get j)/\s.next<=s'.next/\Fr s' /\
   ∃S',S'.length=n/\s'.get bs=some (.cells (ZO S') 3 false 0 0)/\Yq K ((piece L f t).drop i) S'=Yq K (piece L f t) S) 0 ?_
  ⟨ae5 _,g0,xt,xr,hZ,fun _ _=>rfl,aba _,fr,S,hS,gs,rfl⟩
 rintro Lp i e' s' ⟨hi,q0,xq,DN,aaS,hs,XY,YM,S',hS',qs,GL⟩ IH;have gp':=(hs pb hps).trans gp;have gl':=(hs bl ky).trans gl;by_cases hd:i<t-f
 ·have hw:=ZI hd (by omega);have o1:=Y1 (l:=L) (i:=f+i) (by omega);have hu:=vZ (f+i) (by omega);have ON:=Xw (l:=S') (i:=gt L (f+i)) K (by omega);rw[aeY (by rw[OI];exact hd),tk ht hd,Yq] at GL;have w1:IntKind.i64.wrap (((K+1:Nat):Int)-1)=(K:Int):=by rw[wrap_i64] <;> omega
  have z1:(bs=pb)=False:=eq_false hps.symm;have z2:(bs=bl)=False:=eq_false ky.symm;simp (maxSteps:=2000000) +contextual only[go_sem,N0,q0,xq,DN,aaS,Z8,hd,gp',gl',qs,o1,hu,ON,w1,hw,ae3,z1,z2];refine IH (i+1) _ _ (by omega) ⟨by omega,?_,?_,?_,?_,fun j hj=>?_,?_,?_,S'.set (gt L (f+i)) K,by rw[afi];exact hS',?_,GL⟩
  ·simp +contextual only[go_sem,q0]
  ·simp +contextual only[go_sem,xq]
  ·simp +contextual only[go_sem,DN]
  ·simp +contextual only[go_sem,hw]
  ·rw[Z7,if_neg hj.symm,Z0];exact hs j hj
  ·rw[Z9,Z_];omega
  ·exact (YM.upto (by omega)).put (by rw[Z_];omega) _
  ·rw[Z7,if_pos rfl]
 ·have:i=t-f:=by omega
  subst this;have hdn:(piece L f t).drop (t-f)=[]:=by rw[<-OI,afE]
  rw[hdn,Yq] at GL;simp (maxSteps:=2000000) +contextual only[go_sem,N0,DN,aaS,Z8,afg];refine hk _ _ ?_ (by rw[qs,GL]) hs XY YM;simp +contextual only[go_sem,q0]
def oI (s0:St)(pb n bl bp bs bb be bm:Nat)(p:Pt)(v:Int)(r:Option (AV×St)):Prop :=
 ∃s' R7 R6 R5,r=some (.int .i64 v,s')/\O8 s' pb n bl bp bs R7 R6 R5 p/\s0.next<=s'.next/\Fr s'/\(R7=bb\/s0.next<=R7)/\(R6=be\/s0.next<=R6)/\(R5=bm\/s0.next<=R5) /\
  ∀j,j<s0.next->j≠pb->j≠bs->j≠bb->j≠be->j≠bm->s'.get j=s0.get j
theorem f217 {s S:St}{e:Env}{pb n bl bp bs bb be bm b1 b2 b3 f t:Nat}{c:Option Nat}{p:Pt}{bg' en' mr':List Nat}(LK:bg'.length=p.bg.length+1)(sf:en'.length=p.en.length+1)(hml:mr'.length=p.mr.length+1)(h:O8 s pb n bl bp bs bb be bm p)(hw:p.Wf n)(hn:n<=2^19)(fM:f<=t)(ht:t<=n)
  (RQ:s.next<=b1)(TG:b1<b2)(Bg:b2<b3)(lh:b3<S.next)
  (g0:Env.get e 0=.ptr pb 0)(xt:Env.get e 119=.sl bl f (t-f) c 1)(xr:Env.get e 120=.int .i64 ((t-f:Nat):Int))(hZ:Env.get e 121=.int .i64 (0:Nat))
  (gp:S.get pb=some (.cells [.sl bl 0 p.list.length none 1,.sl bp 0 p.place.length (some n) 1,.sl bs 0 p.set.length (some n) 1,.sl b1 0 (p.bg.length+1) none 1,.sl b2 0 (p.en.length+1) none 1,.sl b3 0 (p.mr.length+1) none 1] 261 false 0 0))
  (gs:S.get bs=some (.cells (ZO p.set) 3 false 0 0))(k1:S.get b1=some (.cells (ZO bg') 3 false 0 0))(k2:S.get b2=some (.cells (ZO en') 3 false 0 0))(k3:S.get b3=some (.cells (ZO mr') 3 false 0 0))(fr:Fr S)
  (hold:∀j,j<s.next->j≠pb->j≠bs->j≠bb->j≠be->j≠bm->S.get j=s.get j) :
  oI s pb n bl bp bs bb be bm { list:=p.list,place:=p.place,set:=Yq p.bg.length (piece p.list f t) p.set,bg:=bg',en:=en',mr:=mr' } p.bg.length
   (Vx U (XZ U [.tmp 4]) [.bk 0,.sq (.seq (.ops [⟨some 138,none,none,false,.Z1 (.t 0)⟩,⟨some 139,none,none,false,.raw (.nilCheck (.tmp 138))⟩,⟨some 140,none,none,false,.fa 3 (.t 139)⟩,⟨some 141,none,none,false,.Zk (.t 140)⟩,⟨some 142,none,none,false,.Zf (.t 141)⟩,
    ⟨some 143,none,none,false,.bin .sub 3 true (.t 142) (.v (.int .i64 1))⟩,⟨some 4,none,none,false,.Z1 (.t 143)⟩]) .ret)] N0 e S):=by
 have A:=Ap.of h.ne;have ky:=hw.ls;have IT:=hw.ll;have hlp:=hw.lp;have Te:=hw.few;have r6:=h.lt pb (by simp);have lbl:=h.lt bl (by simp);have lbp:=h.lt bp (by simp);have lbs:=h.lt bs (by simp);have gl:S.get bl=some (.cells (ZO p.list) 3 false 0 0):=(hold bl lbl A.n1.symm A.n8 A.n9 A.HP A.vW).trans h.gl;have gpl:S.get bp=some (.cells (ZO p.place) 3 false 0 0):=(hold bp lbp A.n2.symm A.Iv A.G2 A.cW A.Gq).trans h.gp;have gp':=gp;rw[ky] at gp';refine ad2 (ZV:=oI s pb n bl bp bs bb be bm { list:=p.list,place:=p.place,set:=Yq p.bg.length (piece p.list f t) p.set,bg:=bg',en:=en',mr:=mr' } p.bg.length) (x1:=0) (x4:=0) (x5:=0) (m:=0) (K:=p.bg.length) fM (by omega) (by omega) (by omega) ky (fun i hi=>(hw.li i (by omega)).1) A.n3 A.n8 g0 xt xr hZ gp' gl gs (by omega) fr ?_;intro e' s' q0 qs hs XY YM;have w1:IntKind.i64.wrap (((p.bg.length+1:Nat):Int)-1)=(p.bg.length:Int):=by rw[wrap_i64] <;> omega
 have hp:=(hs pb A.n3).trans gp;simp (maxSteps:=2000000) +contextual only[go_sem,q0,hp,w1];refine⟨s',b1,b2,b3,rfl,⟨?_,(hs bl A.n8).trans gl,(hs bp A.Iv).trans gpl,qs,(hs b1 (by omega)).trans k1,(hs b2 (by omega)).trans k2,(hs b3 (by omega)).trans k3,?_,?_⟩,by omega,YM,.inr RQ,.inr (by omega),.inr (by omega),fun j h1 h2 h3 h4 h5 h6=>by rw[hs j h3,hold j h1 h2 h3 h4 h5 h6]⟩
 ·rw[hp];simp only[PC,LK,sf,hml]
 ·have:=A.n1;have:=A.n2;have:=A.n3;have:=A.n7;have:=A.n8;have:=A.Iv;simp only[afI,afa,List.not_mem_nil,not_or,or_false,List.nodup_nil,and_true,not_false_eq_true];refine⟨⟨A.n1,A.n2,A.n3,?_,?_,?_⟩,⟨A.n7,A.n8,?_,?_,?_⟩,⟨A.Iv,?_,?_,?_⟩,⟨?_,?_,?_⟩,⟨?_,?_⟩,?_⟩ <;> omega
 ·intro j hj;simp only[afa,List.not_mem_nil,or_false] at hj;rcases hj with rfl|rfl|rfl|rfl|rfl|rfl|rfl <;> omega
theorem ad3 {s:St}{pb n bl bp bs bb be bm:Nat}{p:Pt}(h:O8 s pb n bl bp bs bb be bm p)(hw:p.Wf n)(hn:n<=2^19)(fr:Fr s){k:Nat}(hk:k<p.bg.length)(hm0:0<gt p.mr k) :
  oI s pb n bl bp bs bb be bm (p.cut k).1 (bif (p.cut k).2 then (p.bg.length:Int) else -1) (WW U 172 [.ptr pb 0,.int .i64 (k:Int)] s):=by
 suffices TK:oI s pb n bl bp bs bb be bm (p.cut k).1 (bif (p.cut k).2 then (p.bg.length:Int) else -1) (go U (XZ U [.tmp 4]) [] vi (ZM 0 [.ptr pb 0,.int .i64 (k:Int)] .nil) s) by
  obtain⟨s',b1,b2,b3,h1,h2⟩:=TK;exact⟨s',b1,b2,b3,Y3 ac2 (by kernel_rfl) h1,h2⟩
 obtain⟨FA,zw,hk3⟩:=hw.sp k hk;have FN:=hw.mr k hk;obtain⟨g,gl,gp,gs,gb,ge,gm,nd,lt⟩:=h;have A:=Ap.of nd;have IT:=hw.ll;have hlp:=hw.lp;have ky:=hw.ls;have hle:=hw.le;have kV:=hw.lm;have Te:=hw.few;have lt':pb<s.next/\bl<s.next/\bp<s.next/\bs<s.next/\bb<s.next/\be<s.next/\bm<s.next:=by
  refine⟨lt _ (by simp),lt _ (by simp),lt _ (by simp),lt _ (by simp),lt _ (by simp),lt _ (by simp),lt _ (by simp)⟩
 obtain⟨nk,qA,kx,cP,qz,ku,qy⟩:=lt';have q1:=Y1 (l:=p.mr) (i:=k) (by omega);have q2:=Y1 (l:=p.en) (i:=k) (by omega);have q3:=Y1 (l:=p.bg) (i:=k) hk;have km:k<p.mr.length:=by omega
 have ke:k<p.en.length:=by omega
 have w1:IntKind.i64.wrap (((gt p.en k:Nat):Int)-((gt p.bg k:Nat):Int))=((gt p.en k-gt p.bg k:Nat):Int):=by rw[wrap_i64] <;> omega
 have y1:=Xw (l:=p.mr) (i:=k) 0 km;have y1:lay k [.int .i64 0] (ZO p.mr)=some (ZO (p.mr.set k 0)):=y1;have z1:(bm=pb)=False:=eq_false A.n6.symm;have z2:(bm=bb)=False:=eq_false A.nr.symm;have z3:(bm=be)=False:=eq_false A.kz.symm;have e1:=cL (gt p.mr k) (gt p.en k-gt p.bg k);unfold Pt.cut
 cases X9:gt p.mr k==gt p.en k-gt p.bg k with
 |true =>
  rw[X9] at e1;simp (maxSteps:=2000000) +contextual only[go_sem,vi,g,gb,ge,gm,q1,q2,q3,hk,km,ke,w1,y1,ae3,z1,z2,z3,e1,cond_true];refine⟨_,bb,be,bm,rfl,⟨?_,?_,?_,?_,?_,?_,?_,nd,fun j hj=>?_⟩,?_,?_,.inl rfl,.inl rfl,.inl rfl,fun j h1 h2 h3 h4 h5 h6=>?_⟩
  ·rw[Z7,if_neg A.n6.symm,Z0,g];simp only[afi]
  ·rw[Z7,if_neg A.vW.symm,Z0,gl]
  ·rw[Z7,if_neg A.Gq.symm,Z0,gp]
  ·rw[Z7,if_neg A.cV.symm,Z0,gs]
  ·rw[Z7,if_neg A.nr.symm,Z0,gb]
  ·rw[Z7,if_neg A.kz.symm,Z0,ge]
  ·rw[Z7,if_pos rfl]
  ·simp only[Z9,Z_];have:=lt j hj;omega
  ·simp only[Z9,Z_];omega
  ·exact (fr.upto (by omega)).put (by rw[Z_];omega) _
  ·rw[Z7,if_neg h6.symm,Z0]
 |false =>
  rw[X9] at e1;have TJ:∀j q,j<s.next->(j=s.next+q)=False:=fun j q hj=>by simp;omega
  have SN:∀j q,j<s.next->(s.next+q=j)=False:=fun j q hj=>by simp;omega
  have E5:∀q,q≠0->(s.next+q=s.next)=False:=fun q hq=>by simp;omega
  have E0:∀q,q≠0->(s.next=s.next+q)=False:=fun q hq=>by simp;omega
  have R_:=fr.at;have w2:IntKind.i64.wrap (((gt p.bg k:Nat):Int)+((gt p.mr k:Nat):Int))=((gt p.bg k+gt p.mr k:Nat):Int):=by rw[wrap_i64] <;> omega
  have w3:IntKind.i64.wrap (2*((gt p.mr k:Nat):Int))=2*((gt p.mr k:Nat):Int):=by rw[wrap_i64] <;> omega
  have e2:decide (2*((gt p.mr k:Nat):Int)>((gt p.en k-gt p.bg k:Nat):Int))=decide (2*gt p.mr k>gt p.en k-gt p.bg k):=by congr 1;apply propext;omega
  have z4:(be=pb)=False:=eq_false A.n5.symm;have z5:(be=bb)=False:=eq_false A.cU.symm;have z6:(be=bm)=False:=eq_false A.kz;have z7:(bb=pb)=False:=eq_false A.n4.symm;have z8:(bb=be)=False:=eq_false A.cU;have z9:(bb=bm)=False:=eq_false A.nr;have x1:(pb=bs)=False:=eq_false A.n3;have x2:(bb=bs)=False:=eq_false A.A6.symm;have x3:(be=bs)=False:=eq_false A.n17.symm;have x4:(bm=bs)=False:=eq_false A.cV.symm;have x5:(pb=bb)=False:=eq_false A.n4;have x6:(pb=be)=False:=eq_false A.n5;have x7:(pb=bm)=False:=eq_false A.n6;have RQ:(p.bg.length+1)*8<=1099511627776:=by omega
  have TG:p.bg.length+1<=1099511627776:=by omega
  have Bg:(p.en.length+1)*8<=1099511627776:=by omega
  have lh:p.en.length+1<=1099511627776:=by omega
  have Bt:(p.mr.length+1)*8<=1099511627776:=by omega
  have xR:p.mr.length+1<=1099511627776:=by omega
  cases h2:decide (2*gt p.mr k>gt p.en k-gt p.bg k) with
  |true =>
   rw[h2] at e2;have y2:=Xw (l:=p.en) (i:=k) (gt p.bg k+gt p.mr k) ke;have sl1:=iJ (b:=bl) (n:=p.list.length) (f:=gt p.bg k+gt p.mr k) (t:=gt p.en k) (.inl rfl) (by omega) (by omega);have a1:=fun (S:St) (h:S.get bb=some (.cells (ZO p.bg) 3 false 0 0))=>C_ rfl h (gt p.bg k+gt p.mr k)
   have a2:=fun (S:St) (h:S.get be=some (.cells (ZO (p.en.set k (gt p.bg k+gt p.mr k))) 3 false 0 0))=>C_ (n:=p.en.length) (by simp) h (gt p.en k)
   have a3:=fun (S:St) (h:S.get bm=some (.cells (ZO (p.mr.set k 0)) 3 false 0 0))=>tm (n:=p.mr.length) (by simp) h
   simp (maxSteps:=2000000) +contextual only[go_sem,vi,g,gb,ge,gm,q1,q2,q3,hk,km,ke,w1,w2,w3,y1,y2,ae3,z1,z2,z3,z4,z5,z6,z7,z8,z9,e1,e2,cond_true,cond_false,Tp vj,TJ,SN,nk,qA,kx,cP,qz,ku,qy,R_,a1,a2,a3,ZD,Nat.reducePow,afu,RQ,TG,Bg,lh,Bt,xR,aeX,Option.isNone_none,E5,E0,sl1,Option.map_none];refine f217 (b1:=s.next+84) (b2:=s.next+85) (b3:=s.next+86) (c:=none) (by simp) (by simp) (by simp) ⟨g,gl,gp,gs,gb,ge,gm,nd,lt⟩ hw hn (by omega) (by omega) (by omega) (by omega) (by omega) ?_ ?_ ?_ ?_ ?_ ?_ ?_ ?_ ?_ ?_ ?_ ?_
   case refine_1=>simp only[Z9,Z',Z_];omega
   case refine_11 =>
    repeat first|exact fr|apply Fr.new|apply Fr.put|apply Fr.upto
    all_goals try simp only[Z9,Z',Z_]
    all_goals omega
   case refine_12 =>
    intro j h1 h2 h3 h4 h5 h6;have v1:(pb=j)=False:=eq_false h2.symm;have v2:(bs=j)=False:=eq_false h3.symm;have v3:(bb=j)=False:=eq_false h4.symm;have v4:(be=j)=False:=eq_false h5.symm;have v5:(bm=j)=False:=eq_false h6.symm;have v6:∀q,(s.next+q=j)=False:=fun q=>SN j q h1
    simp only[Z7,ZZ,Z9,Z',Z0,Z_,v1,v3,v4,v5,v6,if_false,aeX]
   all_goals simp +contextual only[go_sem,g,gs,z1,z2,z3,z4,z5,z6,z7,z8,z9,x1,x2,x3,x4,x5,x6,x7,TJ,SN,nk,qA,kx,cP,qz,ku,qy,aeX]
   all_goals first|rfl|simp
  |false =>
   rw[h2] at e2;have y2:=Xw (l:=p.bg) (i:=k) (gt p.bg k+gt p.mr k) hk;have sl1:=iJ (b:=bl) (n:=p.list.length) (f:=gt p.bg k) (t:=gt p.bg k+gt p.mr k) (.inl rfl) (by omega) (by omega);have a1:=fun (S:St) (h:S.get bb=some (.cells (ZO (p.bg.set k (gt p.bg k+gt p.mr k))) 3 false 0 0))=>C_ (n:=p.bg.length) (by simp) h (gt p.bg k)
   have a2:=fun (S:St) (h:S.get be=some (.cells (ZO p.en) 3 false 0 0))=>C_ (n:=p.en.length) rfl h (gt p.bg k+gt p.mr k)
   have a3:=fun (S:St) (h:S.get bm=some (.cells (ZO (p.mr.set k 0)) 3 false 0 0))=>tm (n:=p.mr.length) (by simp) h
   simp (maxSteps:=2000000) +contextual only[go_sem,vi,g,gb,ge,gm,q1,q2,q3,hk,km,ke,w1,w2,w3,y1,y2,ae3,z1,z2,z3,z4,z5,z6,z7,z8,z9,e1,e2,cond_true,cond_false,Tp vj,TJ,SN,nk,qA,kx,cP,qz,ku,qy,R_,a1,a2,a3,ZD,Nat.reducePow,afu,RQ,TG,Bg,lh,Bt,xR,aeX,Option.isNone_none,E5,E0,sl1,Option.map_none];refine f217 (b1:=s.next+74) (b2:=s.next+75) (b3:=s.next+76) (c:=none) (by simp) (by simp) (by simp) ⟨g,gl,gp,gs,gb,ge,gm,nd,lt⟩ hw hn (by omega) (by omega) (by omega) (by omega) (by omega) ?_ ?_ ?_ ?_ ?_ ?_ ?_ ?_ ?_ ?_ ?_ ?_
   case refine_1=>simp only[Z9,Z',Z_];omega
   case refine_11 =>
    repeat first|exact fr|apply Fr.new|apply Fr.put|apply Fr.upto
    all_goals try simp only[Z9,Z',Z_]
    all_goals omega
   case refine_12 =>
    intro j h1 h2 h3 h4 h5 h6;have v1:(pb=j)=False:=eq_false h2.symm;have v2:(bs=j)=False:=eq_false h3.symm;have v3:(bb=j)=False:=eq_false h4.symm;have v4:(be=j)=False:=eq_false h5.symm;have v5:(bm=j)=False:=eq_false h6.symm;have v6:∀q,(s.next+q=j)=False:=fun q=>SN j q h1
    simp only[Z7,ZZ,Z9,Z',Z0,Z_,v1,v3,v4,v5,v6,if_false,aeX]
   all_goals simp +contextual only[go_sem,g,gs,z1,z2,z3,z4,z5,z6,z7,z8,z9,x1,x2,x3,x4,x5,x6,x7,TJ,SN,nk,qA,kx,cP,qz,ku,qy,aeX]
   all_goals first|rfl|simp
end Go.Am
