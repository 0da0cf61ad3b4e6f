/- A part of the proof of a statement of this seat: the machine on which the program is read, and what it computes; for every input. -/
import Derived.Test.YtkmaeondbkpajaaGreatDoorG07
set_option linter.all false
namespace Go.Am
open Go
variable [ZZ]
set_option maxRecDepth 100000
set_option maxHeartbeats 8000000
theorem abC {b n f t:Nat}{cap:Option Nat}(hc:cap=none\/cap=some n)(h1:f<=t)(h2:t<=n):Ht 1 (.sl b 0 n cap 1) (some (.int .i64 (f:Int))) (some (.int .i64 (t:Int)))=some (.sl b f (t-f) (cap.map (·-f)) 1):=by
 have e1:YR (some (.int .i64 (t:Int))) n n=some t:=by simp[YR];omega
 have e2:YR (some (.int .i64 (f:Int))) 0 t=some f:=by simp[YR];omega
 rcases hc with rfl|rfl
 ·simp only[Ht,Option.getD_none,e1,e2,ajj,ajr,if_true]
 ·simp only[Ht,akk,e1,e2,ajj,ajr,if_true]
theorem xH {s:St}{b n:Nat}{L:List Nat}(hL:L.length=n)(hg:s.get b=some (.cells (ZA L) 3 false 0 0))(k:Nat) :
  QE 3 1 1 [.int .i64 (k:Int)] (.sl b 0 n none 1) s=some (.sl s.next 0 (n+1) none 1,(s.put b .gone).new (.cells (ZA (L++[k])) 3 false 0 0)):=by
 have Fm:(ZA L).length=n*1:=by rw[U',hL,ajj]
 rw[Tg,hg,UO Fm (by omega) rfl,L7]
theorem kC {s:St}{b n:Nat}{L:List Nat}(hL:L.length=n)(hg:s.get b=some (.cells (ZA L) 3 false 0 0)) :
  QE 3 1 1 [.int .i64 0] (.sl b 0 n none 1) s=some (.sl s.next 0 (n+1) none 1,(s.put b .gone).new (.cells (ZA (L++[0])) 3 false 0 0)):=xH hL hg 0
theorem KW {l:List Nat}{f t:Nat}(h:t<=l.length):(piece l f t).length=t-f:=by unfold piece;simp;omega
theorem kB {l:List Nat}{f t i:Nat}(h:t<=l.length)(hi:i<t-f):(piece l f t)[i]'(by rw[KW h];exact hi)=gt l (f+i):=by
 rw[R_ (by omega)];unfold piece;rw[List.getElem_take,List.getElem_drop]
theorem ah1 {β:Type}{fin:Fl->β}{ks:List K}{Zu:β->Prop}{pb bl bs n f t K m x1 x4 x5:Nat}{L S:List Nat}{vp ve vm:AV}{c:Option Nat}{bb:Nat}(hft:f<=t)(ht:t<=L.length)(hL:L.length<=2^20)(hK:K<=2^20)(hS:S.length=n)(vR:∀i,i<L.length->gt L i<n)(cU:pb≠bs)(uN:bl≠bs)
  {e:Env}{s:St}(g0:Env.get e 0=.ptr pb 0)(pC:Env.get e 119=.sl bl f (t-f) c 1)(pB:Env.get e 120=.int .i64 ((t-f:Nat):Int))(abN:Env.get e 121=.int .i64 (0:Nat))
  (gp:s.get pb=some (.cells [.sl bl 0 L.length none 1,vp,.sl bs 0 n (some n) 1,.sl bb 0 (K+1) none 1,ve,vm] 261 false 0 0))(gl:s.get bl=some (.cells (ZA L) 3 false 0 0))(gs:s.get bs=some (.cells (ZA S) 3 false 0 0))(vr:bs<s.next)(fr:Fr s)
  (hk:∀e' s',Env.get e' 0=.ptr pb 0->s'.get bs=some (.cells (ZA (Xx K (piece L f t) S)) 3 false 0 0)->(∀j,j≠bs->s'.get j=s.get j)->s.next<=s'.next->Fr s'->Zu (goN U fin ks e' s')) :
  Zu (SC U fin (.bk 0::ks) L3 e s):=by
 have Tz:=KW (f:=f) ht;refine YG (σ:=Nat) (fun i=>t-f-i) (fun i e' s'=>i<=t-f/\Env.get e' 0=.ptr pb 0/\Env.get e' 119=.sl bl f (t-f) c 1/\Env.get e' 120=.int .i64 ((t-f:Nat):Int)/\Env.get e' 121=.int .i64 (i:Nat)/\(∀j,j≠bs->s'.get j=s.get j)/\s.next<=s'.next/\Fr s' /\
   ∃S',S'.length=n/\s'.get bs=some (.cells (ZA S') 3 false 0 0)/\Xx K ((piece L f t).drop i) S'=Xx K (piece L f t) S) 0 ?_
  ⟨aji _,g0,pC,pB,abN,fun _ _=>rfl,ajg _,fr,S,hS,gs,rfl⟩
 rintro Lp i e' s' ⟨hi,q0,pz,yT,afb,hs,UL,UB,S',hS',qs,N4⟩ IH;have gp':=(hs pb cU).trans gp;have gl':=(hs bl uN).trans gl;by_cases hd:i<t-f
 ·have hw:=ZE hd (by omega);have o1:=X9 (l:=L) (i:=f+i) (by omega);have hu:=vR (f+i) (by omega);have J0:=Vs (l:=S') (i:=gt L (f+i)) K (by omega);rw[abc (by rw[Tz];exact hd),kB ht hd,Xx] at N4;have w1:IntKind.i64.wrap (((K+1:Nat):Int)-1)=(K:Int):=by rw[wrap_i64] <;> omega
  have z1:(bs=pb)=False:=eq_false cU.symm;have z2:(bs=bl)=False:=eq_false uN.symm;simp (maxSteps:=2000000) +contextual only[go_sem,L3,q0,pz,yT,afb,Z9,hd,gp',gl',qs,o1,hu,J0,w1,hw,ajj,z1,z2];refine IH (i+1) _ _ (by omega) ⟨by omega,?_,?_,?_,?_,fun j hj=>?_,?_,?_,S'.set (gt L (f+i)) K,by rw[aj0];exact hS',?_,N4⟩
  ·simp +contextual only[go_sem,q0]
  ·simp +contextual only[go_sem,pz]
  ·simp +contextual only[go_sem,yT]
  ·simp +contextual only[go_sem,hw]
  ·rw[Z0,if_neg hj.symm,ZH];exact hs j hj
  ·rw[Z_,ZV];omega
  ·exact (UB.upto (by omega)).put (by rw[ZV];omega) _
  ·rw[Z0,if_pos rfl]
 ·have:i=t-f:=by omega
  subst this;have hdn:(piece L f t).drop (t-f)=[]:=by rw[<-Tz,ajy]
  rw[hdn,Xx] at N4;simp (maxSteps:=2000000) +contextual only[go_sem,L3,yT,afb,Z9,ajp];refine hk _ _ ?_ (by rw[qs,N4]) hs UL UB;simp +contextual only[go_sem,q0]
def er (s0:St)(pb n bl bp bs bb be bm:Nat)(p:Pt)(v:Int)(r:Option (AV×St)):Prop :=
 ∃s' Qs Qr Qq,r=some (.int .i64 v,s')/\M9 s' pb n bl bp bs Qs Qr Qq p/\s0.next<=s'.next/\Fr s'/\(Qs=bb\/s0.next<=Qs)/\(Qr=be\/s0.next<=Qr)/\(Qq=bm\/s0.next<=Qq) /\
  ∀j,j<s0.next->j≠pb->j≠bs->j≠bb->j≠be->j≠bm->s'.get j=s0.get j
theorem f217 {s S:St}{e:Env}{pb n bl bp bs bb be bm b1 b2 b3 f t:Nat}{c:Option Nat}{p:Pt}{bg' en' mr':List Nat}(Gn:bg'.length=p.bg.length+1)(F3:en'.length=p.en.length+1)(hml:mr'.length=p.mr.length+1)(h:M9 s pb n bl bp bs bb be bm p)(hw:p.Wf n)(hn:n<=2^19)(hft:f<=t)(ht:t<=n)
  (Un:s.next<=b1)(VD:b1<b2)(CU:b2<b3)(hb4:b3<S.next)
  (g0:Env.get e 0=.ptr pb 0)(pC:Env.get e 119=.sl bl f (t-f) c 1)(pB:Env.get e 120=.int .i64 ((t-f:Nat):Int))(abN:Env.get e 121=.int .i64 (0:Nat))
  (gp:S.get pb=some (.cells [.sl bl 0 p.list.length none 1,.sl bp 0 p.place.length (some n) 1,.sl bs 0 p.set.length (some n) 1,.sl b1 0 (p.bg.length+1) none 1,.sl b2 0 (p.en.length+1) none 1,.sl b3 0 (p.mr.length+1) none 1] 261 false 0 0))
  (gs:S.get bs=some (.cells (ZA p.set) 3 false 0 0))(k1:S.get b1=some (.cells (ZA bg') 3 false 0 0))(k2:S.get b2=some (.cells (ZA en') 3 false 0 0))(k3:S.get b3=some (.cells (ZA mr') 3 false 0 0))(fr:Fr S)
  (hold:∀j,j<s.next->j≠pb->j≠bs->j≠bb->j≠be->j≠bm->S.get j=s.get j) :
  er s pb n bl bp bs bb be bm { list:=p.list,place:=p.place,set:=Xx p.bg.length (piece p.list f t) p.set,bg:=bg',en:=en',mr:=mr' } p.bg.length
   (SC U (Rs U [.tmp 4]) [.bk 0,.sq (.seq (.ops [⟨some 138,none,none,false,.Qb (.t 0)⟩,⟨some 139,none,none,false,.raw (.nilCheck (.tmp 138))⟩,⟨some 140,none,none,false,.fa 3 (.t 139)⟩,⟨some 141,none,none,false,.TB (.t 140)⟩,⟨some 142,none,none,false,.TK (.t 141)⟩,
    ⟨some 143,none,none,false,.bin .sub 3 true (.t 142) (.v (.int .i64 1))⟩,⟨some 4,none,none,false,.Qb (.t 143)⟩]) .ret)] L3 e S):=by
 have A:=Ap.of h.ne;have uN:=hw.ls;have J8:=hw.ll;have hlp:=hw.lp;have Qg:=hw.few;have ji:=h.lt pb (by simp);have lbl:=h.lt bl (by simp);have lbp:=h.lt bp (by simp);have lbs:=h.lt bs (by simp);have gl:S.get bl=some (.cells (ZA p.list) 3 false 0 0):=(hold bl lbl A.n1.symm A.n8 A.n9 A.jm A.r_).trans h.gl;have gpl:S.get bp=some (.cells (ZA p.place) 3 false 0 0):=(hold bp lbp A.n2.symm A.uQ A.n13 A.n14 A.jl).trans h.gp;have gp':=gp;rw[uN] at gp';refine ah1 (Zu:=er s pb n bl bp bs bb be bm { list:=p.list,place:=p.place,set:=Xx p.bg.length (piece p.list f t) p.set,bg:=bg',en:=en',mr:=mr' } p.bg.length) (x1:=0) (x4:=0) (x5:=0) (m:=0) (K:=p.bg.length) hft (by omega) (by omega) (by omega) uN (fun i hi=>(hw.li i (by omega)).1) A.n3 A.n8 g0 pC pB abN gp' gl gs (by omega) fr ?_;intro e' s' q0 qs hs UL UB;have w1:IntKind.i64.wrap (((p.bg.length+1:Nat):Int)-1)=(p.bg.length:Int):=by rw[wrap_i64] <;> omega
 have hp:=(hs pb A.n3).trans gp;simp (maxSteps:=2000000) +contextual only[go_sem,q0,hp,w1];refine⟨s',b1,b2,b3,rfl,⟨?_,(hs bl A.n8).trans gl,(hs bp A.uQ).trans gpl,qs,(hs b1 (by omega)).trans k1,(hs b2 (by omega)).trans k2,(hs b3 (by omega)).trans k3,?_,?_⟩,by omega,UB,.inr Un,.inr (by omega),.inr (by omega),fun j h1 h2 h3 h4 h5 h6=>by rw[hs j h3,hold j h1 h2 h3 h4 h5 h6]⟩
 ·rw[hp];simp only[Nv,Gn,F3,hml]
 ·have:=A.n1;have:=A.n2;have:=A.n3;have:=A.n7;have:=A.n8;have:=A.uQ;simp only[aj8,ajo,List.not_mem_nil,not_or,or_false,List.nodup_nil,and_true,not_false_eq_true];refine⟨⟨A.n1,A.n2,A.n3,?_,?_,?_⟩,⟨A.n7,A.n8,?_,?_,?_⟩,⟨A.uQ,?_,?_,?_⟩,⟨?_,?_,?_⟩,⟨?_,?_⟩,?_⟩ <;> omega
 ·intro j hj;simp only[ajo,List.not_mem_nil,or_false] at hj;rcases hj with rfl|rfl|rfl|rfl|rfl|rfl|rfl <;> omega
theorem ah2 {s:St}{pb n bl bp bs bb be bm:Nat}{p:Pt}(h:M9 s pb n bl bp bs bb be bm p)(hw:p.Wf n)(hn:n<=2^19)(fr:Fr s){k:Nat}(hk:k<p.bg.length)(jz:0<gt p.mr k) :
  er s pb n bl bp bs bb be bm (p.cut k).1 (bif (p.cut k).2 then (p.bg.length:Int) else -1) (SH U 172 [.ptr pb 0,.int .i64 (k:Int)] s):=by
 suffices hgo:er s pb n bl bp bs bb be bm (p.cut k).1 (bif (p.cut k).2 then (p.bg.length:Int) else -1) (go U (Rs U [.tmp 4]) [] mX (Zc 0 [.ptr pb 0,.int .i64 (k:Int)] .nil) s) by
  obtain⟨s',b1,b2,b3,h1,h2⟩:=hgo;exact⟨s',b1,b2,b3,V_ ag3 (by kernel_rfl) h1,h2⟩
 obtain⟨JJ,A5,hk3⟩:=hw.sp k hk;have Fh:=hw.mr k hk;obtain⟨g,gl,gp,gs,gb,ge,gm,nd,lt⟩:=h;have A:=Ap.of nd;have J8:=hw.ll;have hlp:=hw.lp;have uN:=hw.ls;have hle:=hw.le;have aj:=hw.lm;have Qg:=hw.few;have lt':pb<s.next/\bl<s.next/\bp<s.next/\bs<s.next/\bb<s.next/\be<s.next/\bm<s.next:=by
  refine⟨lt _ (by simp),lt _ (by simp),lt _ (by simp),lt _ (by simp),lt _ (by simp),lt _ (by simp),lt _ (by simp)⟩
 obtain⟨c_,gJ,lt3,lt4,gI,lt6,gH⟩:=lt';have q1:=X9 (l:=p.mr) (i:=k) (by omega);have q2:=X9 (l:=p.en) (i:=k) (by omega);have q3:=X9 (l:=p.bg) (i:=k) hk;have km:k<p.mr.length:=by omega
 have ke:k<p.en.length:=by omega
 have w1:IntKind.i64.wrap (((gt p.en k:Nat):Int)-((gt p.bg k:Nat):Int))=((gt p.en k-gt p.bg k:Nat):Int):=by rw[wrap_i64] <;> omega
 have y1:=Vs (l:=p.mr) (i:=k) 0 km;have y1:lay k [.int .i64 0] (ZA p.mr)=some (ZA (p.mr.set k 0)):=y1;have z1:(bm=pb)=False:=eq_false A.n6.symm;have z2:(bm=bb)=False:=eq_false A.db.symm;have z3:(bm=be)=False:=eq_false A.n21.symm;have e1:=ado (gt p.mr k) (gt p.en k-gt p.bg k);unfold Pt.cut
 cases Xv:gt p.mr k==gt p.en k-gt p.bg k with
 |true =>
  rw[Xv] at e1;simp (maxSteps:=2000000) +contextual only[go_sem,mX,g,gb,ge,gm,q1,q2,q3,hk,km,ke,w1,y1,ajj,z1,z2,z3,e1,cond_true];refine⟨_,bb,be,bm,rfl,⟨?_,?_,?_,?_,?_,?_,?_,nd,fun j hj=>?_⟩,?_,?_,.inl rfl,.inl rfl,.inl rfl,fun j h1 h2 h3 h4 h5 h6=>?_⟩
  ·rw[Z0,if_neg A.n6.symm,ZH,g];simp only[aj0]
  ·rw[Z0,if_neg A.r_.symm,ZH,gl]
  ·rw[Z0,if_neg A.jl.symm,ZH,gp]
  ·rw[Z0,if_neg A.n18.symm,ZH,gs]
  ·rw[Z0,if_neg A.db.symm,ZH,gb]
  ·rw[Z0,if_neg A.n21.symm,ZH,ge]
  ·rw[Z0,if_pos rfl]
  ·simp only[Z_,ZV];have:=lt j hj;omega
  ·simp only[Z_,ZV];omega
  ·exact (fr.upto (by omega)).put (by rw[ZV];omega) _
  ·rw[Z0,if_neg h6.symm,ZH]
 |false =>
  rw[Xv] at e1;have Q5:∀j q,j<s.next->(j=s.next+q)=False:=fun j q hj=>by simp;omega
  have Tp:∀j q,j<s.next->(s.next+q=j)=False:=fun j q hj=>by simp;omega
  have DU:∀q,q≠0->(s.next+q=s.next)=False:=fun q hq=>by simp;omega
  have DT:∀q,q≠0->(s.next=s.next+q)=False:=fun q hq=>by simp;omega
  have LC:=fr.at;have w2:IntKind.i64.wrap (((gt p.bg k:Nat):Int)+((gt p.mr k:Nat):Int))=((gt p.bg k+gt p.mr k:Nat):Int):=by rw[wrap_i64] <;> omega
  have w3:IntKind.i64.wrap (2*((gt p.mr k:Nat):Int))=2*((gt p.mr k:Nat):Int):=by rw[wrap_i64] <;> omega
  have e2:decide (2*((gt p.mr k:Nat):Int)>((gt p.en k-gt p.bg k:Nat):Int))=decide (2*gt p.mr k>gt p.en k-gt p.bg k):=by congr 1;apply propext;omega
  have z4:(be=pb)=False:=eq_false A.n5.symm;have z5:(be=bb)=False:=eq_false A.n19.symm;have z6:(be=bm)=False:=eq_false A.n21;have z7:(bb=pb)=False:=eq_false A.n4.symm;have z8:(bb=be)=False:=eq_false A.n19;have z9:(bb=bm)=False:=eq_false A.db;have x1:(pb=bs)=False:=eq_false A.n3;have x2:(bb=bs)=False:=eq_false A.n16.symm;have x3:(be=bs)=False:=eq_false A.n17.symm;have x4:(bm=bs)=False:=eq_false A.n18.symm;have x5:(pb=bb)=False:=eq_false A.n4;have x6:(pb=be)=False:=eq_false A.n5;have x7:(pb=bm)=False:=eq_false A.n6;have Un:(p.bg.length+1)*8<=1099511627776:=by omega
  have VD:p.bg.length+1<=1099511627776:=by omega
  have CU:(p.en.length+1)*8<=1099511627776:=by omega
  have hb4:p.en.length+1<=1099511627776:=by omega
  have vq:(p.mr.length+1)*8<=1099511627776:=by omega
  have pY:p.mr.length+1<=1099511627776:=by omega
  cases h2:decide (2*gt p.mr k>gt p.en k-gt p.bg k) with
  |true =>
   rw[h2] at e2;have y2:=Vs (l:=p.en) (i:=k) (gt p.bg k+gt p.mr k) ke;have sl1:=abC (b:=bl) (n:=p.list.length) (f:=gt p.bg k+gt p.mr k) (t:=gt p.en k) (.inl rfl) (by omega) (by omega);have a1:=fun (S:St) (h:S.get bb=some (.cells (ZA p.bg) 3 false 0 0))=>xH rfl h (gt p.bg k+gt p.mr k)
   have a2:=fun (S:St) (h:S.get be=some (.cells (ZA (p.en.set k (gt p.bg k+gt p.mr k))) 3 false 0 0))=>xH (n:=p.en.length) (by simp) h (gt p.en k)
   have a3:=fun (S:St) (h:S.get bm=some (.cells (ZA (p.mr.set k 0)) 3 false 0 0))=>kC (n:=p.mr.length) (by simp) h
   simp (maxSteps:=2000000) +contextual only[go_sem,mX,g,gb,ge,gm,q1,q2,q3,hk,km,ke,w1,w2,w3,y1,y2,ajj,z1,z2,z3,z4,z5,z6,z7,z8,z9,e1,e2,cond_true,cond_false,UZ mY,Q5,Tp,c_,gJ,lt3,lt4,gI,lt6,gH,LC,a1,a2,a3,ZD,Nat.reducePow,ajB,Un,VD,CU,hb4,vq,pY,ajf,Option.isNone_none,DU,DT,sl1,Option.map_none];refine f217 (b1:=s.next+84) (b2:=s.next+85) (b3:=s.next+86) (c:=none) (by simp) (by simp) (by simp) ⟨g,gl,gp,gs,gb,ge,gm,nd,lt⟩ hw hn (by omega) (by omega) (by omega) (by omega) (by omega) ?_ ?_ ?_ ?_ ?_ ?_ ?_ ?_ ?_ ?_ ?_ ?_
   case refine_1=>simp only[Z_,Z',ZV];omega
   case refine_11 =>
    repeat first|exact fr|apply Fr.new|apply Fr.put|apply Fr.upto
    all_goals try simp only[Z_,Z',ZV]
    all_goals omega
   case refine_12 =>
    intro j h1 h2 h3 h4 h5 h6;have v1:(pb=j)=False:=eq_false h2.symm;have v2:(bs=j)=False:=eq_false h3.symm;have v3:(bb=j)=False:=eq_false h4.symm;have v4:(be=j)=False:=eq_false h5.symm;have v5:(bm=j)=False:=eq_false h6.symm;have v6:∀q,(s.next+q=j)=False:=fun q=>Tp j q h1
    simp only[Z0,ZY,Z_,Z',ZH,ZV,v1,v3,v4,v5,v6,if_false,ajf]
   all_goals simp +contextual only[go_sem,g,gs,z1,z2,z3,z4,z5,z6,z7,z8,z9,x1,x2,x3,x4,x5,x6,x7,Q5,Tp,c_,gJ,lt3,lt4,gI,lt6,gH,ajf]
   all_goals first|rfl|simp
  |false =>
   rw[h2] at e2;have y2:=Vs (l:=p.bg) (i:=k) (gt p.bg k+gt p.mr k) hk;have sl1:=abC (b:=bl) (n:=p.list.length) (f:=gt p.bg k) (t:=gt p.bg k+gt p.mr k) (.inl rfl) (by omega) (by omega);have a1:=fun (S:St) (h:S.get bb=some (.cells (ZA (p.bg.set k (gt p.bg k+gt p.mr k))) 3 false 0 0))=>xH (n:=p.bg.length) (by simp) h (gt p.bg k)
   have a2:=fun (S:St) (h:S.get be=some (.cells (ZA p.en) 3 false 0 0))=>xH (n:=p.en.length) rfl h (gt p.bg k+gt p.mr k)
   have a3:=fun (S:St) (h:S.get bm=some (.cells (ZA (p.mr.set k 0)) 3 false 0 0))=>kC (n:=p.mr.length) (by simp) h
   simp (maxSteps:=2000000) +contextual only[go_sem,mX,g,gb,ge,gm,q1,q2,q3,hk,km,ke,w1,w2,w3,y1,y2,ajj,z1,z2,z3,z4,z5,z6,z7,z8,z9,e1,e2,cond_true,cond_false,UZ mY,Q5,Tp,c_,gJ,lt3,lt4,gI,lt6,gH,LC,a1,a2,a3,ZD,Nat.reducePow,ajB,Un,VD,CU,hb4,vq,pY,ajf,Option.isNone_none,DU,DT,sl1,Option.map_none];refine f217 (b1:=s.next+74) (b2:=s.next+75) (b3:=s.next+76) (c:=none) (by simp) (by simp) (by simp) ⟨g,gl,gp,gs,gb,ge,gm,nd,lt⟩ hw hn (by omega) (by omega) (by omega) (by omega) (by omega) ?_ ?_ ?_ ?_ ?_ ?_ ?_ ?_ ?_ ?_ ?_ ?_
   case refine_1=>simp only[Z_,Z',ZV];omega
   case refine_11 =>
    repeat first|exact fr|apply Fr.new|apply Fr.put|apply Fr.upto
    all_goals try simp only[Z_,Z',ZV]
    all_goals omega
   case refine_12 =>
    intro j h1 h2 h3 h4 h5 h6;have v1:(pb=j)=False:=eq_false h2.symm;have v2:(bs=j)=False:=eq_false h3.symm;have v3:(bb=j)=False:=eq_false h4.symm;have v4:(be=j)=False:=eq_false h5.symm;have v5:(bm=j)=False:=eq_false h6.symm;have v6:∀q,(s.next+q=j)=False:=fun q=>Tp j q h1
    simp only[Z0,ZY,Z_,Z',ZH,ZV,v1,v3,v4,v5,v6,if_false,ajf]
   all_goals simp +contextual only[go_sem,g,gs,z1,z2,z3,z4,z5,z6,z7,z8,z9,x1,x2,x3,x4,x5,x6,x7,Q5,Tp,c_,gJ,lt3,lt4,gI,lt6,gH,ajf]
   all_goals first|rfl|simp
end Go.Am
