/- A part of the proof. -/
import Derived.Test.YtkmaeondbkpajaaGreatDoorE07
set_option linter.all false
set_option maxHeartbeats 8000000
set_option maxRecDepth 100000
namespace Go.Am
open Go
variable [Z8]
variable {β:Type}{fin:Fl->β}{ks:List K}{ZC:β->Prop}{e:Env}{s:St}{v:AV}{L:List Nat}
def Hj (s:St)(N:Nat)(L:List Nat)(v:AV):Prop:=(v=.ZQ/\L=[])\/∃b,v=.sl b 0 L.length none 1/\s.get b=some (.cells (Zz L) 3 false 0 0)/\N<=b/\b<s.next
def WN (v:AV)(j:Nat):Prop:=∃n,v=.sl j 0 n none 1
def X_ (b n j:Nat):WN (.sl b 0 n none 1) j<->b=j:=by
 constructor
 ·rintro⟨m,h⟩;cases h;rfl
 ·rintro rfl;exact⟨n,rfl⟩
def VB (j:Nat):¬WN .ZQ j:=by rintro⟨m,h⟩;cases h
def Hj.keep {s s':St}{N:Nat}(h:Hj s N L v)(hn:s.next<=s'.next)(hg:∀j,j<s.next->N<=j->WN v j->s'.get j=s.get j):Hj s' N L v:=by
 rcases h with h|⟨b,h1,h2,h3,h4⟩
 ·exact .inl h
 ·exact .inr ⟨b,h1,by rw[hg b h4 h3 ⟨_,h1⟩];exact h2,h3,J⟩
def Hj.lt {N:Nat}(h:Hj s N L v){j:Nat}(hj:WN v j):N<=j/\j<s.next:=by
 rcases h with⟨h,_⟩|⟨b,h1,h2,h3,h4⟩
 ·rw[h] at hj;exact absurd hj (VB j)
 ·rw[h1,X_] at hj;subst hj;exact⟨h3,h4⟩
structure eG (s:St)(pb n bp bs N:Nat)(p:Pt)(vl ve:AV)(b1 b3:Nat):Prop where
 g:s.get pb=some (.cells [vl,.sl bp 0 n (some n) 1,.sl bs 0 n (some n) 1,.sl b1 0 p.bg.length none 1,ve,.sl b3 0 p.mr.length none 1] 261 false 0 0)
 gp:s.get bp=some (.cells (Zz p.place) 3 false 0 0)
 gs:s.get bs=some (.cells (Zz p.set) 3 false 0 0)
 gb:s.get b1=some (.cells (Zz p.bg) 3 false 0 0)
 gm:s.get b3=some (.cells (Zz p.mr) 3 false 0 0)
 l:Hj s N p.list vl
 e:Hj s N p.en ve
 h1:N<=b1/\b1<s.next/\N<=b3/\b3<s.next/\b1≠b3
 dl:∀j,WN vl j->j≠b1/\j≠b3/\¬WN ve j
 de:∀j,WN ve j->j≠b1/\j≠b3
 lo:pb<N/\bp<N/\bs<N/\pb≠bp/\pb≠bs/\bp≠bs/\N<=s.next
 lp:p.place.length=n
 ls:p.set.length=n
def ag9 {pb n bp bs N b1 b3 K gb:Nat}{p:Pt}{vl ve:AV}{G:List Nat}(hn:n<=2^19)(hG:∀u∈G,u<n)(hb:p.list.length+G.length<=2^20)(hK:K<=2^20)
  (g3:e.get 3=.ptr pb 0)(Jj:e.get 12=.int .i64 (K:Int))(g96:e.get 96=.sl gb 0 G.length none 1)(g97:e.get 97=.int .i64 G.length)(g98:e.get 98=.int .i64 (0:Nat))
  (hgb:s.get gb=some (.cells (Zz G) 3 false 0 0))(YA:gb<N)(ZB:gb≠pb/\gb≠bp/\gb≠bs)(M:eG s pb n bp bs N p vl ve b1 b3)(fr:Fr s)
  (hk:∀e' s' vl',(∀t:Nat,t<15\/15<t/\t<98->e'.get t=e.get t)->eG s' pb n bp bs N (Wa K G p) vl' ve b1 b3->(∀j,j<N->j≠pb->j≠bp->j≠bs->s'.get j=s.get j)->s.next<=s'.next->Fr s'->ZC (goN U fin ks e' s')) :
  ZC (SJ U fin (.bk 6::ks) JS e s):=by
 refine YT (σ:=Nat) (λi=>G.length-i) (λi e' s'=>i<=G.length/\(∀t:Nat,t<15\/15<t/\t<98->e'.get t=e.get t)/\e'.get 98=.int .i64 (i:Nat)/\(∀j,j<N->j≠pb->j≠bp->j≠bs->s'.get j=s.get j)/\s.next<=s'.next/\Fr s' /\
   ∃p' vl',eG s' pb n bp bs N p' vl' ve b1 b3/\Wa K (G.drop i) p'=Wa K G p/\p'.list.length=p.list.length+i) 0 ?_
  ⟨apW _,λ_ _=>rfl,g98,λ_ _ _ _ _=>rfl,api _,fr,p,vl,M,rfl,rfl⟩
 rintro Lp i e' s' ⟨hi,hold,q98,hs,Vq,Wk,p',vl',M',jA,hlen⟩ IH;have q3:=(hold 3 J).trans g3;have uy:=(hold 12 J).trans Jj;have q96:=(hold 96 J).trans g96;have q97:=(hold 97 J).trans g97;by_cases hd:i<G.length
 ·have hw:=ZI hd J;have akO:=(hs gb YA ZB.1 ZB.2.1 ZB.2.2).trans hgb;have o1:=XY (l:=G) (i:=i) hd;have hu:=hG _ (adm hd);rw[Sy hd] at o1;rw[aea hd,Wa] at jA;generalize G[i]=u at *;obtain⟨g,gp,gs,gb1,gm,hl,he,⟨c1,c2,c3,c4,c5⟩,dl,de,⟨d1,d2,d3,d4,d5,d6,d7⟩,lp,ls⟩:=M';have y1:=Vu (l:=p'.place) (i:=u) p'.list.length J;have y2:=Vu (l:=p'.set) (i:=u) K J;have u1:u<n:=hu;have z1:(bp=pb)=False:=eq_false d4.symm;have z2:(bp=bs)=False:=eq_false d6;have z3:(bs=pb)=False:=eq_false d5.symm;have z4:(bs=bp)=False:=eq_false d6.symm;have TV:(p'.list.length+1)*8<=1099511627776:=J;have U5:p'.list.length+1<=1099511627776:=J;have pL:(0+1)*8<=1099511627776:=J;have iY:0+1<=1099511627776:=J;have f1:∀q,(s'.next+q=pb)=False:=λq=>F_
  have f2:∀q,(s'.next+q=bp)=False:=λq=>F_
  have f3:∀q,(s'.next+q=bs)=False:=λq=>F_
  have f6:∀b,N<=b->(pb=b)=False:=λb hb=>F_
  have f7:∀b,N<=b->(bp=b)=False:=λb hb=>F_
  have f8:∀b,N<=b->(bs=b)=False:=λb hb=>F_
  have f9:∀b,N<=b->(b=pb)=False:=λb hb=>F_
  have f11:∀b,N<=b->(b=bp)=False:=λb hb=>F_
  have f12:∀b,N<=b->(b=bs)=False:=λb hb=>F_
  have Jv:∀t:Nat,t<15\/15<t/\t<98->((15=t)=False/\∀k:Nat,98<=k->(k=t)=False):=λt ht=>⟨F_,λk hk=>F_⟩
  have key:∀(E:Env) (S:St),(∀t:Nat,t<15\/15<t/\t<98->E.get t=e'.get t)->E.get 98=.int .i64 ((i+1:Nat):Int) ->
    S.get pb=some (.cells [.sl (s'.next+21) 0 (p'.list.length+1) none 1,.sl bp 0 n (some n) 1,.sl bs 0 n (some n) 1,.sl b1 0 p'.bg.length none 1,ve,.sl b3 0 p'.mr.length none 1] 261 false 0 0) ->
    S.get bp=some (.cells (Zz (p'.place.set u p'.list.length)) 3 false 0 0)->S.get bs=some (.cells (Zz (p'.set.set u K)) 3 false 0 0)->S.get (s'.next+21)=some (.cells (Zz (p'.list++[u])) 3 false 0 0) ->
    (∀j,j<s'.next->j≠pb->j≠bp->j≠bs->¬WN vl' j->S.get j=s'.get j)->s'.next+21<S.next->Fr S->ZC (SJ U fin (.bk 6::ks) Lp E S):=by
   intro E S k1 k2 k3 k4 k5 k6 k7 k8 k9;refine IH (i+1) _ _ J ⟨J,λt ht=>(k1 t ht).trans (hold t ht),k2,λj h1 h2 h3 h4=>(k7 j J h2 h3 h4 λh=>by have:=hl.lt h;omega).trans (hs j h1 h2 h3 h4),J,k9,{ list:=p'.list++[u],place:=p'.place.set u p'.list.length,set:=p'.set.set u K,bg:=p'.bg,en:=p'.en,mr:=p'.mr },.sl (s'.next+21) 0 (p'.list.length+1) none 1,⟨k3,k4,k5,(k7 b1 c2 J J J λh=>(dl _ h).1 rfl).trans gb1,(k7 b3 c4 J J J λh=>(dl _ h).2.1 rfl).trans gm,.inr ⟨s'.next+21,by simp,k6,J,k8⟩,he.keep J λj h1 h2 h3=>k7 j h1 J J J λh=>(dl _ h).2.2 h3,⟨c1,J,c3,J,c5⟩,λj hj=>?_,de,⟨d1,d2,d3,d4,d5,d6,J⟩,by rw[aqH];exact lp,by rw[aqH];exact ls⟩,jA,by simp[hlen];omega⟩;rw[X_] at hj;subst hj;refine⟨J,J,λh=>?_⟩;have:=he.lt h;omega
  rcases hl with⟨rfl,hl⟩|⟨bl,rfl,hg,e1,e2⟩
  ·rw[hl] at key;rw[hl,List.length_nil] at y1;have y1:lay u [.int .i64 0] (Zz p'.place)=some (Zz (p'.place.set u 0)):=y1;simp only[go_sem,JS,q3,uy,q96,q97,q98,Z9,hd,hw,akO,o1,g,gp,gs,u1,y1,y2,ap3,z1,z2,z3,Zx,Nat.reducePow,aqP,pL,iY,Vz,ap4,ap2,f1];refine key _ _ (λt ht=>?_) ?_ ?_ ?_ ?_ ?_ (λj h1 h2 h3 h4 h5=>?_) ?_ ?_
   ·obtain⟨zp,n98⟩:=Jv t ht;simp only[go_sem,zp,n98]
   ·simp only[go_sem]
   ·simp only[go_sem]
   ·simp only[go_sem,eq_false d4,f2,ap2,z4]
   ·simp only[go_sem,eq_false d5,f3,ap2]
   ·simp only[go_sem,ap2,Nat.reduceAdd,(λq=>f6 (s'.next+q) J:∀q,(pb=s'.next+q)=False)];rfl
   ·have e0:∀q,(s'.next+q=j)=False:=λq=>F_
    simp only[Z7,Z5,Z_,Z',Z6,ZR,ap2,Nat.reduceAdd,e0,eq_false h2.symm,eq_false h3.symm,eq_false h4.symm,if_false]
   ·simp only[Z_,Z',Z6];omega
   ·repeat first|exact Wk|apply Fr.new|apply Fr.put|apply Fr.upto
    all_goals try simp only[Z_,Z',Z6]
    all_goals omega
  ·have a1:=λ(S:St) (h:S.get bl=some (.cells (Zz p'.list) 3 false 0 0))=>yp rfl h u
   have f10:∀q,(s'.next+q=bl)=False:=λq=>F_
   simp only[go_sem,JS,q3,uy,q96,q97,q98,Z9,hd,hw,akO,o1,g,gp,gs,u1,y1,y2,ap3,z1,z2,z3,Zx,Nat.reducePow,TV,U5,ap2,f1,f7,f8,f9,f10,e1,hg,a1];refine key _ _ (λt ht=>?_) ?_ ?_ ?_ ?_ ?_ (λj h1 h2 h3 h4 h5=>?_) ?_ ?_
   ·obtain⟨zp,n98⟩:=Jv t ht;simp only[go_sem,zp,n98]
   ·simp only[go_sem]
   ·simp only[go_sem]
   ·simp only[go_sem,eq_false d4,f2,f11,e1,z4,ap2]
   ·simp only[go_sem,eq_false d5,f3,f12,e1,ap2]
   ·simp only[go_sem,ap2,Nat.reduceAdd,(λq=>f6 (s'.next+q) J:∀q,(pb=s'.next+q)=False)]
   ·have e0:∀q,(s'.next+q=j)=False:=λq=>F_
    rw[X_] at h5;simp only[Z7,Z5,Z_,Z',Z6,ZR,ap2,Nat.reduceAdd,e0,eq_false h2.symm,eq_false h3.symm,eq_false h4.symm,eq_false h5,if_false]
   ·simp only[Z_,Z',Z6];omega
   ·repeat first|exact Wk|apply Fr.new|apply Fr.put|apply Fr.upto
    all_goals try simp only[Z_,Z',Z6]
    all_goals omega
 ·have:i=G.length:=J;subst this;rw[aqi,Wa] at jA;subst jA;simp only[go_sem,JS,q97,q98,Z9,ap5];refine hk _ _ vl' (λt ht=>?_) M' hs Vq Wk;have ZB:∀k:Nat,98<=k->(k=t)=False:=λk hk=>F_
  simp only[go_sem,ZB];exact hold t ht
def yy (s:St)(pb n bp bs N:Nat)(p:Pt):Prop :=
 (p=⟨[],p.place,p.set,[],[],[]⟩/\s.get pb=some (.cells [.ZQ,.sl bp 0 n (some n) 1,.sl bs 0 n (some n) 1,.ZQ,.ZQ,.ZQ] 261 false 0 0)/\s.get bp=some (.cells (Zz p.place) 3 false 0 0)/\s.get bs=some (.cells (Zz p.set) 3 false 0 0)) \/
 ∃bl bb be bm,KY s pb n bl bp bs bb be bm p/\N<=bl/\N<=bb/\N<=be/\N<=bm
def ag8 {pb n bp bs N:Nat}{p:Pt}(hn:n<=2^19)(Tp:p.place.length=n)(hps:p.set.length=n)(hbg:p.bg.length<=2^20)(hmr:p.mr.length<=2^20)(g3:e.get 3=.ptr pb 0)
  (lo:pb<N/\bp<N/\bs<N/\pb≠bp/\pb≠bs/\bp≠bs/\N<=s.next)(h:yy s pb n bp bs N p)(fr:Fr s)
  (hk:∀e' s' vl ve b1 b3,(∀t:Nat,t<71->e'.get t=e.get t)->eG s' pb n bp bs N { p with bg:=p.bg++[p.list.length],mr:=p.mr++[0] } vl ve b1 b3->(∀j,j<N->j≠pb->s'.get j=s.get j)->s.next<=s'.next->Fr s'->ZC (goN U fin ks e' s')) :
  ZC (go U fin ks (.raw rY) e s):=by
 obtain⟨d1,d2,d3,d4,d5,d6,d7⟩:=lo;rw[TT ae1];have Ps:=fr.at;have Jv:∀t:Nat,t<71->(∀k:Nat,71<=k->(k=t)=False):=λt ht=>λk hk=>F_
 have f1:∀q,(s.next+q=pb)=False:=λq=>F_
 have f2:∀q,(s.next+q=bp)=False:=λq=>F_
 have f3:∀q,(s.next+q=bs)=False:=λq=>F_
 have f6:∀b,N<=b->(pb=b)=False:=λb hb=>F_
 have f9:∀b,N<=b->(b=pb)=False:=λb hb=>F_
 have Mc:∀j q,j<s.next->(j=s.next+q)=False:=λj q hj=>F_
 have Ju:∀j q,j<s.next->(s.next+q=j)=False:=λj q hj=>F_
 have lpb:pb<s.next:=J;have tR:∀q,q≠0->(s.next+q=s.next)=False:=λq hq=>F_
 have tQ:∀q,q≠0->(s.next=s.next+q)=False:=λq hq=>F_
 have key:∀(E:Env) (S:St) (vl ve:AV) (b1 b3:Nat),(∀t:Nat,t<71->E.get t=e.get t) ->
   S.get pb=some (.cells [vl,.sl bp 0 n (some n) 1,.sl bs 0 n (some n) 1,.sl b1 0 (p.bg.length+1) none 1,ve,.sl b3 0 (p.mr.length+1) none 1] 261 false 0 0) ->
   S.get b1=some (.cells (Zz (p.bg++[p.list.length])) 3 false 0 0)->S.get b3=some (.cells (Zz (p.mr++[0])) 3 false 0 0)->s.next<=b1->b1<b3->b3<S.next->Hj s N p.list vl->Hj s N p.en ve->(∀j,WN vl j->¬WN ve j) ->
   s.get bp=some (.cells (Zz p.place) 3 false 0 0)->s.get bs=some (.cells (Zz p.set) 3 false 0 0) ->
   (∀j,j<s.next->j≠pb->WN vl j\/WN ve j\/j<N->S.get j=s.get j)->Fr S->ZC (goN U fin ks E S):=by
  intro E S vl ve b1 b3 k1 k2 k3 k4 k5 k6 k7 k8 k9 gW k11 k12 k13 k14;refine hk E S vl ve b1 b3 k1 ⟨?_,?_,?_,k3,k4,?_,?_,⟨J,J,J,k7,J⟩,λj hj=>⟨?_,?_,gW j hj⟩,λj hj=>⟨?_,?_⟩,⟨d1,d2,d3,d4,d5,d6,J⟩,Tp,hps⟩ (λj h1 h2=>k13 j J h2 (.inr (.inr h1))) J k14
  ·rw[k2];simp only[ann,aqh]
  ·exact (k13 bp J d4.symm (.inr (.inr d2))).trans k11
  ·exact (k13 bs J d5.symm (.inr (.inr d3))).trans k12
  ·exact k8.keep J λj h1 h2 h3=>k13 j h1 J (.inl h3)
  ·exact k9.keep J λj h1 h2 h3=>k13 j h1 J (.inr (.inl h3))
  ·have:=k8.lt hj;omega
  ·have:=k8.lt hj;omega
  ·have:=k9.lt hj;omega
  ·have:=k9.lt hj;omega
 rcases h with⟨hp,g,gp,gs⟩|⟨bl,bb,be,bm,P,n1,n2,n3,n4⟩
 ·obtain⟨L,pl,st,bg,en,mr⟩:=p;simp only[Pt.mk.injEq] at hp;obtain⟨rfl,-,-,rfl,rfl,rfl⟩:=hp;simp only[go_sem,g3,g,Vz,Zx,ap3,aqP,Nat.reducePow,ap4,ap2,Ps,f1,List.length_nil,tR,tQ,Option.isNone_none];refine key _ _ .ZQ .ZQ (s.next+25) (s.next+26) (λt ht=>?_) ?_ ?_ ?_ J J ?_ (.inl ⟨rfl,rfl⟩) (.inl ⟨rfl,rfl⟩) (λj h=>absurd h (VB j)) gp gs (λj h1 h2 _=>?_) ?_
  ·have ZB:=Jv t ht;simp only[go_sem,ZB]
  ·simp only[go_sem]
  ·simp[go_sem,lpb,Mc,ap2];rfl
  ·simp[go_sem,lpb,Mc,ap2];rfl
  ·simp only[Z_,Z',Z6];omega
  ·have e0:∀q,(s.next+q=j)=False:=λq=>F_
   simp only[Z7,Z5,Z_,Z',Z6,ZR,ap2,Nat.reduceAdd,e0,eq_false h2.symm,if_false]
  ·repeat first|exact fr|apply Fr.new|apply Fr.put|apply Fr.upto
   all_goals try simp only[Z_,Z',Z6]
   all_goals omega
 ·obtain⟨g,gl,gp,gs,gb,ge,gm,ne,lt⟩:=P;have A:=Ap.of ne;have lt2:=lt bl No;have lt5:=lt bb No;have lt6:=lt be No;have lt7:=lt bm No;have a1:=λ(S:St) (h:S.get bb=some (.cells (Zz p.bg) 3 false 0 0))=>sw rfl h p.list.length
  have a3:=λ(S:St) (h:S.get bm=some (.cells (Zz p.mr) 3 false 0 0))=>aU rfl h
  have TV:(p.bg.length+1)*8<=1099511627776:=J;have U5:p.bg.length+1<=1099511627776:=J;have pL:(p.mr.length+1)*8<=1099511627776:=J;have iY:p.mr.length+1<=1099511627776:=J;have z1:(bb=pb)=False:=eq_false A.n4.symm;have z2:(bm=pb)=False:=eq_false A.n6.symm;have z3:(bb=bm)=False:=eq_false A.uv;have z4:(pb=bb)=False:=eq_false A.n4;have z5:(pb=bm)=False:=eq_false A.n6;have z6:(bm=bb)=False:=eq_false A.uv.symm;simp only[go_sem,g3,g,gb,gm,Zx,ap3,Nat.reducePow,ap4,ap2,Ps,f1,a1,a3,TV,U5,pL,iY,z1,z2,z3,Mc,Ju,tR,tQ,lt5,lt7,Option.isNone_none];refine key _ _ (.sl bl 0 p.list.length none 1) (.sl be 0 p.en.length none 1) (s.next+25) (s.next+26) (λt ht=>?_) ?_ ?_ ?_ J J ?_ (.inr ⟨bl,rfl,gl,n1,lt2⟩) (.inr ⟨be,rfl,ge,n3,lt6⟩) (λj h=>?_) gp gs (λj h1 h2 h3=>?_) ?_
  ·have ZB:=Jv t ht;simp only[go_sem,ZB]
  ·rw[Tp,hps];simp only[go_sem]
  ·simp[go_sem,lpb,Mc,lt7,ap2]
  ·simp[go_sem,lpb,Mc,ap2]
  ·simp only[Z_,Z',Z6];omega
  ·rw[X_] at h ⊢;subst h;exact A.o9.symm
  ·have e0:∀q,(s.next+q=j)=False:=λq=>F_
   have e1:(bb=j)=False:=by
    simp only[eq_iff_iff,iff_false];rintro rfl;rw[X_,X_] at h3;have:=A.n9;have:=A.n19;omega
   have e2:(bm=j)=False:=by
    simp only[eq_iff_iff,iff_false];rintro rfl;rw[X_,X_] at h3;have:=A.lO;have:=A.sF;omega
   simp only[Z7,Z5,Z_,Z',Z6,ZR,ap2,Nat.reduceAdd,e0,e1,e2,eq_false h2.symm,if_false]
  ·repeat first|exact fr|apply Fr.new|apply Fr.put|apply Fr.upto
   all_goals try simp only[Z_,Z',Z6]
   all_goals omega
def FP (c:Nat)(x y z:List Nat):∀(l:List Nat) (p:Pt),Wa c l { p with bg:=x,mr:=y,en:=z }={ Wa c l p with bg:=x,mr:=y,en:=z }
 |[],_=>rfl
 |u::l,p=>by
  rw[Wa,Wa];exact FP c x y z l { p with place:=p.place.set u p.list.length,set:=p.set.set u c,list:=p.list++[u] }
def dE:RC:=(.Uu 15 [⟨some 131,none,none,false,.Qq (.t 3)⟩,
 ⟨some 132,none,none,false,.Qq (.t 3)⟩,
 ⟨some 133,none,none,false,.raw (.nilCheck (.tmp 132))⟩,
 ⟨some 134,none,none,false,.fa 4 (.t 133)⟩,
 ⟨some 135,none,none,false,.Sr (.t 134)⟩,
 ⟨some 136,none,none,false,.Qq (.t 3)⟩,
 ⟨some 137,none,none,false,.raw (.nilCheck (.tmp 136))⟩,
 ⟨some 138,none,none,false,.fa 0 (.t 137)⟩,
 ⟨some 139,none,none,false,.Sr (.t 138)⟩,
 ⟨some 140,none,none,false,.QE (.t 139)⟩,
 ⟨some 141,none,some 10,false,.Uc 3 1 1 [(.int .i64 0)] [(0,1,(.t 140))]⟩,
 ⟨some 142,none,none,true,.app 3 1 8 (.t 135) (.t 141)⟩,
 ⟨some 143,none,none,false,.raw (.nilCheck (.tmp 131))⟩,
 ⟨some 144,none,none,false,.fa 4 (.t 143)⟩,
 ⟨none,none,none,true,.st 1 (.t 144) (.t 142)⟩])
def ag_ {pb n bp bs N b1 b3:Nat}{p:Pt}{vl ve:AV}(hn:n<=2^19)(eR:p.list≠[])(hen:p.en.length<=2^20)(g3:e.get 3=.ptr pb 0)(M:eG s pb n bp bs N p vl ve b1 b3)(fr:Fr s)
  (hk:∀e' s',(∀t:Nat,t<131->e'.get t=e.get t)->yy s' pb n bp bs N { p with en:=p.en++[p.list.length] }->(∀j,j<N->j≠pb->s'.get j=s.get j)->s.next<=s'.next->Fr s'->ZC (goN U fin ks e' s')) :
  ZC (go U fin ks dE e s):=by
 obtain⟨g,gp,gs,gb1,gm,hl,he,⟨c1,c2,c3,c4,c5⟩,dl,de,⟨d1,d2,d3,d4,d5,d6,d7⟩,lp,ls⟩:=M;have Jv:∀t:Nat,t<131->(∀k:Nat,131<=k->(k=t)=False):=λt ht=>λk hk=>F_
 have lpb:pb<s.next:=J;have Ps:=fr.at;have Mc:∀j q,j<s.next->(j=s.next+q)=False:=λj q hj=>F_
 have Ju:∀j q,j<s.next->(s.next+q=j)=False:=λj q hj=>F_
 have f1:∀q,(s.next+q=pb)=False:=λq=>F_
 obtain⟨bl,rfl,hg,e1,e2⟩:∃b,vl=.sl b 0 p.list.length none 1/\s.get b=some (.cells (Zz p.list) 3 false 0 0)/\N<=b/\b<s.next:=by
  rcases hl with⟨_,h⟩|h
  ·exact absurd h eR
  ·exact h
 obtain⟨x1,x2,x3⟩:=dl bl ((X_ _ _ _).2 rfl);have key:∀(E:Env) (S:St) (be:Nat),(∀t:Nat,t<131->E.get t=e.get t) ->
   S.get pb=some (.cells [.sl bl 0 p.list.length none 1,.sl bp 0 n (some n) 1,.sl bs 0 n (some n) 1,.sl b1 0 p.bg.length none 1,.sl be 0 (p.en.length+1) none 1,.sl b3 0 p.mr.length none 1] 261 false 0 0) ->
   S.get be=some (.cells (Zz (p.en++[p.list.length])) 3 false 0 0)->s.next<=be->be<S.next ->
   (∀j,j<s.next->j≠pb->¬WN ve j->S.get j=s.get j)->Fr S->ZC (goN U fin ks E S):=by
  intro E S be k1 k2 k3 k4 k5 k6 k7;have hve:∀j,j<N->¬WN ve j:=λj hj h=>by have:=he.lt h;omega
  refine hk E S k1 (.inr ⟨bl,b1,be,b3,⟨?_,?_,?_,?_,?_,k3,?_,?_,?_⟩,e1,c1,J,c3⟩) (λj h1 h2=>k6 j J h2 (hve j h1)) J k7
  ·simp only[k2,lp,ls,ann,aqh]
  ·exact (k6 bl e2 J x3).trans hg
  ·exact (k6 bp J J (hve bp d2)).trans gp
  ·exact (k6 bs J J (hve bs d3)).trans gs
  ·exact (k6 b1 c2 J λh=>(de _ h).1 rfl).trans gb1
  ·exact (k6 b3 c4 J λh=>(de _ h).2 rfl).trans gm
  ·simp only[aqW,ap9,List.not_mem_nil,not_or,or_false,List.nodup_nil,and_true,not_false_eq_true];refine⟨⟨?_,d4,d5,?_,?_,?_⟩,⟨?_,?_,x1,?_,x2⟩,⟨d6,?_,?_,?_⟩,⟨?_,?_,?_⟩,⟨?_,?_⟩,?_⟩ <;> omega
  ·intro j hj;simp only[ap9,List.not_mem_nil,or_false] at hj;rcases hj with rfl|rfl|rfl|rfl|rfl|rfl|rfl <;> omega
 rcases he with⟨rfl,hh⟩|⟨be,rfl,Dz,e3,e4⟩
 ·have TV:(0+1)*8<=1099511627776:=J;simp only[go_sem,dE,g3,g,Zx,Vz,ap3,aqP,Nat.reducePow,ap4,Ps,f1,Option.isNone_none];refine key _ _ (s.next+15) (λt ht=>?_) ?_ ?_ J ?_ (λj h1 h2 h3=>?_) ?_
  ·have ZB:=Jv t ht;simp only[go_sem,ZB]
  ·simp only[go_sem,hh]
  ·rw[hh];simp[go_sem,Mc,lpb];rfl
  ·simp only[Z_,Z',Z6];omega
  ·have e0:∀q,(s.next+q=j)=False:=λq=>F_
   simp only[Z7,Z5,Z_,Z6,ZR,e0,eq_false h2.symm,if_false]
  ·repeat first|exact fr|apply Fr.new|apply Fr.put|apply Fr.upto
   all_goals try simp only[Z_,Z',Z6]
   all_goals omega
 ·have TV:(p.en.length+1)*8<=1099511627776:=J;have U5:p.en.length+1<=1099511627776:=J;have a1:=λ(S:St) (h:S.get be=some (.cells (Zz p.en) 3 false 0 0))=>sw rfl h p.list.length
  have z1:(be=pb)=False:=F_;have z2:(pb=be)=False:=F_;simp only[go_sem,dE,g3,g,Zx,a1,Dz,ap3,Nat.reducePow,ap4,Ps,f1,Ju,e4,TV,U5,z1,Option.isNone_none];refine key _ _ (s.next+15) (λt ht=>?_) ?_ ?_ J ?_ (λj h1 h2 h3=>?_) ?_
  ·have ZB:=Jv t ht;simp only[go_sem,ZB]
  ·simp only[go_sem]
  ·simp[go_sem,Mc,lpb]
  ·simp only[Z_,Z',Z6];omega
  ·have e0:∀q,(s.next+q=j)=False:=λq=>F_
   rw[X_] at h3;simp only[Z7,Z5,Z_,Z6,ZR,e0,eq_false h2.symm,eq_false h3,if_false]
  ·repeat first|exact fr|apply Fr.new|apply Fr.put|apply Fr.upto
   all_goals try simp only[Z_,Z',Z6]
   all_goals omega
def FT (c:Nat):∀(l:List Nat) (p:Pt),(Wa c l p).list=p.list++l
 |[],p=>by simp[Wa]
 |u::l,p=>by rw[Wa,FT c l];simp
def FR (c:Nat):∀(l:List Nat) (p:Pt),(Wa c l p).bg=p.bg/\(Wa c l p).en=p.en/\(Wa c l p).mr=p.mr/\(Wa c l p).place.length=p.place.length/\(Wa c l p).set.length=p.set.length
 |[],p=>by simp[Wa]
 |u::l,p=>by
  have ih:=FR c l { p with place:=p.place.set u p.list.length,set:=p.set.set u c,list:=p.list++[u] };rw[Wa]
  simpa using ih
def ag7 {κ:Nat->XJ}{pb n bp bs m N:Nat}{bl:List Nat}{vo:AV}{p:Pt}(hn:n<=2^9)(g3:e.get 3=.ptr pb 0)(g4:e.get 4=.map m)(g64:e.get 64=vo)(g65:e.get 65=.int .i64 (Yg κ n).length)(g66:e.get 66=.int .i64 (0:Nat))
  (G:Grp s m κ n bl vo)(lo:pb<m/\bp<m/\bs<m/\pb≠bp/\pb≠bs/\bp≠bs/\m<s.next)
  (hp:p=⟨[],List.replicate n 0,List.replicate n 0,[],[],[]⟩)(h:yy s pb n bp bs s.next p)(fr:Fr s)
  (hk:∀e' s',(∀t:Nat,t<12->e'.get t=e.get t)->yy s' pb n bp bs s.next (VL κ n)->(∀j,j<m->j≠pb->j≠bp->j≠bs->s'.get j=s.get j)->s.next<=s'.next->Fr s'->ZC (goN U fin ks e' s')) :
  ZC (SJ U fin (.bk 4::ks) GY e s):=by
 have zw:=FQ κ n;obtain⟨d1,d2,d3,d4,d5,d6,d7⟩:=lo;refine YT (σ:=Nat) (λi=>(Yg κ n).length-i) (λi e' s'=>i<=(Yg κ n).length/\(∀t:Nat,t<12\/15<t/\t<66->e'.get t=e.get t)/\e'.get 66=.int .i64 (i:Nat)/\(∀j,j<s.next->j≠pb->j≠bp->j≠bs->s'.get j=s.get j)/\s.next<=s'.next/\Fr s' /\
   ∃p',yy s' pb n bp bs s.next p'/\Cv κ n ((Yg κ n).drop i) p'=VL κ n/\p'.place.length=n/\p'.set.length=n/\p'.bg.length=i/\p'.mr.length=i/\p'.en.length=i/\p'.list.length<=i*n) 0 ?_
  ⟨apW _,λ_ _=>rfl,g66,λ_ _ _ _ _=>rfl,api _,fr,p,h,by rw[hp];rfl,by rw[hp];simp,by rw[hp];simp,by rw[hp];rfl,by rw[hp];rfl,by rw[hp];rfl,by rw[hp];simp⟩
 rintro Lp i e' s' ⟨hi,hold,q66,hs,Vq,Wk,p',P,yx,w1,w2,w3,w4,w5,w6⟩ IH;have q3:=(hold 3 J).trans g3;have q4:=(hold 4 J).trans g4;have q64:=(hold 64 J).trans g64;have q65:=(hold 65 J).trans g65;by_cases hd:i<(Yg κ n).length
 ·obtain⟨Gm,tE,Gnd,tD,aaI⟩:=G;have hw:=ZI hd J;obtain⟨bo,rfl,ho,e1,e2⟩:∃b,vo=.sl b 0 (Yg κ n).length none 1/\s.get b=some (.cells (strs (Yg κ n)) 9 false 0 0)/\m+1<=b/\b<s.next:=by
   rcases aaI with⟨h,_,_⟩|⟨_,_,b,h1,h2,h3,h4⟩
   ·omega
   ·exact⟨b,h3,h4,h1,h2⟩
  have U_:=(hs bo e2 J J J).trans ho;have o1:(strs (Yg κ n))[i]? = some (.str (Yg κ n)[i]):=by unfold strs;rw[aqc,aaa hd];rfl
  have hib:i<bl.length:=J;obtain⟨b1,b2,b3⟩:=tD i hib hd;have hex:∃u,u<n/\κ u=(Yg κ n)[i]:=(SW κ _ n).1 (adm hd);have hgl:=pP κ (Yg κ n)[i] n;have Hk:(RD κ (Yg κ n)[i] n)≠[]:=by
   obtain⟨u,h1,h2⟩:=hex;exact List.ne_nil_of_mem ((O9 κ _ n u).2 ⟨h1,h2⟩)
  have Dz:=Ay (len:=λk=>(RD κ k n).length) (bs:=bl) (O8 κ n) tE hd;have lk:=λ(S:St) (h:S.get m=some (.map (uz (Sz (λk=>(RD κ k n).length) (Yg κ n) bl)) false))=>Cu h (Yg κ n)[i]
  rw[Dz] at lk;simp only[aq6] at lk;rw[aea hd,Cv] at yx;have hmul:i*n<=2^9*2^9:=Nat.mul_le_mul J hn;simp only[go_sem,GY,q64,q65,q66,Z9,hd,U_,o1,ap3];refine ag8 (p:=p') (s:=s') J w1 w2 J J ?_ ⟨J,J,J,d4,d5,d6,Vq⟩ P Wk ?_
  ·simp only[go_sem,q3]
  intro e2' s2 vl ve c1 c3 Ol M TB Dy OJ;have p3:e2'.get 3=.ptr pb 0:=by rw[Ol 3 J];simp only[go_sem,q3]
  have p4:e2'.get 4=.map m:=by rw[Ol 4 J];simp only[go_sem,q4]
  have m_:e2'.get 12=.int .i64 (i:Nat):=by rw[Ol 12 J];simp only[go_sem]
  have p13:e2'.get 13=.str (Yg κ n)[i]:=by rw[Ol 13 J];simp only[go_sem]
  have um:s2.get m=some (.map (uz (Sz (λk=>(RD κ k n).length) (Yg κ n) bl)) false):=(TB m d7 J).trans ((hs m d7 J J J).trans Gm);simp only[go_sem,p4,p13,um,lk];refine ag9 (K:=i) (gb:=bl[i]) (G:=RD κ (Yg κ n)[i] n) J (λu hu=>((O9 _ _ _ _).1 hu).1) (by simp only;omega) J ?_ ?_ ?_ ?_ ?_ ((TB _ b2 J).trans ((hs _ b2 J J J).trans b3)) b2 ⟨J,J,J⟩ M OJ ?_
  case refine_6 =>
   intro e3 s3 vl' CZ M3 yX ad3 tU;have r3:e3.get 3=.ptr pb 0:=by rw[CZ 3 J];simp only[go_sem,p3]
   rw[FP] at M3;have hal:=FT i (RD κ (Yg κ n)[i] n) p';obtain⟨t1,t2,t3,t4,t5⟩:=FR i (RD κ (Yg κ n)[i] n) p';rw[w3] at yx;refine ag_ J ?_ (by simp only[w5];omega) r3 M3 tU ?_
   ·simp only[hal];intro h;exact Hk (List.append_eq_nil_iff.1 h).2
   ·intro e4 s4 h4a P4 hs4 apy fr4;have o66:e4.get 66=.int .i64 (i:Nat):=by
     rw[h4a 66 J,CZ 66 J];simp only[go_sem];rw[Ol 66 J];simp only[go_sem,q66]
    simp only[go_sem,o66,hw];refine IH (i+1) _ _ J ⟨J,λt ht=>?_,?_,λj h1 h2 h3 h4=>?_,J,fr4,_,P4,?_,?_,?_,?_,?_,?_,?_⟩
    ·have ZB:∀k:Nat,66<=k->(k=t)=False:=λk hk=>F_
     simp only[go_sem,ZB];rw[h4a t J,CZ t J];simp only[go_sem,ZB];rw[Ol t J];have LW:(12=t)=False:=F_;have alc:(13=t)=False:=F_;simp only[go_sem,ZB,LW,alc];exact hold t ht
    ·simp only[go_sem]
    ·rw[hs4 j h1 h2,yX j h1 h2 h3 h4,TB j h1 h2,hs j h1 h2 h3 h4]
    ·exact yx
    ·exact t4.trans w1
    ·exact t5.trans w2
    ·simp[w3]
    ·simp[w4]
    ·simp[w5]
    ·simp only[hal,ann,Nat.succ_mul];omega
  all_goals simp only[go_sem,p3,m_]
  all_goals rfl
 ·have:i=(Yg κ n).length:=J;subst this;rw[aqi,Cv] at yx;subst yx;simp only[go_sem,GY,q65,q66,Z9,ap5];refine hk _ _ (λt ht=>?_) P (λj h1 h2 h3 h4=>hs j J h2 h3 h4) Vq Wk;have ZB:∀k:Nat,66<=k->(k=t)=False:=λk hk=>F_
  simp only[go_sem,ZB];exact hold t J
def dP {base i a:Nat}{n:Nat}(h:e.get a=.int .i64 (n:Int))(hn:n<=2^20) :
  Ws U base (some i) e s (.raw (.makeSlice 48 (.tmp a) (.tmp a)))=some (.sl (base+i) 0 n (some n) 1,s.put (base+i) (.cells (Zz (List.replicate n 0)) 3 false 0 0)):=by
 have h40:U.Zd 48=some (.slice 3):=It;have hz:zero U 3=some (.int .i64 0):=It;have hi:(U.inf 3).map (λi=>(i.bytes,i.size))=some (8,1):=It;have e1:Zz (List.replicate n 0)=List.replicate n (.int .i64 0):=by simp[Zz,Ur,ints]
 cases hj:U.inf 3 with
 |none=>rw[hj] at hi;cases hi
 |some j =>
  rw[hj] at hi;simp only[aqG,Option.some.injEq,Prod.mk.injEq] at hi;obtain⟨h1,h2⟩:=hi;rw[e1,<-T5];simp only[Ws,mJ,Yn,eval,h,h40,hj,hz];rw[Of ⟨J,J,by rw[h1];omega,J,by rw[h2];rfl,J⟩,h2];rfl
def afb (s0:St)(n:Nat)(p:Pt)(r:Option (AV×St)):Prop :=
 ∃s' pb bl bp bs bb be bm,r=some (.ptr pb 0,s')/\KY s' pb n bl bp bs bb be bm p/\s0.next<=pb/\s0.next<=bl/\s0.next<=bp/\s0.next<=bs/\s0.next<=bb/\s0.next<=be/\s0.next<=bm/\s0.next<=s'.next/\Fr s'/\∀j,j<s0.next->s'.get j=s0.get j
def anp {a:Zv}(ha:a.ok)(fr:Fr s):afb s a.next.length (VL (Y0 a) a.next.length) (UN U 169 [XW a] s):=by
 suffices K':afb s a.next.length (VL (Y0 a) a.next.length) (go U (Us U [.tmp 2]) [] ae2 (Zr 0 [XW a] .nil) s) by
  obtain⟨s',pb,bl,bp,bs,bb,be,bm,h1,h2⟩:=K';exact⟨s',pb,bl,bp,bs,bb,be,bm,Yi am5 It h1,h2⟩
 have Hk:=ha.pos;have Pm:=ha.few;have anq:a.next.length<=2^20:=J;have Ps:=fr.at;have Mc:∀j q,j<s.next->(j=s.next+q)=False:=λj q hj=>F_
 have Ju:∀j q,j<s.next->(s.next+q=j)=False:=λj q hj=>F_
 have tR:∀q,q≠0->(s.next+q=s.next)=False:=λq hq=>F_
 have tQ:∀q,q≠0->(s.next=s.next+q)=False:=λq hq=>F_
 have mk:=λ(base i t:Nat) (e:Env) (S:St) (h:e.get t=.int .i64 (a.next.length:Int))=>dP (base:=base) (i:=i) (s:=S) h anq
 have hl:=ZN a.Xb (a.next.map ZF);rw[ala] at hl;have Ow:=ZN a.WG (a.ZW.map ZM);rw[ala] at Ow;have Mw:=ha.fl;rw[YH];simp only[go_sem,ae2,TT ae0,ap2,Ps,tR,tQ,↓mk,VI,XD,hl,Ow];have Jh:∀x y z w v,Fr ((((((s.new x).upto (s.next+12)).put (s.next+4) y).put (s.next+8) z).put (s.next+10) w).new v):=λx y z w v=>by
  repeat first|exact fr|apply Fr.new|apply Fr.put|apply Fr.upto
  all_goals try simp only[Z_,Z',Z6]
  all_goals omega
 refine ai6 ha (m:=s.next+12) ?_ ?_ ?_ ?_ ?_ ?_ ?_ (Jh _ _ _ _ _) ?_
 case refine_8 =>
  intro e1 s1 bl vo h1a h1v G RX anr tf;have p3:e1.get 3=.ptr (s.next+10) 0:=by rw[h1a 3 J];simp only[go_sem]
  have p4:e1.get 4=.map (s.next+12):=by rw[h1a 4 J];simp only[go_sem]
  have pY:=G.row.len;simp only[Z_,Z',Z6] at anr;have hs0:∀j,j<s.next->s1.get j=s.get j:=λj hj=>by
   rw[RX j J];have e0:∀q,(s.next+q=j)=False:=λq=>F_
   have e2:(s.next=j)=False:=F_;simp only[Z7,Z5,Z_,Z6,ZR,e0,e2,if_false]
  have v10:s1.get (s.next+10)=some (.cells [.ZQ,.sl (s.next+4) 0 a.next.length (some a.next.length) 1,.sl (s.next+8) 0 a.next.length (some a.next.length) 1,.ZQ,.ZQ,.ZQ] 261 false 0 0):=by
   rw[RX _ J];simp[go_sem]
  have v4:s1.get (s.next+4)=some (.cells (Zz (List.replicate a.next.length 0)) 3 false 0 0):=by
   rw[RX _ J];simp[go_sem]
  have v8:s1.get (s.next+8)=some (.cells (Zz (List.replicate a.next.length 0)) 3 false 0 0):=by
   rw[RX _ J];simp[go_sem]
  simp only[go_sem,h1v,pY];refine ag7 (ZC:=afb s a.next.length (VL (Y0 a) a.next.length)) (pb:=s.next+10) (bp:=s.next+4) (bs:=s.next+8) (m:=s.next+12) (N:=0) (p:=⟨[],List.replicate a.next.length 0,List.replicate a.next.length 0,[],[],[]⟩) J ?_ ?_ ?_ ?_ ?_ G ⟨J,J,J,J,J,J,J⟩ rfl (.inl ⟨rfl,v10,v4,v8⟩) tf ?_
  case refine_6 =>
   intro e2 s2 Ol P TB Dy OJ;have p3:e2.get 3=.ptr (s.next+10) 0:=by rw[Ol 3 J];simp only[go_sem,p3]
   simp only[go_sem,p3];rcases P with⟨hP,_⟩|⟨c1,c2,c3,c4,Q,n1,n2,n3,n4⟩
   ·have:=(wI (Y0 a) a.next.length).st 0 Hk ((SW _ _ _).2 ⟨0,Hk,rfl⟩);rw[hP] at this;have:=this.1;simp at this
   ·exact⟨s2,s.next+10,c1,s.next+4,s.next+8,c2,c3,c4,rfl,Q,J,J,J,J,J,J,J,J,OJ,λj hj=>by rw[TB j J J J J,hs0 j hj]⟩
  all_goals simp only[go_sem,p3,p4]
  all_goals rfl
 all_goals try simp only[Z_,Z',Z6]
 all_goals try simp[go_sem]
def ajH (args:List AV)(s:St):Yx U (ZE U 170 args) 170 args s=UN U 170 args s:=(YJ U 170 args s).symm
def JE:∀(k f:Nat) (l:List AV),f+k<=l.length->Xi k f l=some ((l.drop f).take k)
 |0,f,l,_=>by rw[UH];simp
 |k+1,f,[],h=>by simp at h
 |k+1,0,x::l,h=>by
  rw[UI,JE k 0 l (by simp at h ⊢;omega)];rfl
 |k+1,f+1,x::l,h=>by
  rw[BH,JE (k+1) f l (by simp at h ⊢;omega)];rfl
def ju (L:List Nat)(f k:Nat):((Zz L).drop f).take k=Zz ((L.drop f).take k):=by
 unfold Zz Ur ints;simp only[List.map_drop,List.map_take]
def Rs {t:TypeId}{n m:Nat}{new:List AV}{b len k:Nat}{cs:List AV}{lo hi:Nat}(hg:s.get b=some (.cells cs t false lo hi))(hl:cs.length=len*n)(hk:¬len+m<=k) :
  PF t n m new (.sl b 0 len (some k) n) s=some (.sl s.next 0 (len+m) none n,s.new (.cells (cs++new) t false 0 0)):=by
 simp only[PF,St.cells,hg];rw[<-hl,VA];simp only;rw[O3 hk]
def akw (b o l z:Nat)(c:Option Nat):Xj U .eql 48 true (.sl b o l c z) .ZQ=some (.bool false):=by
 have h:U.Zd 48=some (.slice 3):=It;simp only[Xj,HS,yB,h]
def an9 {b f k:Nat}{cap:Option Nat}(hg:s.get b=some (.cells (Zz L) 3 false 0 0))(hb:b<s.next)(hf:f+k<=L.length)(hk:0<k)(hL:L.length<=2^20) :
  UN U 170 [.sl b f k cap 1] s=some (.sl (s.next+1) 0 k none 1,(s.new (.cells [] 3 false 0 0)).new (.cells (Zz ((L.drop f).take k)) 3 false 0 0)):=by
 refine Yi an3 It ?_;have hgr:Xi k f (Zz L)=some (Zz ((L.drop f).take k)):=by rw[JE _ _ _ (by rw[Wd];omega),ju]
 have hsr:∀S:St,S.get b=some (.cells (Zz L) 3 false 0 0)->VH 1 (.sl b f k cap 1) S=some (k,Zz ((L.drop f).take k)):=λS h=>by
  rw[Bv,ap3,h];simp only[acx,cellsOf,hgr,aZ]
 have hl:(Zz ((L.drop f).take k)).length=k*1:=by rw[Wd];simp;omega
 have hap:∀S:St,S.get s.next=some (.cells [] 3 false 0 0)->An 3 1 8 (.sl s.next 0 0 (some 0) 1) (some (k,Zz ((L.drop f).take k))) S=some (.sl S.next 0 (0+k) none 1,S.new (.cells ([]++Zz ((L.drop f).take k)) 3 false 0 0)):=λS h=>by
  rw[Zx hl (by simp only[JX];omega) (by simp only[JX];omega) J,Rs h rfl J]
 have z:(s.next=b)=False:=F_;simp only[go_sem,ajC,akw,hg,hsr,hap,z,ap4]
def M7 (s:St)(N:Nat)(L:List Nat)(v:AV):Prop:=(v=.ZQ/\L=[])\/∃b R,v=.sl b 0 L.length none 1/\s.get b=some (.cells (Zz (L++R)) 3 false 0 0)/\N<=b/\b<s.next
def M7.keep {s s':St}{N:Nat}(h:M7 s N L v)(hn:s.next<=s'.next)(hg:∀j,j<s.next->N<=j->WN v j->s'.get j=s.get j):M7 s' N L v:=by
 rcases h with h|⟨b,R,h1,h2,h3,h4⟩
 ·exact .inl h
 ·exact .inr ⟨b,R,h1,by rw[hg b h4 h3 ⟨_,h1⟩];exact h2,h3,J⟩
def M7.lt {N:Nat}(h:M7 s N L v){j:Nat}(hj:WN v j):N<=j/\j<s.next:=by
 rcases h with⟨h,_⟩|⟨b,R,h1,h2,h3,h4⟩
 ·rw[h] at hj;exact absurd hj (VB j)
 ·rw[h1,X_] at hj;subst hj;exact⟨h3,h4⟩
def M7.WV {N:Nat}(h:M7 s N L v):Go.Am.WV v=L.length:=by
 rcases h with⟨rfl,rfl⟩|⟨b,R,rfl,h2,h3,h4⟩ <;> rfl
def M7.QE {N:Nat}(h:M7 s N L v):U1 v=some (.int .i64 L.length):=by
 rcases h with⟨rfl,rfl⟩|⟨b,R,rfl,h2,h3,h4⟩ <;> rfl
def M7.app {N:Nat}(h:M7 s N L v)(hN:N<=s.next)(k:Nat) :
  ∃s1,PF 3 1 1 [.int .i64 (k:Int)] v s=some (.sl s.next 0 (L.length+1) none 1,s1)/\s1.next=s.next+1/\M7 s1 N (L++[k]) (.sl s.next 0 (L.length+1) none 1)/\(∀j,j<s.next->¬WN v j->s1.get j=s.get j)/\(Fr s->Fr s1):=by
 rcases h with⟨rfl,rfl⟩|⟨b,R,rfl,h2,h3,h4⟩
 ·refine⟨_,Vz _ _ _ _ _,rfl,.inr ⟨s.next,[],rfl,?_,hN,O0⟩,λj hj _=>by rw[Z5,O3 J],λhf=>hf.new _⟩;rw[Z5,Of rfl];rfl
 ·have e:(Zz (L++R)).take (L.length*1)=Zz L:=by
   unfold Zz Ur ints;rw[aqf,aqf,ap3,List.take_left' No]
  refine⟨(s.put b .gone).new (.cells (Zz (L++[k])) 3 false 0 0),?_,rfl,.inr ⟨s.next,[],by simp,?_,hN,O0⟩,λj hj hb=>?_,λhf=>(hf.put h4 _).new _⟩
  ·rw[R_,h2];have hgr:Xi (L.length*1) 0 (Zz (L++R))=some (Zz L):=by
    rw[JE _ _ _ (by rw[Wd];simp),aqy,e]
   simp only[aY,hgr];rw[Of ⟨trivial,J,trivial,rfl⟩,JW]
  ·rw[Z5,Z_,Of rfl,aqw]
  ·rw[X_] at hb;rw[Z5,Z_,O3 J,Z7,O3 hb]
def M7.get {N:Nat}(h:M7 s N L v){i:Nat}(hi:i<L.length) :
  ∃b R,v=.sl b 0 L.length none 1/\s.get b=some (.cells (Zz (L++R)) 3 false 0 0)/\(Zz (L++R))[i]? = some (.int .i64 (L[i]:Nat)):=by
 rcases h with⟨rfl,rfl⟩|⟨b,R,rfl,h2,h3,h4⟩
 ·simp at hi
 ·refine⟨b,R,rfl,h2,?_⟩;rw[XY F_,zH hi,Sy hi]
def A' (s:St)(L:List Nat)(v:AV):Prop:=(v=.ZQ/\L=[])\/∃b,v=.sl b 0 L.length none 1/\s.get b=some (.cells (Zz L) 3 false 0 0)/\b<s.next
def A'.keep {s s':St}(h:A' s L v)(hn:s.next<=s'.next)(hg:∀j,j<s.next->WN v j->s'.get j=s.get j):A' s' L v:=by
 rcases h with h|⟨b,h1,h2,h4⟩
 ·exact .inl h
 ·exact .inr ⟨b,h1,by rw[hg b h4 ⟨_,h1⟩];exact h2,J⟩
def A'.QE (h:A' s L v):U1 v=some (.int .i64 L.length):=by
 rcases h with⟨rfl,rfl⟩|⟨b,rfl,h2,h4⟩ <;> rfl
def WZ (pb bl bp bs bb be bm j:Nat):Prop:=j≠pb/\j≠bl/\j≠bp/\j≠bs/\j≠bb/\j≠be/\j≠bm
def KY.ltA {pb n bl bp bs bb be bm:Nat}{p:Pt}(h:KY s pb n bl bp bs bb be bm p):pb<s.next/\bl<s.next/\bp<s.next/\bs<s.next/\bb<s.next/\be<s.next/\bm<s.next :=
 ⟨h.lt _ No,h.lt _ No,h.lt _ No,h.lt _ No,h.lt _ No,h.lt _ No,h.lt _ No⟩
def ahc {pb n bl bp bs bb be bm N:Nat}{p:Pt}{T us:List Nat}{tv vB:AV}(hn:n<=2^19)(h:KY s pb n bl bp bs bb be bm p)(hw:p.Wf n)(hU:∀u∈us,u<n)(hul:us.length<=2^20)(hTl:T.length+us.length<=2^30)
  (g3:e.get 3=.ptr pb 0)(yU:e.get 13=tv)(alq:e.get 135=vB)(alr:e.get 136=.int .i64 us.length)(als:e.get 137=.int .i64 (0:Nat))
  (hT:M7 s N T tv)(hTf:∀j,WN tv j->WZ pb bl bp bs bb be bm j)(hN:N<=s.next)(hB:A' s us vB)(hBf:∀j,WN vB j->WZ pb bl bp bs bb be bm j/\¬WN tv j)(fr:Fr s)
  (hk:∀e' s' I_,(∀t:Nat,t<13\/17<t/\t<137->e'.get t=e.get t)->e'.get 13=I_->KY s' pb n bl bp bs bb be bm (Yp us p T).1->M7 s' N (Yp us p T).2 I_->(∀j,WN I_ j->WN tv j\/s.next<=j) ->
   (∀j,j<s.next->j≠bl->j≠bp->j≠bm->¬WN tv j->s'.get j=s.get j)->s.next<=s'.next->Fr s'->ZC (goN U fin ks e' s')) :
  ZC (SJ U fin (.bk 12::ks) Kr e s):=by
 refine YT (σ:=Nat) (λi=>us.length-i) (λi e' s'=>i<=us.length/\(∀t:Nat,t<13\/17<t/\t<137->e'.get t=e.get t)/\e'.get 137=.int .i64 (i:Nat)/\s.next<=s'.next/\Fr s' /\
   ∃p' T' I_,e'.get 13=I_/\KY s' pb n bl bp bs bb be bm p'/\p'.Wf n/\Yp (us.drop i) p' T'=Yp us p T/\T'.length<=T.length+i/\M7 s' N T' I_/\(∀j,WN I_ j->WN tv j\/s.next<=j)/\(∀j,j<s.next->j≠bl->j≠bp->j≠bm->¬WN tv j->s'.get j=s.get j)) 0 ?_
  ⟨apW _,λ_ _=>rfl,als,api _,fr,p,T,tv,yU,h,hw,rfl,J,hT,λj=>.inl,λ_ _ _ _ _ _=>rfl⟩
 rintro Lp i e' s' ⟨hi,hold,aaK,Vq,Wk,p',T',I_,La,P,Lb,Cq,hlen,pK,UG,hs⟩ IH;have q3:=(hold 3 J).trans g3;have ahd:=(hold 135 J).trans alq;have ad5:=(hold 136 J).trans alr;by_cases hd:i<us.length
 ·have Ql:=ZI hd J;have lts:=h.ltA;have B2:=hB.keep Vq λj h1 h2=>by obtain⟨h3,h4⟩:=hBf j h2;unfold WZ at h3;exact hs j h1 J J J h4
  obtain⟨b,rfl,hg,hb⟩:∃b,vB=.sl b 0 us.length none 1/\s'.get b=some (.cells (Zz us) 3 false 0 0)/\b<s'.next:=by
   rcases B2 with⟨_,h⟩|h
   ·rw[h] at hd;simp at hd
   ·exact h
  have o1:=XY (l:=us) (i:=i) hd;have hu:=hU _ (adm hd);rw[Sy hd] at o1;rw[aea hd,Yp] at Cq;generalize us[i]=u at *;obtain⟨s2,c1,P2,c2,c3,c4⟩:=alu P Lb J Wk hu;obtain⟨m1,m2,m3,m4,m5,m6,m7⟩:=LV Lb hu;have T2:=pK.keep c2 λj h1 h2 h3=>by
   have:WZ pb bl bp bs bb be bm j:=by
    rcases UG j h3 with h4|h4
    ·exact hTf j h4
    ·unfold WZ;omega
   unfold WZ at this;exact c4 j h1 J J J
  have fs:∀j,j<s.next->j≠bl->j≠bp->j≠bm->¬WN tv j->s2.get j=s.get j:=λj h1 h2 h3 h4 h5=>by rw[c4 j J h2 h3 h4,hs j h1 h2 h3 h4 h5]
  cases U5:(p'.Wi u).2 with
  |false =>
   rw[U5] at c1 Cq;rw[cond_false] at Cq;simp only[go_sem,Kr,q3,ahd,ad5,aaK,Z9,hd,hg,o1,ac2,c1,Ql,ap3];refine IH (i+1) _ _ J ⟨J,λt ht=>?_,?_,J,c3,_,T',I_,?_,P2,m1,Cq,J,T2,UG,fs⟩
   ·have ZB:∀k:Nat,137<=k->(k=t)=False:=λk hk=>F_
    have yn:(17=t)=False:=F_;simp only[go_sem,ZB,yn];exact hold t ht
   ·simp only[go_sem]
   ·simp only[go_sem,La]
  |true =>
   rw[U5] at c1 Cq;rw[cond_true] at Cq;have W_:gt p'.set u=gt (p'.Wi u).1.set u:=by rw[m2]
   have lsu:=m1.ls;have o2:=XY (l:=(p'.Wi u).1.set) (i:=u) J;have pJ:=T2.WV;have pL:(T'.length+1)*8<=1099511627776:=J;have iY:T'.length+1<=1099511627776:=J;simp only[go_sem,Kr,q3,La,ahd,ad5,aaK,Z9,hd,hg,o1,ac2,c1,ap3,P2.g,P2.gs,o2,hu,lsu,Zx,Nat.reducePow,pJ,pL,iY];have T3:M7 (s2.new (.cells [.int .i64 ((gt (p'.Wi u).1.set u:Nat):Int)] 3 false 0 0)) N T' I_:=T2.keep O0 λj h1 _ _=>by rw[Z5,O3 J]
   obtain⟨s4,d1,d2,d3,d4,d5⟩:=T3.app O0 (gt (p'.Wi u).1.set u);rw[Z'] at d1 d2 d3 d4;rw[d1];simp only[go_sem,aaK,Ql];rw[<-W_] at d3;have k4:∀j,j<s2.next->¬WN I_ j->s4.get j=s2.get j:=λj h1 h2=>by rw[d4 j J h2,Z5,O3 J]
   have hP:∀j,WN I_ j->WZ pb bl bp bs bb be bm j:=λj hj=>by
    rcases UG j hj with h4|h4
    ·exact hTf j h4
    ·unfold WZ;omega
   refine IH (i+1) _ _ J ⟨J,λt ht=>?_,?_,J,d5 (c3.new _),_,T'++[gt p'.set u],.sl (s2.next+1) 0 (T'.length+1) none 1,?_,P2.mono J λj hj=>k4 j (P2.lt j hj) λhb=>?_,m1,Cq,F_,d3,λj hj=>?_,λj h1 h2 h3 h4 h5=>?_⟩
   ·have ZB:∀k:Nat,137<=k->(k=t)=False:=λk hk=>F_
    have yn:(17=t)=False:=F_;have ia:(13=t)=False:=F_;simp only[go_sem,ZB,yn,ia];exact hold t ht
   ·simp only[go_sem]
   ·simp only[go_sem]
   ·have:=hP j hb;unfold WZ at this;simp only[ap9,List.not_mem_nil,or_false] at hj;omega
   ·rw[X_] at hj;omega
   ·by_cases hb:WN I_ j
    ·rcases UG j hb with h6|h6
     ·exact absurd h6 h5
     ·omega
    ·rw[k4 j J hb,fs j h1 h2 h3 h4 h5]
 ·have:i=us.length:=J;subst this;rw[aqi,Yp] at Cq;rw[<-Cq] at hk;simp only[go_sem,Kr,ad5,aaK,Z9,ap5];refine hk _ _ I_ (λt ht=>?_) ?_ P pK UG hs Vq Wk
  ·have ZB:∀k:Nat,137<=k->(k=t)=False:=λk hk=>F_
   have yn:(17=t)=False:=F_;simp only[go_sem,ZB];exact hold t ht
  ·simp only[go_sem,La]
structure yZ (s:St)(B m n:Nat)(bf:Nat->Nat->List Nat)(lo hi:Nat)(bx:Nat->Nat)(vs:Nat->Nat->AV):Prop where
 g:s.get B=some (.cells ((List.range m).map λx=>.sl (bx x) 0 n (some n) 1) 39 false 0 0)
 row:∀x,x<m->s.get (bx x)=some (.cells ((List.range n).map (vs x)) 48 false 0 0)
 bl:∀x,x<m->∀c,c<n->A' s (bf x c) (vs x c)
 hB:lo<=B/\B<hi
 hx:∀x,x<m->lo<=bx x/\bx x<hi
 hv:∀x,x<m->∀c,c<n->∀j,WN (vs x c) j->lo<=j/\j<hi
 le:hi<=s.next
def yZ.keep {s s':St}{B m n:Nat}{bf:Nat->Nat->List Nat}{lo hi:Nat}{bx:Nat->Nat}{vs:Nat->Nat->AV}(h:yZ s B m n bf lo hi bx vs)(hn:s.next<=s'.next)(hg:∀j,lo<=j->j<hi->s'.get j=s.get j):yZ s' B m n bf lo hi bx vs :=
 ⟨(hg _ h.hB.1 h.hB.2).trans h.g,λx hx=>(hg _ (h.hx x hx).1 (h.hx x hx).2).trans (h.row x hx),λx hx c hc=>(h.bl x hx c hc).keep hn λj _ hj=>hg j (h.hv x hx c hc j hj).1 (h.hv x hx c hc j hj).2,h.hB,h.hx,h.hv,by have:=h.le;omega⟩
def Ou (lo hi j:Nat):Prop:=j<lo\/hi<=j
def MY (f:Nat->AV){n i:Nat}(h:i<n):((List.range n).map f)[i]? = some (f i):=by
 rw[aqc,List.getElem?_range h];rfl
def D4 {n:Nat}:∀(us:List Nat) (p:Pt) (T:List Nat),p.Wf n->(∀u∈us,u<n)->(Yp us p T).1.Wf n
 |[],p,T,h,_=>h
 |u::l,p,T,h,hu=>by
  rw[Yp];exact D4 l _ _ (LV h (hu u (aba ..))).1 λx hx=>hu x (aab _ hx)
def Om:∀(us:List Nat) (p:Pt) (T:List Nat),(Yp us p T).2.length<=T.length+us.length
 |[],p,T=>by simp[Yp]
 |u::l,p,T=>by
  rw[Yp];have:=Om l (p.Wi u).1 (bif (p.Wi u).2 then T++[gt p.set u] else T);have h2:(bif (p.Wi u).2 then T++[gt p.set u] else T).length<=T.length+1:=by cases (p.Wi u).2 <;> simp
  rw[ap1];omega
def agL {pb n m bl bp bs bb be bm N B lo hi x:Nat}{bf:Nat->Nat->List Nat}{bx:Nat->Nat}{vs:Nat->Nat->AV}{p:Pt}{T ms:List Nat}{tv mv:AV}(hn:n<=2^9)(hm:m<=2^9)(hx:x<m)(h:KY s pb n bl bp bs bb be bm p)(hw:p.Wf n)(hM:∀u∈ms,u<n)(hml:ms.length<=2^9)(hTl:T.length+ms.length*n<=2^29)
  (hbf:∀c,c<n->(bf x c).length<=n/\∀u∈bf x c,u<n)
  (g3:e.get 3=.ptr pb 0)(g4:e.get 4=.sl B 0 m (some m) 1)(Jj:e.get 12=.int .i64 (x:Int))(yU:e.get 13=tv)(ao6:e.get 123=mv)(ao7:e.get 124=.int .i64 ms.length)(ao8:e.get 125=.int .i64 (0:Nat))
  (hT:M7 s N T tv)(hTf:∀j,WN tv j->WZ pb bl bp bs bb be bm j/\Ou lo hi j)(hN:N<=s.next)(hMr:A' s ms mv)(hMf:∀j,WN mv j->WZ pb bl bp bs bb be bm j/\¬WN tv j)
  (hB:yZ s B m n bf lo hi bx vs)(hPo:∀j,Ou lo hi j\/WZ pb bl bp bs bb be bm j)(fr:Fr s)
  (hk:∀e' s' I_,(∀t:Nat,t<13\/17<t/\t<125->e'.get t=e.get t)->e'.get 13=I_->KY s' pb n bl bp bs bb be bm (Yp (ms.flatMap (bf x)) p T).1->M7 s' N (Yp (ms.flatMap (bf x)) p T).2 I_->(∀j,WN I_ j->WN tv j\/s.next<=j) ->
   (∀j,j<s.next->j≠bl->j≠bp->j≠bm->¬WN tv j->s'.get j=s.get j)->s.next<=s'.next->Fr s'->ZC (goN U fin ks e' s')) :
  ZC (SJ U fin (.bk 10::ks) GI e s):=by
 refine YT (σ:=Nat) (λi=>ms.length-i) (λi e' s'=>i<=ms.length/\(∀t:Nat,t<13\/17<t/\t<125->e'.get t=e.get t)/\e'.get 125=.int .i64 (i:Nat)/\s.next<=s'.next/\Fr s' /\
   ∃p' T' I_,e'.get 13=I_/\KY s' pb n bl bp bs bb be bm p'/\p'.Wf n/\Yp ((ms.drop i).flatMap (bf x)) p' T'=Yp (ms.flatMap (bf x)) p T/\T'.length<=T.length+i*n/\M7 s' N T' I_/\(∀j,WN I_ j->WN tv j\/s.next<=j)/\(∀j,j<s.next->j≠bl->j≠bp->j≠bm->¬WN tv j->s'.get j=s.get j)) 0 ?_
  ⟨apW _,λ_ _=>rfl,ao8,api _,fr,p,T,tv,yU,h,hw,rfl,by simp,hT,λj=>.inl,λ_ _ _ _ _ _=>rfl⟩
 rintro Lp i e' s' ⟨DR,hold,agx,Vq,Wk,p',T',I_,La,P,Lb,Cq,hlen,pK,UG,hs⟩ IH;have q3:=(hold 3 J).trans g3;have q4:=(hold 4 J).trans g4;have uy:=(hold 12 J).trans Jj;have ao9:=(hold 123 J).trans ao6;have akR:=(hold 124 J).trans ao7;have lts:=h.ltA;by_cases hd:i<ms.length
 ·have Ql:=ZI hd J;have hle:=hB.le;have B2:=hB.keep Vq λj h1 h2=>by
   have h3:WZ pb bl bp bs bb be bm j:=by rcases hPo j with h|h;unfold Ou at h;omega;exact h
   unfold WZ at h3;exact hs j J J J J λhb=>by have:=(hTf j hb).2;unfold Ou at this;omega
  have M2:=hMr.keep Vq λj h1 h2=>by obtain⟨h3,h4⟩:=hMf j h2;unfold WZ at h3;exact hs j h1 J J J h4
  obtain⟨b,rfl,hg,hb⟩:∃b,mv=.sl b 0 ms.length none 1/\s'.get b=some (.cells (Zz ms) 3 false 0 0)/\b<s'.next:=by
   rcases M2 with⟨_,h⟩|h
   ·rw[h] at hd;simp at hd
   ·exact h
  have o1:=XY (l:=ms) (i:=i) hd;have hu:=hM _ (adm hd);rw[Sy hd] at o1;rw[aea hd,aqp,Im] at Cq;generalize ms[i]=c at *;obtain⟨f1,f2⟩:=hbf c hu;have o2:=MY (λx=>(AV.sl (bx x) 0 n (some n) 1)) hx;have o3:=MY (vs x) hu;have NO:=B2.row x hx;have F7:=B2.bl x hx c hu;have hv3:=F7.QE;have TD:i*n+n<=ms.length*n:=by
   have:(i+1)*n<=ms.length*n:=aqC n hd;rw[Nat.succ_mul] at this;exact this
  have hB2:=B2.g;have hTP:∀j,WN I_ j->WZ pb bl bp bs bb be bm j/\(Ou lo hi j):=λj hj=>by
   rcases UG j hj with h4|h4
   ·exact hTf j h4
   ·refine⟨by unfold WZ;omega,by unfold Ou;omega⟩
  simp only[go_sem,GI,q4,uy,ao9,akR,agx,Z9,hd,hg,o1,o2,o3,hx,hu,hB2,NO,hv3,ap3];refine ahc (N:=N) (p:=p') (T:=T') (tv:=I_) (us:=bf x c) J P Lb f2 J J ?_ ?_ ?_ ?_ ?_ pK (λj hj=>(hTP j hj).1) J F7 (λj hj=>?_) Wk ?_
  case refine_7 =>
   intro e2 s2 tv2 Ol h2b P3 T3 yX fs3 ib tU;have ao_:e2.get 125=.int .i64 (i:Nat):=by rw[Ol 125 J];simp only[go_sem,agx]
   simp only[go_sem,ao_,Ql];refine IH (i+1) _ _ J ⟨J,λt ht=>?_,?_,J,tU,_,_,tv2,?_,P3,D4 _ _ _ Lb f2,Cq,?_,T3,λj hj=>?_,λj h1 h2 h3 h4 h5=>?_⟩
   ·have ZB:∀k:Nat,125<=k->(k=t)=False:=λk hk=>F_
    have akS:(15=t)=False:=F_;simp only[go_sem,ZB];rw[Ol t J];simp only[go_sem,ZB,akS];exact hold t ht
   ·simp only[go_sem]
   ·simp only[go_sem,h2b]
   ·have:=Om (bf x c) p' T';rw[Nat.succ_mul];omega
   ·rcases yX j hj with h6|h6
    ·exact UG j h6
    ·right;omega
   ·by_cases hb:WN I_ j
    ·rcases UG j hb with h6|h6
     ·exact absurd h6 h5
     ·omega
    ·rw[fs3 j J h2 h3 h4 hb,hs j h1 h2 h3 h4 h5]
  case refine_6 =>
   have h1:=B2.hv x hx c hu j hj;refine⟨?_,λhb=>?_⟩
   ·rcases hPo j with h|h
    ·unfold Ou at h;omega
    ·exact h
   ·have:=(hTP j hb).2;unfold Ou at this;omega
  all_goals simp only[go_sem,q3,La]
  all_goals rfl
 ·have:i=ms.length:=J;subst this;rw[aqi,List.flatMap_nil,Yp] at Cq;rw[<-Cq] at hk;simp only[go_sem,GI,akR,agx,Z9,ap5];refine hk _ _ I_ (λt ht=>?_) ?_ P pK UG hs Vq Wk
  ·have ZB:∀k:Nat,125<=k->(k=t)=False:=λk hk=>F_
   have yn:(17=t)=False:=F_;simp only[go_sem,ZB];exact hold t ht
  ·simp only[go_sem,La]
end Go.Am
