/- A part of the proof of a statement of this seat: the machine on which the program is read, and what it computes; for every input. -/
import Derived.Test.YtikiipfbkfgmbaaGreatDoorZ07
import Derived.Test.YtikiipfbkfgmbaaGreatDoorZ08
set_option linter.all false
namespace Go.Am
open Go
variable [Z4]
set_option maxRecDepth 100000
set_option maxHeartbeats 8000000
def HS (s:St)(N:Nat)(L:List Nat)(v:AV):Prop:=(v=.ZW/\L=[])\/∃b,v=.sl b 0 L.length none 1/\s.get b=some (.cells (ZO L) 3 false 0 0)/\N<=b/\b<s.next
def Xb (v:AV)(j:Nat):Prop:=∃n,v=.sl j 0 n none 1
theorem Yl (b n j:Nat):Xb (.sl b 0 n none 1) j<->b=j:=by
 constructor
 ·rintro⟨m,h⟩;cases h;rfl
 ·rintro rfl;exact⟨n,rfl⟩
theorem V' (j:Nat):¬Xb .ZW j:=by rintro⟨m,h⟩;cases h
theorem HS.keep {s s':St}{N:Nat}{L:List Nat}{v:AV}(h:HS s N L v)(hn:s.next<=s'.next)(hg:∀j,j<s.next->N<=j->Xb v j->s'.get j=s.get j):HS s' N L v:=by
 rcases h with h|⟨b,h1,h2,h3,h4⟩
 ·exact .inl h
 ·exact .inr ⟨b,h1,by rw[hg b h4 h3 ⟨_,h1⟩];exact h2,h3,by omega⟩
theorem HS.lt {s:St}{N:Nat}{L:List Nat}{v:AV}(h:HS s N L v){j:Nat}(hj:Xb v j):N<=j/\j<s.next:=by
 rcases h with⟨h,_⟩|⟨b,h1,h2,h3,h4⟩
 ·rw[h] at hj;exact absurd hj (V' j)
 ·rw[h1,Yl] at hj;subst hj;exact⟨h3,h4⟩
structure kV (s:St)(pb n bp bs N:Nat)(p:Pt)(vl ve:AV)(b1 b3:Nat):Prop where
 g:s.get pb=some (.cells [vl,.sl bp 0 n (some n) 1,.sl bs 0 n (some n) 1,.sl b1 0 p.bg.length none 1,ve,.sl b3 0 p.mr.length none 1] 285 false 0 0)
 gp:s.get bp=some (.cells (ZO p.place) 3 false 0 0)
 gs:s.get bs=some (.cells (ZO p.set) 3 false 0 0)
 gb:s.get b1=some (.cells (ZO p.bg) 3 false 0 0)
 gm:s.get b3=some (.cells (ZO p.mr) 3 false 0 0)
 l:HS s N p.list vl
 e:HS s N p.en ve
 h1:N<=b1/\b1<s.next/\N<=b3/\b3<s.next/\b1≠b3
 dl:∀j,Xb vl j->j≠b1/\j≠b3/\¬Xb ve j
 de:∀j,Xb ve j->j≠b1/\j≠b3
 lo:pb<N/\bp<N/\bs<N/\pb≠bp/\pb≠bs/\bp≠bs/\N<=s.next
 lp:p.place.length=n
 ls:p.set.length=n
theorem adZ {β:Type}{fin:Fl->β}{ks:List K}{ZB:β->Prop}{pb n bp bs N b1 b3 K gb:Nat}{p:Pt}{vl ve:AV}{G:List Nat}{e:Env}{s:St}(hn:n<=2^19)(hG:∀u∈G,u<n)(hb:p.list.length+G.length<=2^20)(hK:K<=2^20)
  (g3:Env.get e 3=.ptr pb 0)(Iw:Env.get e 12=.int .i64 (K:Int))(g96:Env.get e 96=.sl gb 0 G.length none 1)(g97:Env.get e 97=.int .i64 G.length)(g98:Env.get e 98=.int .i64 (0:Nat))
  (hgb:s.get gb=some (.cells (ZO G) 3 false 0 0))(Yh:gb<N)(ZC:gb≠pb/\gb≠bp/\gb≠bs)(M:kV s pb n bp bs N p vl ve b1 b3)(fr:Fr s)
  (hk:∀e' s' Av,(∀t:Nat,t<15\/15<t/\t<98->Env.get e' t=Env.get e t)->kV s' pb n bp bs N (Wt K G p) Av ve b1 b3->(∀j,j<N->j≠pb->j≠bp->j≠bs->s'.get j=s.get j)->s.next<=s'.next->Fr s'->ZB (goN U fin ks e' s')) :
  ZB (SD U fin (.bk 6::ks) KO e s):=by
 refine YP (σ:=Nat) (fun i=>G.length-i) (fun i e' s'=>i<=G.length/\(∀t:Nat,t<15\/15<t/\t<98->Env.get e' t=Env.get e t)/\Env.get e' 98=.int .i64 (i:Nat)/\(∀j,j<N->j≠pb->j≠bp->j≠bs->s'.get j=s.get j)/\s.next<=s'.next/\Fr s' /\
   ∃p' Av,kV s' pb n bp bs N p' Av ve b1 b3/\Wt K (G.drop i) p'=Wt K G p/\p'.list.length=p.list.length+i) 0 ?_
  ⟨aic _,fun _ _=>rfl,g98,fun _ _ _ _ _=>rfl,agB _,fr,p,vl,M,rfl,rfl⟩
 rintro Lp i e' s' ⟨hi,hold,q98,hs,Vl,Xx,p',Av,M',oN,hlen⟩ IH;have q3:=(hold 3 (by omega)).trans g3;have fK:=(hold 12 (by omega)).trans Iw;have q96:=(hold 96 (by omega)).trans g96;have q97:=(hold 97 (by omega)).trans g97;by_cases hd:i<G.length
 ·have hw:=ZN hd (by omega);have ahd:=(hs gb Yh ZC.1 ZC.2.1 ZC.2.2).trans hgb;have o1:=Yq (l:=G) (i:=i) hd;have hu:=hG _ (adm hd);rw[VF hd] at o1;rw[abc hd,Wt] at oN;generalize G[i]=u at *;obtain⟨g,gp,gs,gb1,gm,hl,he,⟨c1,c2,c3,c4,c5⟩,dl,de,⟨d1,d2,d3,d4,d5,d6,d7⟩,lp,ls⟩:=M';have y1:=Xd (l:=p'.place) (i:=u) p'.list.length (by omega);have y2:=Xd (l:=p'.set) (i:=u) K (by omega);have u1:u<n:=hu;have z1:(bp=pb)=False:=eq_false d4.symm;have z2:(bp=bs)=False:=eq_false d6;have z3:(bs=pb)=False:=eq_false d5.symm;have z4:(bs=bp)=False:=eq_false d6.symm;have UP:(p'.list.length+1)*8<=1099511627776:=by omega
  have VP:p'.list.length+1<=1099511627776:=by omega
  have tA:(0+1)*8<=1099511627776:=by omega
  have nZ:0+1<=1099511627776:=by omega
  have f1:∀q,(s'.next+q=pb)=False:=fun q=>by simp;omega
  have f2:∀q,(s'.next+q=bp)=False:=fun q=>by simp;omega
  have f3:∀q,(s'.next+q=bs)=False:=fun q=>by simp;omega
  have f6:∀b,N<=b->(pb=b)=False:=fun b hb=>by simp;omega
  have f7:∀b,N<=b->(bp=b)=False:=fun b hb=>by simp;omega
  have f8:∀b,N<=b->(bs=b)=False:=fun b hb=>by simp;omega
  have f9:∀b,N<=b->(b=pb)=False:=fun b hb=>by simp;omega
  have f11:∀b,N<=b->(b=bp)=False:=fun b hb=>by simp;omega
  have f12:∀b,N<=b->(b=bs)=False:=fun b hb=>by simp;omega
  have Ib:∀t:Nat,t<15\/15<t/\t<98->((15=t)=False/\∀k:Nat,98<=k->(k=t)=False):=fun t ht=>⟨by simp;omega,fun k hk=>by simp;omega⟩
  have key:∀(E:Env) (S:St),(∀t:Nat,t<15\/15<t/\t<98->Env.get E t=Env.get e' t)->Env.get E 98=.int .i64 ((i+1:Nat):Int) ->
    S.get pb=some (.cells [.sl (s'.next+21) 0 (p'.list.length+1) none 1,.sl bp 0 n (some n) 1,.sl bs 0 n (some n) 1,.sl b1 0 p'.bg.length none 1,ve,.sl b3 0 p'.mr.length none 1] 285 false 0 0) ->
    S.get bp=some (.cells (ZO (p'.place.set u p'.list.length)) 3 false 0 0)->S.get bs=some (.cells (ZO (p'.set.set u K)) 3 false 0 0)->S.get (s'.next+21)=some (.cells (ZO (p'.list++[u])) 3 false 0 0) ->
    (∀j,j<s'.next->j≠pb->j≠bp->j≠bs->¬Xb Av j->S.get j=s'.get j)->s'.next+21<S.next->Fr S->ZB (SD U fin (.bk 6::ks) Lp E S):=by
   intro E S k1 k2 k3 k4 k5 k6 k7 k8 k9;refine IH (i+1) _ _ (by omega) ⟨by omega,fun t ht=>(k1 t ht).trans (hold t ht),k2,fun j h1 h2 h3 h4=>(k7 j (by omega) h2 h3 h4 fun h=>by have:=hl.lt h;omega).trans (hs j h1 h2 h3 h4),by omega,k9,{ list:=p'.list++[u],place:=p'.place.set u p'.list.length,set:=p'.set.set u K,bg:=p'.bg,en:=p'.en,mr:=p'.mr },.sl (s'.next+21) 0 (p'.list.length+1) none 1,⟨k3,k4,k5,(k7 b1 c2 (by omega) (by omega) (by omega) fun h=>(dl _ h).1 rfl).trans gb1,(k7 b3 c4 (by omega) (by omega) (by omega) fun h=>(dl _ h).2.1 rfl).trans gm,.inr ⟨s'.next+21,by simp,k6,by omega,k8⟩,he.keep (by omega) fun j h1 h2 h3=>k7 j h1 (by omega) (by omega) (by omega) fun h=>(dl _ h).2.2 h3,⟨c1,by omega,c3,by omega,c5⟩,fun j hj=>?_,de,⟨d1,d2,d3,d4,d5,d6,by omega⟩,by rw[ami];exact lp,by rw[ami];exact ls⟩,oN,by simp[hlen];omega⟩;rw[Yl] at hj;subst hj;refine⟨by omega,by omega,fun h=>?_⟩;have:=he.lt h;omega
  rcases hl with⟨rfl,hl⟩|⟨bl,rfl,hg,e1,e2⟩
  ·rw[hl] at key;rw[hl,List.length_nil] at y1;have y1:lay u [.int .i64 0] (ZO p'.place)=some (ZO (p'.place.set u 0)):=y1;simp only[go_sem,KO,q3,fK,q96,q97,q98,Z8,hd,hw,ahd,o1,g,gp,gs,u1,y1,y2,ah1,z1,z2,z3,ZH,Nat.reducePow,amk,tA,nZ,V_,ald,akc,f1];refine key _ _ (fun t ht=>?_) ?_ ?_ ?_ ?_ ?_ (fun j h1 h2 h3 h4 h5=>?_) ?_ ?_
   ·obtain⟨fO,n98⟩:=Ib t ht;simp only[go_sem,fO,n98]
   ·simp only[go_sem]
   ·simp only[go_sem]
   ·simp only[go_sem,eq_false d4,f2,akc,z4]
   ·simp only[go_sem,eq_false d5,f3,akc]
   ·simp only[go_sem,akc,Nat.reduceAdd,(fun q=>f6 (s'.next+q) (by omega):∀q,(pb=s'.next+q)=False)];rfl
   ·have e0:∀q,(s'.next+q=j)=False:=fun q=>by simp;omega
    simp only[Z9,Z7,Z',Z_,Z6,ZT,akc,Nat.reduceAdd,e0,eq_false h2.symm,eq_false h3.symm,eq_false h4.symm,if_false]
   ·simp only[Z',Z_,Z6];omega
   ·repeat first|exact Xx|apply Fr.new|apply Fr.put|apply Fr.upto
    all_goals try simp only[Z',Z_,Z6]
    all_goals omega
  ·have a1:=fun (S:St) (h:S.get bl=some (.cells (ZO p'.list) 3 false 0 0))=>Ai rfl h u
   have f10:∀q,(s'.next+q=bl)=False:=fun q=>by simp;omega
   simp only[go_sem,KO,q3,fK,q96,q97,q98,Z8,hd,hw,ahd,o1,g,gp,gs,u1,y1,y2,ah1,z1,z2,z3,ZH,Nat.reducePow,UP,VP,akc,f1,f7,f8,f9,f10,e1,hg,a1];refine key _ _ (fun t ht=>?_) ?_ ?_ ?_ ?_ ?_ (fun j h1 h2 h3 h4 h5=>?_) ?_ ?_
   ·obtain⟨fO,n98⟩:=Ib t ht;simp only[go_sem,fO,n98]
   ·simp only[go_sem]
   ·simp only[go_sem]
   ·simp only[go_sem,eq_false d4,f2,f11,e1,z4,akc]
   ·simp only[go_sem,eq_false d5,f3,f12,e1,akc]
   ·simp only[go_sem,akc,Nat.reduceAdd,(fun q=>f6 (s'.next+q) (by omega):∀q,(pb=s'.next+q)=False)]
   ·have e0:∀q,(s'.next+q=j)=False:=fun q=>by simp;omega
    rw[Yl] at h5;simp only[Z9,Z7,Z',Z_,Z6,ZT,akc,Nat.reduceAdd,e0,eq_false h2.symm,eq_false h3.symm,eq_false h4.symm,eq_false h5,if_false]
   ·simp only[Z',Z_,Z6];omega
   ·repeat first|exact Xx|apply Fr.new|apply Fr.put|apply Fr.upto
    all_goals try simp only[Z',Z_,Z6]
    all_goals omega
 ·have:i=G.length:=by omega
  subst this;rw[alO,Wt] at oN;subst oN;simp only[go_sem,KO,q97,q98,Z8,alh];refine hk _ _ Av (fun t ht=>?_) M' hs Vl Xx;have ZC:∀k:Nat,98<=k->(k=t)=False:=fun k hk=>by simp;omega
  simp only[go_sem,ZC];exact hold t ht
def As (s:St)(pb n bp bs N:Nat)(p:Pt):Prop :=
 (p=⟨[],p.place,p.set,[],[],[]⟩/\s.get pb=some (.cells [.ZW,.sl bp 0 n (some n) 1,.sl bs 0 n (some n) 1,.ZW,.ZW,.ZW] 285 false 0 0)/\s.get bp=some (.cells (ZO p.place) 3 false 0 0)/\s.get bs=some (.cells (ZO p.set) 3 false 0 0)) \/
 ∃bl bb be bm,LI s pb n bl bp bs bb be bm p/\N<=bl/\N<=bb/\N<=be/\N<=bm
theorem adY {β:Type}{fin:Fl->β}{ks:List K}{ZB:β->Prop}{pb n bp bs N:Nat}{p:Pt}{e:Env}{s:St}(hn:n<=2^19)(Mw:p.place.length=n)(l8:p.set.length=n)(hbg:p.bg.length<=2^20)(hmr:p.mr.length<=2^20)(g3:Env.get e 3=.ptr pb 0)
  (lo:pb<N/\bp<N/\bs<N/\pb≠bp/\pb≠bs/\bp≠bs/\N<=s.next)(h:As s pb n bp bs N p)(fr:Fr s)
  (hk:∀e' s' vl ve b1 b3,(∀t:Nat,t<71->Env.get e' t=Env.get e t)->kV s' pb n bp bs N { p with bg:=p.bg++[p.list.length],mr:=p.mr++[0] } vl ve b1 b3->(∀j,j<N->j≠pb->s'.get j=s.get j)->s.next<=s'.next->Fr s'->ZB (goN U fin ks e' s')) :
  ZB (go U fin ks (.raw vq) e s):=by
 obtain⟨d1,d2,d3,d4,d5,d6,d7⟩:=lo;rw[Uc abV];have Nc:=fr.at;have Ib:∀t:Nat,t<71->(∀k:Nat,71<=k->(k=t)=False):=fun t ht=>fun k hk=>by simp;omega
 have f1:∀q,(s.next+q=pb)=False:=fun q=>by simp;omega
 have f2:∀q,(s.next+q=bp)=False:=fun q=>by simp;omega
 have f3:∀q,(s.next+q=bs)=False:=fun q=>by simp;omega
 have f6:∀b,N<=b->(pb=b)=False:=fun b hb=>by simp;omega
 have f9:∀b,N<=b->(b=pb)=False:=fun b hb=>by simp;omega
 have M0:∀j q,j<s.next->(j=s.next+q)=False:=fun j q hj=>by simp;omega
 have Kl:∀j q,j<s.next->(s.next+q=j)=False:=fun j q hj=>by simp;omega
 have Wy:pb<s.next:=by omega
 have xh:∀q,q≠0->(s.next+q=s.next)=False:=fun q hq=>by simp;omega
 have xg:∀q,q≠0->(s.next=s.next+q)=False:=fun q hq=>by simp;omega
 have key:∀(E:Env) (S:St) (vl ve:AV) (b1 b3:Nat),(∀t:Nat,t<71->Env.get E t=Env.get e t) ->
   S.get pb=some (.cells [vl,.sl bp 0 n (some n) 1,.sl bs 0 n (some n) 1,.sl b1 0 (p.bg.length+1) none 1,ve,.sl b3 0 (p.mr.length+1) none 1] 285 false 0 0) ->
   S.get b1=some (.cells (ZO (p.bg++[p.list.length])) 3 false 0 0)->S.get b3=some (.cells (ZO (p.mr++[0])) 3 false 0 0)->s.next<=b1->b1<b3->b3<S.next->HS s N p.list vl->HS s N p.en ve->(∀j,Xb vl j->¬Xb ve j) ->
   s.get bp=some (.cells (ZO p.place) 3 false 0 0)->s.get bs=some (.cells (ZO p.set) 3 false 0 0) ->
   (∀j,j<s.next->j≠pb->Xb vl j\/Xb ve j\/j<N->S.get j=s.get j)->Fr S->ZB (goN U fin ks E S):=by
  intro E S vl ve b1 b3 k1 k2 k3 k4 k5 k6 k7 k8 k9 nj k11 k12 k13 k14;refine hk E S vl ve b1 b3 k1 ⟨?_,?_,?_,k3,k4,?_,?_,⟨by omega,by omega,by omega,k7,by omega⟩,fun j hj=>⟨?_,?_,nj j hj⟩,fun j hj=>⟨?_,?_⟩,⟨d1,d2,d3,d4,d5,d6,by omega⟩,Mw,l8⟩ (fun j h1 h2=>k13 j (by omega) h2 (.inr (.inr h1))) (by omega) k14
  ·rw[k2];simp only[agy,alW]
  ·exact (k13 bp (by omega) d4.symm (.inr (.inr d2))).trans k11
  ·exact (k13 bs (by omega) d5.symm (.inr (.inr d3))).trans k12
  ·exact k8.keep (by omega) fun j h1 h2 h3=>k13 j h1 (by omega) (.inl h3)
  ·exact k9.keep (by omega) fun j h1 h2 h3=>k13 j h1 (by omega) (.inr (.inl h3))
  ·have:=k8.lt hj;omega
  ·have:=k8.lt hj;omega
  ·have:=k9.lt hj;omega
  ·have:=k9.lt hj;omega
 rcases h with⟨hp,g,gp,gs⟩|⟨bl,bb,be,bm,P,n1,n2,n3,n4⟩
 ·obtain⟨L,pl,st,bg,en,mr⟩:=p;simp only[Pt.mk.injEq] at hp;obtain⟨rfl,-,-,rfl,rfl,rfl⟩:=hp;simp only[go_sem,g3,g,V_,ZH,ah1,amk,Nat.reducePow,ald,akc,Nc,f1,List.length_nil,xh,xg,Option.isNone_none];refine key _ _ .ZW .ZW (s.next+25) (s.next+26) (fun t ht=>?_) ?_ ?_ ?_ (by omega) (by omega) ?_ (.inl ⟨rfl,rfl⟩) (.inl ⟨rfl,rfl⟩) (fun j h=>absurd h (V' j)) gp gs (fun j h1 h2 _=>?_) ?_
  ·have ZC:=Ib t ht;simp only[go_sem,ZC]
  ·simp only[go_sem]
  ·simp[go_sem,Wy,M0,akc];rfl
  ·simp[go_sem,Wy,M0,akc];rfl
  ·simp only[Z',Z_,Z6];omega
  ·have e0:∀q,(s.next+q=j)=False:=fun q=>by simp;omega
   simp only[Z9,Z7,Z',Z_,Z6,ZT,akc,Nat.reduceAdd,e0,eq_false h2.symm,if_false]
  ·repeat first|exact fr|apply Fr.new|apply Fr.put|apply Fr.upto
   all_goals try simp only[Z',Z_,Z6]
   all_goals omega
 ·obtain⟨g,gl,gp,gs,gb,ge,gm,ne,lt⟩:=P;have A:=Ap.of ne;have qx:=lt bl (by simp);have kT:=lt bb (by simp);have kp:=lt be (by simp);have WA:=lt bm (by simp);have a1:=fun (S:St) (h:S.get bb=some (.cells (ZO p.bg) 3 false 0 0))=>vJ rfl h p.list.length
  have a3:=fun (S:St) (h:S.get bm=some (.cells (ZO p.mr) 3 false 0 0))=>ik rfl h
  have UP:(p.bg.length+1)*8<=1099511627776:=by omega
  have VP:p.bg.length+1<=1099511627776:=by omega
  have tA:(p.mr.length+1)*8<=1099511627776:=by omega
  have nZ:p.mr.length+1<=1099511627776:=by omega
  have z1:(bb=pb)=False:=eq_false A.n4.symm;have z2:(bm=pb)=False:=eq_false A.n6.symm;have z3:(bb=bm)=False:=eq_false A.WT;have z4:(pb=bb)=False:=eq_false A.n4;have z5:(pb=bm)=False:=eq_false A.n6;have z6:(bm=bb)=False:=eq_false A.WT.symm;simp only[go_sem,g3,g,gb,gm,ZH,ah1,Nat.reducePow,ald,akc,Nc,f1,a1,a3,UP,VP,tA,nZ,z1,z2,z3,M0,Kl,xh,xg,kT,WA,Option.isNone_none];refine key _ _ (.sl bl 0 p.list.length none 1) (.sl be 0 p.en.length none 1) (s.next+25) (s.next+26) (fun t ht=>?_) ?_ ?_ ?_ (by omega) (by omega) ?_ (.inr ⟨bl,rfl,gl,n1,qx⟩) (.inr ⟨be,rfl,ge,n3,kp⟩) (fun j h=>?_) gp gs (fun j h1 h2 h3=>?_) ?_
  ·have ZC:=Ib t ht;simp only[go_sem,ZC]
  ·rw[Mw,l8];simp only[go_sem]
  ·simp[go_sem,Wy,M0,WA,akc]
  ·simp[go_sem,Wy,M0,akc]
  ·simp only[Z',Z_,Z6];omega
  ·rw[Yl] at h ⊢;subst h;exact A.fP.symm
  ·have e0:∀q,(s.next+q=j)=False:=fun q=>by simp;omega
   have e1:(bb=j)=False:=by
    simp only[eq_iff_iff,iff_false];rintro rfl;rw[Yl,Yl] at h3;have:=A.n9;have:=A.n19;omega
   have e2:(bm=j)=False:=by
    simp only[eq_iff_iff,iff_false];rintro rfl;rw[Yl,Yl] at h3;have:=A.wR;have:=A.nX;omega
   simp only[Z9,Z7,Z',Z_,Z6,ZT,akc,Nat.reduceAdd,e0,e1,e2,eq_false h2.symm,if_false]
  ·repeat first|exact fr|apply Fr.new|apply Fr.put|apply Fr.upto
   all_goals try simp only[Z',Z_,Z6]
   all_goals omega
theorem GU (c:Nat)(x y z:List Nat):∀(l:List Nat) (p:Pt),Wt c l { p with bg:=x,mr:=y,en:=z }={ Wt c l p with bg:=x,mr:=y,en:=z }
 |[],_=>rfl
 |u::l,p=>by
  rw[Wt,Wt];exact GU c x y z l { p with place:=p.place.set u p.list.length,set:=p.set.set u c,list:=p.list++[u] }
def dE:RC:=(.TP 15 [⟨some 131,none,none,false,.O9 (.t 3)⟩,
 ⟨some 132,none,none,false,.O9 (.t 3)⟩,
 ⟨some 133,none,none,false,.raw (.nilCheck (.tmp 132))⟩,
 ⟨some 134,none,none,false,.fa 4 (.t 133)⟩,
 ⟨some 135,none,none,false,.SL (.t 134)⟩,
 ⟨some 136,none,none,false,.O9 (.t 3)⟩,
 ⟨some 137,none,none,false,.raw (.nilCheck (.tmp 136))⟩,
 ⟨some 138,none,none,false,.fa 0 (.t 137)⟩,
 ⟨some 139,none,none,false,.SL (.t 138)⟩,
 ⟨some 140,none,none,false,.SW (.t 139)⟩,
 ⟨some 141,none,some 10,false,.U3 3 1 1 [(.int .i64 0)] [(0,1,(.t 140))]⟩,
 ⟨some 142,none,none,true,.app 3 1 8 (.t 135) (.t 141)⟩,
 ⟨some 143,none,none,false,.raw (.nilCheck (.tmp 131))⟩,
 ⟨some 144,none,none,false,.fa 4 (.t 143)⟩,
 ⟨none,none,none,true,.st 1 (.t 144) (.t 142)⟩])
theorem ad0 {β:Type}{fin:Fl->β}{ks:List K}{ZB:β->Prop}{pb n bp bs N b1 b3:Nat}{p:Pt}{vl ve:AV}{e:Env}{s:St}(hn:n<=2^19)(ek:p.list≠[])(hen:p.en.length<=2^20)(g3:Env.get e 3=.ptr pb 0)(M:kV s pb n bp bs N p vl ve b1 b3)(fr:Fr s)
  (hk:∀e' s',(∀t:Nat,t<131->Env.get e' t=Env.get e t)->As s' pb n bp bs N { p with en:=p.en++[p.list.length] }->(∀j,j<N->j≠pb->s'.get j=s.get j)->s.next<=s'.next->Fr s'->ZB (goN U fin ks e' s')) :
  ZB (go U fin ks dE e s):=by
 obtain⟨g,gp,gs,gb1,gm,hl,he,⟨c1,c2,c3,c4,c5⟩,dl,de,⟨d1,d2,d3,d4,d5,d6,d7⟩,lp,ls⟩:=M;have Ib:∀t:Nat,t<131->(∀k:Nat,131<=k->(k=t)=False):=fun t ht=>fun k hk=>by simp;omega
 have Wy:pb<s.next:=by omega
 have Nc:=fr.at;have M0:∀j q,j<s.next->(j=s.next+q)=False:=fun j q hj=>by simp;omega
 have Kl:∀j q,j<s.next->(s.next+q=j)=False:=fun j q hj=>by simp;omega
 have f1:∀q,(s.next+q=pb)=False:=fun q=>by simp;omega
 obtain⟨bl,rfl,hg,e1,e2⟩:∃b,vl=.sl b 0 p.list.length none 1/\s.get b=some (.cells (ZO p.list) 3 false 0 0)/\N<=b/\b<s.next:=by
  rcases hl with⟨_,h⟩|h
  ·exact absurd h ek
  ·exact h
 obtain⟨x1,x2,x3⟩:=dl bl ((Yl _ _ _).2 rfl);have key:∀(E:Env) (S:St) (be:Nat),(∀t:Nat,t<131->Env.get E t=Env.get e t) ->
   S.get pb=some (.cells [.sl bl 0 p.list.length none 1,.sl bp 0 n (some n) 1,.sl bs 0 n (some n) 1,.sl b1 0 p.bg.length none 1,.sl be 0 (p.en.length+1) none 1,.sl b3 0 p.mr.length none 1] 285 false 0 0) ->
   S.get be=some (.cells (ZO (p.en++[p.list.length])) 3 false 0 0)->s.next<=be->be<S.next ->
   (∀j,j<s.next->j≠pb->¬Xb ve j->S.get j=s.get j)->Fr S->ZB (goN U fin ks E S):=by
  intro E S be k1 k2 k3 k4 k5 k6 k7;have hve:∀j,j<N->¬Xb ve j:=fun j hj h=>by have:=he.lt h;omega
  refine hk E S k1 (.inr ⟨bl,b1,be,b3,⟨?_,?_,?_,?_,?_,k3,?_,?_,?_⟩,e1,c1,by omega,c3⟩) (fun j h1 h2=>k6 j (by omega) h2 (hve j h1)) (by omega) k7
  ·simp only[k2,lp,ls,agy,alW]
  ·exact (k6 bl e2 (by omega) x3).trans hg
  ·exact (k6 bp (by omega) (by omega) (hve bp d2)).trans gp
  ·exact (k6 bs (by omega) (by omega) (hve bs d3)).trans gs
  ·exact (k6 b1 c2 (by omega) fun h=>(de _ h).1 rfl).trans gb1
  ·exact (k6 b3 c4 (by omega) fun h=>(de _ h).2 rfl).trans gm
  ·simp only[amv,alL,List.not_mem_nil,not_or,or_false,List.nodup_nil,and_true,not_false_eq_true];refine⟨⟨?_,d4,d5,?_,?_,?_⟩,⟨?_,?_,x1,?_,x2⟩,⟨d6,?_,?_,?_⟩,⟨?_,?_,?_⟩,⟨?_,?_⟩,?_⟩ <;> omega
  ·intro j hj;simp only[alL,List.not_mem_nil,or_false] at hj;rcases hj with rfl|rfl|rfl|rfl|rfl|rfl|rfl <;> omega
 rcases he with⟨rfl,hh⟩|⟨be,rfl,EH,e3,e4⟩
 ·have UP:(0+1)*8<=1099511627776:=by omega
  simp only[go_sem,dE,g3,g,ZH,V_,ah1,amk,Nat.reducePow,ald,Nc,f1,Option.isNone_none];refine key _ _ (s.next+15) (fun t ht=>?_) ?_ ?_ (by omega) ?_ (fun j h1 h2 h3=>?_) ?_
  ·have ZC:=Ib t ht;simp only[go_sem,ZC]
  ·simp only[go_sem,hh]
  ·rw[hh];simp[go_sem,M0,Wy];rfl
  ·simp only[Z',Z_,Z6];omega
  ·have e0:∀q,(s.next+q=j)=False:=fun q=>by simp;omega
   simp only[Z9,Z7,Z',Z6,ZT,e0,eq_false h2.symm,if_false]
  ·repeat first|exact fr|apply Fr.new|apply Fr.put|apply Fr.upto
   all_goals try simp only[Z',Z_,Z6]
   all_goals omega
 ·have UP:(p.en.length+1)*8<=1099511627776:=by omega
  have VP:p.en.length+1<=1099511627776:=by omega
  have a1:=fun (S:St) (h:S.get be=some (.cells (ZO p.en) 3 false 0 0))=>vJ rfl h p.list.length
  have z1:(be=pb)=False:=by simp;omega
  have z2:(pb=be)=False:=by simp;omega
  simp only[go_sem,dE,g3,g,ZH,a1,EH,ah1,Nat.reducePow,ald,Nc,f1,Kl,e4,UP,VP,z1,Option.isNone_none];refine key _ _ (s.next+15) (fun t ht=>?_) ?_ ?_ (by omega) ?_ (fun j h1 h2 h3=>?_) ?_
  ·have ZC:=Ib t ht;simp only[go_sem,ZC]
  ·simp only[go_sem]
  ·simp[go_sem,M0,Wy]
  ·simp only[Z',Z_,Z6];omega
  ·have e0:∀q,(s.next+q=j)=False:=fun q=>by simp;omega
   rw[Yl] at h3;simp only[Z9,Z7,Z',Z6,ZT,e0,eq_false h2.symm,eq_false h3,if_false]
  ·repeat first|exact fr|apply Fr.new|apply Fr.put|apply Fr.upto
   all_goals try simp only[Z',Z_,Z6]
   all_goals omega
theorem GY (c:Nat):∀(l:List Nat) (p:Pt),(Wt c l p).list=p.list++l
 |[],p=>by simp[Wt]
 |u::l,p=>by rw[Wt,GY c l];simp
theorem GX (c:Nat):∀(l:List Nat) (p:Pt),(Wt c l p).bg=p.bg/\(Wt c l p).en=p.en/\(Wt c l p).mr=p.mr/\(Wt c l p).place.length=p.place.length/\(Wt c l p).set.length=p.set.length
 |[],p=>by simp[Wt]
 |u::l,p=>by
  have ih:=GX c l { p with place:=p.place.set u p.list.length,set:=p.set.set u c,list:=p.list++[u] };rw[Wt]
  simpa using ih
theorem adX {β:Type}{fin:Fl->β}{ks:List K}{ZB:β->Prop}{κ:Nat->XV}{pb n bp bs m N:Nat}{bl:List Nat}{vo:AV}{e:Env}{s:St}{p:Pt}(hn:n<=2^9)(g3:Env.get e 3=.ptr pb 0)(g4:Env.get e 4=.map m)(g64:Env.get e 64=vo)(g65:Env.get e 65=.int .i64 (Yu κ n).length)(g66:Env.get e 66=.int .i64 (0:Nat))
  (G:Grp s m κ n bl vo)(lo:pb<m/\bp<m/\bs<m/\pb≠bp/\pb≠bs/\bp≠bs/\m<s.next)
  (hp:p=⟨[],List.replicate n 0,List.replicate n 0,[],[],[]⟩)(h:As s pb n bp bs s.next p)(fr:Fr s)
  (hk:∀e' s',(∀t:Nat,t<12->Env.get e' t=Env.get e t)->As s' pb n bp bs s.next (Wi κ n)->(∀j,j<m->j≠pb->j≠bp->j≠bs->s'.get j=s.get j)->s.next<=s'.next->Fr s'->ZB (goN U fin ks e' s')) :
  ZB (SD U fin (.bk 4::ks) HU e s):=by
 have tM:=GV κ n;obtain⟨d1,d2,d3,d4,d5,d6,d7⟩:=lo;refine YP (σ:=Nat) (fun i=>(Yu κ n).length-i) (fun i e' s'=>i<=(Yu κ n).length/\(∀t:Nat,t<12\/15<t/\t<66->Env.get e' t=Env.get e t)/\Env.get e' 66=.int .i64 (i:Nat)/\(∀j,j<s.next->j≠pb->j≠bp->j≠bs->s'.get j=s.get j)/\s.next<=s'.next/\Fr s' /\
   ∃p',As s' pb n bp bs s.next p'/\DV κ n ((Yu κ n).drop i) p'=Wi κ n/\p'.place.length=n/\p'.set.length=n/\p'.bg.length=i/\p'.mr.length=i/\p'.en.length=i/\p'.list.length<=i*n) 0 ?_
  ⟨aic _,fun _ _=>rfl,g66,fun _ _ _ _ _=>rfl,agB _,fr,p,h,by rw[hp];rfl,by rw[hp];simp,by rw[hp];simp,by rw[hp];rfl,by rw[hp];rfl,by rw[hp];rfl,by rw[hp];simp⟩
 rintro Lp i e' s' ⟨hi,hold,q66,hs,Vl,Xx,p',P,Ar,w1,w2,w3,w4,w5,w6⟩ IH;have q3:=(hold 3 (by omega)).trans g3;have q4:=(hold 4 (by omega)).trans g4;have q64:=(hold 64 (by omega)).trans g64;have q65:=(hold 65 (by omega)).trans g65;by_cases hd:i<(Yu κ n).length
 ·obtain⟨Gm,wY,Gnd,wX,eK⟩:=G;have hw:=ZN hd (by omega);obtain⟨bo,rfl,ho,e1,e2⟩:∃b,vo=.sl b 0 (Yu κ n).length none 1/\s.get b=some (.cells (strs (Yu κ n)) 9 false 0 0)/\m+1<=b/\b<s.next:=by
   rcases eK with⟨h,_,_⟩|⟨_,_,b,h1,h2,h3,h4⟩
   ·omega
   ·exact⟨b,h3,h4,h1,h2⟩
  have Vo:=(hs bo e2 (by omega) (by omega) (by omega)).trans ho;have o1:(strs (Yu κ n))[i]? = some (.str (Yu κ n)[i]):=by unfold strs;rw[alV,aaa hd];rfl
  have hib:i<bl.length:=by omega
  obtain⟨b1,b2,b3⟩:=wX i hib hd;have hex:∃u,u<n/\κ u=(Yu κ n)[i]:=(Tj κ _ n).1 (adm hd);have hgl:=tG κ (Yu κ n)[i] n;have Aq:(RU κ (Yu κ n)[i] n)≠[]:=by
   obtain⟨u,h1,h2⟩:=hex;exact List.ne_nil_of_mem ((PE κ _ n u).2 ⟨h1,h2⟩)
  have EH:=Cf (len:=fun k=>(RU κ k n).length) (bs:=bl) (PD κ n) wY hd;have lk:=fun (S:St) (h:S.get m=some (.map (xF (SP (fun k=>(RU κ k n).length) (Yu κ n) bl)) false))=>DU h (Yu κ n)[i]
  rw[EH] at lk;simp only[amG] at lk;rw[abc hd,DV] at Ar;have hmul:i*n<=2^9*2^9:=Nat.mul_le_mul (by omega) hn;simp only[go_sem,HU,q64,q65,q66,Z8,hd,Vo,o1,ah1];refine adY (p:=p') (s:=s') (by omega) w1 w2 (by omega) (by omega) ?_ ⟨by omega,by omega,by omega,d4,d5,d6,Vl⟩ P Xx ?_
  ·simp only[go_sem,q3]
  intro EM s2 vl ve c1 c3 QF M S4 OL O1;have p3:Env.get EM 3=.ptr pb 0:=by rw[QF 3 (by omega)];simp only[go_sem,q3]
  have p4:Env.get EM 4=.map m:=by rw[QF 4 (by omega)];simp only[go_sem,q4]
  have p12:Env.get EM 12=.int .i64 (i:Nat):=by rw[QF 12 (by omega)];simp only[go_sem]
  have Aw:Env.get EM 13=.str (Yu κ n)[i]:=by rw[QF 13 (by omega)];simp only[go_sem]
  have um:s2.get m=some (.map (xF (SP (fun k=>(RU κ k n).length) (Yu κ n) bl)) false):=(S4 m d7 (by omega)).trans ((hs m d7 (by omega) (by omega) (by omega)).trans Gm);simp only[go_sem,p4,Aw,um,lk];refine adZ (K:=i) (gb:=bl[i]) (G:=RU κ (Yu κ n)[i] n) (by omega) (fun u hu=>((PE _ _ _ _).1 hu).1) (by simp only;omega) (by omega) ?_ ?_ ?_ ?_ ?_ ((S4 _ b2 (by omega)).trans ((hs _ b2 (by omega) (by omega) (by omega)).trans b3)) b2 ⟨by omega,by omega,by omega⟩ M O1 ?_
  case refine_6 =>
   intro e3 s3 Av Eg M3 xm aa_ rC;have r3:Env.get e3 3=.ptr pb 0:=by rw[Eg 3 (by omega)];simp only[go_sem,p3]
   rw[GU] at M3;have hal:=GY i (RU κ (Yu κ n)[i] n) p';obtain⟨t1,t2,t3,t4,t5⟩:=GX i (RU κ (Yu κ n)[i] n) p';rw[w3] at Ar;refine ad0 (by omega) ?_ (by simp only[w5];omega) r3 M3 rC ?_
   ·simp only[hal];intro h;exact Aq (List.append_eq_nil_iff.1 h).2
   ·intro e4 s4 h4a P4 hs4 alj fr4;have o66:Env.get e4 66=.int .i64 (i:Nat):=by
     rw[h4a 66 (by omega),Eg 66 (by omega)];simp only[go_sem];rw[QF 66 (by omega)];simp only[go_sem,q66]
    simp only[go_sem,o66,hw];refine IH (i+1) _ _ (by omega) ⟨by omega,fun t ht=>?_,?_,fun j h1 h2 h3 h4=>?_,by omega,fr4,_,P4,?_,?_,?_,?_,?_,?_,?_⟩
    ·have ZC:∀k:Nat,66<=k->(k=t)=False:=fun k hk=>by simp;omega
     simp only[go_sem,ZC];rw[h4a t (by omega),Eg t (by omega)];simp only[go_sem,ZC];rw[QF t (by omega)];have ahE:(12=t)=False:=by simp;omega
     have ahF:(13=t)=False:=by simp;omega
     simp only[go_sem,ZC,ahE,ahF];exact hold t ht
    ·simp only[go_sem]
    ·rw[hs4 j h1 h2,xm j h1 h2 h3 h4,S4 j h1 h2,hs j h1 h2 h3 h4]
    ·exact Ar
    ·exact t4.trans w1
    ·exact t5.trans w2
    ·simp[w3]
    ·simp[w4]
    ·simp[w5]
    ·simp only[hal,agy,Nat.succ_mul];omega
  all_goals simp only[go_sem,p3,p12]
  all_goals rfl
 ·have:i=(Yu κ n).length:=by omega
  subst this;rw[alO,DV] at Ar;subst Ar;simp only[go_sem,HU,q65,q66,Z8,alh];refine hk _ _ (fun t ht=>?_) P (fun j h1 h2 h3 h4=>hs j (by omega) h2 h3 h4) Vl Xx;have ZC:∀k:Nat,66<=k->(k=t)=False:=fun k hk=>by simp;omega
  simp only[go_sem,ZC];exact hold t (by omega)
theorem ki {base i a:Nat}{e:Env}{s:St}{n:Nat}(h:Env.get e a=.int .i64 (n:Int))(hn:n<=2^20) :
  WG U base (some i) e s (.raw (.makeSlice 40 (.tmp a) (.tmp a)))=some (.sl (base+i) 0 n (some n) 1,s.put (base+i) (.cells (ZO (List.replicate n 0)) 3 false 0 0)):=by
 have h40:U.Zd 40=some (.slice 3):=by kernel_rfl
 have hz:zero U 3=some (.int .i64 0):=by kernel_rfl
 have hi:(U.inf 3).map (fun i=>(i.bytes,i.size))=some (8,1):=by kernel_rfl
 have e1:ZO (List.replicate n 0)=List.replicate n (.int .i64 0):=by simp[ZO,PV,ints]
 cases hj:U.inf 3 with
 |none=>rw[hj] at hi;cases hi
 |some j =>
  rw[hj] at hi;simp only[amo,Option.some.injEq,Prod.mk.injEq] at hi;obtain⟨h1,h2⟩:=hi;rw[e1,<-VN];simp only[WG,qY,YI,eval,h,h40,hj,hz];rw[if_pos ⟨by omega,by omega,by rw[h1];omega,by omega,by rw[h2];rfl,by omega⟩,h2];rfl
def abX (s0:St)(n:Nat)(p:Pt)(r:Option (AV×St)):Prop :=
 ∃s' pb bl bp bs bb be bm,r=some (.ptr pb 0,s')/\LI s' pb n bl bp bs bb be bm p/\s0.next<=pb/\s0.next<=bl/\s0.next<=bp/\s0.next<=bs/\s0.next<=bb/\s0.next<=be/\s0.next<=bm/\s0.next<=s'.next/\Fr s'/\∀j,j<s0.next->s'.get j=s0.get j
theorem ajj {a:Yi}(ha:a.ok){s:St}(fr:Fr s):abX s a.next.length (Wi (Zg a) a.next.length) (Rl U 214 [Wd a] s):=by
 suffices mn:abX s a.next.length (Wi (Zg a) a.next.length) (go U (Sx U [.tmp 2]) [] abW (YX 0 [Wd a] .nil) s) by
  obtain⟨s',pb,bl,bp,bs,bb,be,bm,h1,h2⟩:=mn;exact⟨s',pb,bl,bp,bs,bb,be,bm,VE ajh (by kernel_rfl) h1,h2⟩
 have Aq:=ha.pos;have Si:=ha.few;have ajk:a.next.length<=2^20:=by omega
 have Nc:=fr.at;have M0:∀j q,j<s.next->(j=s.next+q)=False:=fun j q hj=>by simp;omega
 have Kl:∀j q,j<s.next->(s.next+q=j)=False:=fun j q hj=>by simp;omega
 have xh:∀q,q≠0->(s.next+q=s.next)=False:=fun q hq=>by simp;omega
 have xg:∀q,q≠0->(s.next=s.next+q)=False:=fun q hq=>by simp;omega
 have mk:=fun (base i t:Nat) (e:Env) (S:St) (h:Env.get e t=.int .i64 (a.next.length:Int))=>ki (base:=base) (i:=i) (s:=S) h ajk
 have hl:=ZI a.TH (a.next.map Zn);rw[agC] at hl;have Tk:=ZI a.S6 (a.ZD.map Zv);rw[agC] at Tk;have MB:=ha.fl;rw[WJ];simp only[go_sem,abW,Uc abU,akc,Nc,xh,xg,↓mk,SV,Vy,hl,Tk];have AL:∀x y z w v,Fr ((((((s.new x).upto (s.next+12)).put (s.next+4) y).put (s.next+8) z).put (s.next+10) w).new v):=fun x y z w v=>by
  repeat first|exact fr|apply Fr.new|apply Fr.put|apply Fr.upto
  all_goals try simp only[Z',Z_,Z6]
  all_goals omega
 refine afx ha (m:=s.next+12) ?_ ?_ ?_ ?_ ?_ ?_ ?_ (AL _ _ _ _ _) ?_
 case refine_8 =>
  intro e1 s1 bl vo h1a h1v G QK ajl mg;have p3:Env.get e1 3=.ptr (s.next+10) 0:=by rw[h1a 3 (by omega)];simp only[go_sem]
  have p4:Env.get e1 4=.map (s.next+12):=by rw[h1a 4 (by omega)];simp only[go_sem]
  have og:=G.row.len;simp only[Z',Z_,Z6] at ajl;have fH:∀j,j<s.next->s1.get j=s.get j:=fun j hj=>by
   rw[QK j (by omega)];have e0:∀q,(s.next+q=j)=False:=fun q=>by simp;omega
   have e2:(s.next=j)=False:=by simp;omega
   simp only[Z9,Z7,Z',Z6,ZT,e0,e2,if_false]
  have v10:s1.get (s.next+10)=some (.cells [.ZW,.sl (s.next+4) 0 a.next.length (some a.next.length) 1,.sl (s.next+8) 0 a.next.length (some a.next.length) 1,.ZW,.ZW,.ZW] 285 false 0 0):=by
   rw[QK _ (by omega)];simp[go_sem]
  have v4:s1.get (s.next+4)=some (.cells (ZO (List.replicate a.next.length 0)) 3 false 0 0):=by
   rw[QK _ (by omega)];simp[go_sem]
  have v8:s1.get (s.next+8)=some (.cells (ZO (List.replicate a.next.length 0)) 3 false 0 0):=by
   rw[QK _ (by omega)];simp[go_sem]
  simp only[go_sem,h1v,og];refine adX (ZB:=abX s a.next.length (Wi (Zg a) a.next.length)) (pb:=s.next+10) (bp:=s.next+4) (bs:=s.next+8) (m:=s.next+12) (N:=0) (p:=⟨[],List.replicate a.next.length 0,List.replicate a.next.length 0,[],[],[]⟩) (by omega) ?_ ?_ ?_ ?_ ?_ G ⟨by omega,by omega,by omega,by omega,by omega,by omega,by omega⟩ rfl (.inl ⟨rfl,v10,v4,v8⟩) mg ?_
  case refine_6 =>
   intro e2 s2 QF P S4 OL O1;have p3:Env.get e2 3=.ptr (s.next+10) 0:=by rw[QF 3 (by omega)];simp only[go_sem,p3]
   simp only[go_sem,p3];rcases P with⟨hP,_⟩|⟨c1,c2,c3,c4,Q,n1,n2,n3,n4⟩
   ·have:=(yV (Zg a) a.next.length).st 0 Aq ((Tj _ _ _).2 ⟨0,Aq,rfl⟩);rw[hP] at this;have:=this.1;simp at this
   ·exact⟨s2,s.next+10,c1,s.next+4,s.next+8,c2,c3,c4,rfl,Q,by omega,by omega,by omega,by omega,by omega,by omega,by omega,by omega,O1,fun j hj=>by rw[S4 j (by omega) (by omega) (by omega) (by omega),fH j hj]⟩
  all_goals simp only[go_sem,p3,p4]
  all_goals rfl
 all_goals try simp only[Z',Z_,Z6]
 all_goals try simp[go_sem]
theorem agc (args:List AV)(s:St):X6 U (ZE U 215 args) 215 args s=Rl U 215 args s:=(XI U 215 args s).symm
theorem Ks:∀(k f:Nat) (l:List AV),f+k<=l.length->XA k f l=some ((l.drop f).take k)
 |0,f,l,_=>by rw[Sq];simp
 |k+1,f,[],h=>by simp at h
 |k+1,0,x::l,h=>by
  rw[Sr,Ks k 0 l (by simp at h ⊢;omega)];rfl
 |k+1,f+1,x::l,h=>by
  rw[Dh,Ks (k+1) f l (by simp at h ⊢;omega)];rfl
theorem oI (L:List Nat)(f k:Nat):((ZO L).drop f).take k=ZO ((L.drop f).take k):=by
 unfold ZO PV ints;simp only[List.map_drop,List.map_take]
theorem T1 {t:TypeId}{n m:Nat}{new:List AV}{b len k:Nat}{s:St}{cs:List AV}{lo hi:Nat}(hg:s.get b=some (.cells cs t false lo hi))(hl:cs.length=len*n)(hk:¬len+m<=k) :
  Rx t n m new (.sl b 0 len (some k) n) s=some (.sl s.next 0 (len+m) none n,s.new (.cells (cs++new) t false 0 0)):=by
 simp only[Rx,St.cells,hg];rw[<-hl,Ws];simp only;rw[if_neg hk]
theorem agX (b o l z:Nat)(c:Option Nat):Wg U .eql 40 true (.sl b o l c z) .ZW=some (.bool false):=by
 have h:U.Zd 40=some (.slice 3):=by kernel_rfl
 simp only[Wg,IY,Au,h]
theorem aj3 {s:St}{b f k:Nat}{cap:Option Nat}{L:List Nat}(hg:s.get b=some (.cells (ZO L) 3 false 0 0))(hb:b<s.next)(hf:f+k<=L.length)(hk:0<k)(hL:L.length<=2^20) :
  Rl U 215 [.sl b f k cap 1] s=some (.sl (s.next+1) 0 k none 1,(s.new (.cells [] 3 false 0 0)).new (.cells (ZO ((L.drop f).take k)) 3 false 0 0)):=by
 refine VE ajK (by kernel_rfl) ?_;have hgr:XA k f (ZO L)=some (ZO ((L.drop f).take k)):=by rw[Ks _ _ _ (by rw[Ww];omega),oI]
 have hsr:∀S:St,S.get b=some (.cells (ZO L) 3 false 0 0)->Wc 1 (.sl b f k cap 1) S=some (k,ZO ((L.drop f).take k)):=fun S h=>by
  rw[Da,ah1,h];simp only[bH,cellsOf,hgr,ix]
 have hl:(ZO ((L.drop f).take k)).length=k*1:=by rw[Ww];simp;omega
 have hap:∀S:St,S.get s.next=some (.cells [] 3 false 0 0)->B7 3 1 8 (.sl s.next 0 0 (some 0) 1) (some (k,ZO ((L.drop f).take k))) S=some (.sl S.next 0 (0+k) none 1,S.new (.cells ([]++ZO ((L.drop f).take k)) 3 false 0 0)):=fun S h=>by
  rw[ZH hl (by simp only[Np];omega) (by simp only[Np];omega) (by omega),T1 h rfl (by omega)]
 have z:(s.next=b)=False:=by simp;omega
 simp only[go_sem,af2,agX,hg,hsr,hap,z,ald]
def NP (s:St)(N:Nat)(L:List Nat)(v:AV):Prop:=(v=.ZW/\L=[])\/∃b R,v=.sl b 0 L.length none 1/\s.get b=some (.cells (ZO (L++R)) 3 false 0 0)/\N<=b/\b<s.next
theorem NP.keep {s s':St}{N:Nat}{L:List Nat}{v:AV}(h:NP s N L v)(hn:s.next<=s'.next)(hg:∀j,j<s.next->N<=j->Xb v j->s'.get j=s.get j):NP s' N L v:=by
 rcases h with h|⟨b,R,h1,h2,h3,h4⟩
 ·exact .inl h
 ·exact .inr ⟨b,R,h1,by rw[hg b h4 h3 ⟨_,h1⟩];exact h2,h3,by omega⟩
theorem NP.lt {s:St}{N:Nat}{L:List Nat}{v:AV}(h:NP s N L v){j:Nat}(hj:Xb v j):N<=j/\j<s.next:=by
 rcases h with⟨h,_⟩|⟨b,R,h1,h2,h3,h4⟩
 ·rw[h] at hj;exact absurd hj (V' j)
 ·rw[h1,Yl] at hj;subst hj;exact⟨h3,h4⟩
theorem NP.Xj {s:St}{N:Nat}{L:List Nat}{v:AV}(h:NP s N L v):Go.Am.Xj v=L.length:=by
 rcases h with⟨rfl,rfl⟩|⟨b,R,rfl,h2,h3,h4⟩ <;> rfl
theorem NP.SW {s:St}{N:Nat}{L:List Nat}{v:AV}(h:NP s N L v):Ti v=some (.int .i64 L.length):=by
 rcases h with⟨rfl,rfl⟩|⟨b,R,rfl,h2,h3,h4⟩ <;> rfl
theorem NP.app {s:St}{N:Nat}{L:List Nat}{v:AV}(h:NP s N L v)(hN:N<=s.next)(k:Nat) :
  ∃s1,Rx 3 1 1 [.int .i64 (k:Int)] v s=some (.sl s.next 0 (L.length+1) none 1,s1)/\s1.next=s.next+1/\NP s1 N (L++[k]) (.sl s.next 0 (L.length+1) none 1)/\(∀j,j<s.next->¬Xb v j->s1.get j=s.get j)/\(Fr s->Fr s1):=by
 rcases h with⟨rfl,rfl⟩|⟨b,R,rfl,h2,h3,h4⟩
 ·refine⟨_,V_ _ _ _ _ _,rfl,.inr ⟨s.next,[],rfl,?_,hN,by rw[Z_];omega⟩,fun j hj _=>by rw[Z7,if_neg (by omega)],fun hf=>hf.new _⟩;rw[Z7,if_pos rfl];rfl
 ·have e:(ZO (L++R)).take (L.length*1)=ZO L:=by
   unfold ZO PV ints;rw[alY,alY,ah1,List.take_left' (by simp)]
  refine⟨(s.put b .gone).new (.cells (ZO (L++[k])) 3 false 0 0),?_,rfl,.inr ⟨s.next,[],by simp,?_,hN,by rw[Z_,Z'];omega⟩,fun j hj hb=>?_,fun hf=>(hf.put h4 _).new _⟩
  ·rw[TR,h2];have hgr:XA (L.length*1) 0 (ZO (L++R))=some (ZO L):=by
    rw[Ks _ _ _ (by rw[Ww];simp),amd,e]
   simp only[iw,hgr];rw[if_pos ⟨trivial,by omega,trivial,rfl⟩,Qa]
  ·rw[Z7,Z',if_pos rfl,alZ]
  ·rw[Yl] at hb;rw[Z7,Z',if_neg (by omega),Z9,if_neg hb]
theorem NP.get {s:St}{N:Nat}{L:List Nat}{v:AV}(h:NP s N L v){i:Nat}(hi:i<L.length) :
  ∃b R,v=.sl b 0 L.length none 1/\s.get b=some (.cells (ZO (L++R)) 3 false 0 0)/\(ZO (L++R))[i]? = some (.int .i64 (L[i]:Nat)):=by
 rcases h with⟨rfl,rfl⟩|⟨b,R,rfl,h2,h3,h4⟩
 ·simp at hi
 ·refine⟨b,R,rfl,h2,?_⟩;rw[Yq (by simp;omega),HC hi,VF hi]
def CH (s:St)(L:List Nat)(v:AV):Prop:=(v=.ZW/\L=[])\/∃b,v=.sl b 0 L.length none 1/\s.get b=some (.cells (ZO L) 3 false 0 0)/\b<s.next
theorem CH.keep {s s':St}{L:List Nat}{v:AV}(h:CH s L v)(hn:s.next<=s'.next)(hg:∀j,j<s.next->Xb v j->s'.get j=s.get j):CH s' L v:=by
 rcases h with h|⟨b,h1,h2,h4⟩
 ·exact .inl h
 ·exact .inr ⟨b,h1,by rw[hg b h4 ⟨_,h1⟩];exact h2,by omega⟩
theorem CH.SW {s:St}{L:List Nat}{v:AV}(h:CH s L v):Ti v=some (.int .i64 L.length):=by
 rcases h with⟨rfl,rfl⟩|⟨b,rfl,h2,h4⟩ <;> rfl
def Xk (pb bl bp bs bb be bm j:Nat):Prop:=j≠pb/\j≠bl/\j≠bp/\j≠bs/\j≠bb/\j≠be/\j≠bm
theorem LI.fZ {s:St}{pb n bl bp bs bb be bm:Nat}{p:Pt}(h:LI s pb n bl bp bs bb be bm p):pb<s.next/\bl<s.next/\bp<s.next/\bs<s.next/\bb<s.next/\be<s.next/\bm<s.next :=
 ⟨h.lt _ (by simp),h.lt _ (by simp),h.lt _ (by simp),h.lt _ (by simp),h.lt _ (by simp),h.lt _ (by simp),h.lt _ (by simp)⟩
theorem ad9 {β:Type}{fin:Fl->β}{ks:List K}{ZB:β->Prop}{pb n bl bp bs bb be bm N:Nat}{p:Pt}{T us:List Nat}{tv vB:AV}{e:Env}{s:St}(hn:n<=2^19)(h:LI s pb n bl bp bs bb be bm p)(hw:p.Wf n)(hU:∀u∈us,u<n)(hul:us.length<=2^20)(eD:T.length+us.length<=2^30)
  (g3:Env.get e 3=.ptr pb 0)(Bl:Env.get e 13=tv)(ahU:Env.get e 135=vB)(ahV:Env.get e 136=.int .i64 us.length)(ahW:Env.get e 137=.int .i64 (0:Nat))
  (hT:NP s N T tv)(uo:∀j,Xb tv j->Xk pb bl bp bs bb be bm j)(hN:N<=s.next)(hB:CH s us vB)(hBf:∀j,Xb vB j->Xk pb bl bp bs bb be bm j/\¬Xb tv j)(fr:Fr s)
  (hk:∀e' s' JT,(∀t:Nat,t<13\/17<t/\t<137->Env.get e' t=Env.get e t)->Env.get e' 13=JT->LI s' pb n bl bp bs bb be bm (YD us p T).1->NP s' N (YD us p T).2 JT->(∀j,Xb JT j->Xb tv j\/s.next<=j) ->
   (∀j,j<s.next->j≠bl->j≠bp->j≠bm->¬Xb tv j->s'.get j=s.get j)->s.next<=s'.next->Fr s'->ZB (goN U fin ks e' s')) :
  ZB (SD U fin (.bk 12::ks) Lh e s):=by
 refine YP (σ:=Nat) (fun i=>us.length-i) (fun i e' s'=>i<=us.length/\(∀t:Nat,t<13\/17<t/\t<137->Env.get e' t=Env.get e t)/\Env.get e' 137=.int .i64 (i:Nat)/\s.next<=s'.next/\Fr s' /\
   ∃p' T' JT,Env.get e' 13=JT/\LI s' pb n bl bp bs bb be bm p'/\p'.Wf n/\YD (us.drop i) p' T'=YD us p T/\T'.length<=T.length+i/\NP s' N T' JT/\(∀j,Xb JT j->Xb tv j\/s.next<=j)/\(∀j,j<s.next->j≠bl->j≠bp->j≠bm->¬Xb tv j->s'.get j=s.get j)) 0 ?_
  ⟨aic _,fun _ _=>rfl,ahW,agB _,fr,p,T,tv,Bl,h,hw,rfl,by omega,hT,fun j=>.inl,fun _ _ _ _ _ _=>rfl⟩
 rintro Lp i e' s' ⟨hi,hold,eC,Vl,Xx,p',T',JT,Cb,P,LS,OG,hlen,hT',U2,hs⟩ IH;have q3:=(hold 3 (by omega)).trans g3;have ad_:=(hold 135 (by omega)).trans ahU;have abb:=(hold 136 (by omega)).trans ahV;by_cases hd:i<us.length
 ·have Rm:=ZN hd (by omega);have lts:=h.fZ;have B2:=hB.keep Vl fun j h1 h2=>by obtain⟨h3,h4⟩:=hBf j h2;unfold Xk at h3;exact hs j h1 (by omega) (by omega) (by omega) h4
  obtain⟨b,rfl,hg,hb⟩:∃b,vB=.sl b 0 us.length none 1/\s'.get b=some (.cells (ZO us) 3 false 0 0)/\b<s'.next:=by
   rcases B2 with⟨_,h⟩|h
   ·rw[h] at hd;simp at hd
   ·exact h
  have o1:=Yq (l:=us) (i:=i) hd;have hu:=hU _ (adm hd);rw[VF hd] at o1;rw[abc hd,YD] at OG;generalize us[i]=u at *;obtain⟨s2,c1,P2,c2,c3,c4⟩:=ahX P LS (by omega) Xx hu;obtain⟨m1,m2,m3,m4,m5,m6,m7⟩:=MD LS hu;have T2:=hT'.keep c2 fun j h1 h2 h3=>by
   have:Xk pb bl bp bs bb be bm j:=by
    rcases U2 j h3 with h4|h4
    ·exact uo j h4
    ·unfold Xk;omega
   unfold Xk at this;exact c4 j h1 (by omega) (by omega) (by omega)
  have fs:∀j,j<s.next->j≠bl->j≠bp->j≠bm->¬Xb tv j->s2.get j=s.get j:=fun j h1 h2 h3 h4 h5=>by rw[c4 j (by omega) h2 h3 h4,hs j h1 h2 h3 h4 h5]
  cases VP:(p'.Wz u).2 with
  |false =>
   rw[VP] at c1 OG;rw[cond_false] at OG;simp only[go_sem,Lh,q3,ad_,abb,eC,Z8,hd,hg,o1,aq,c1,Rm,ah1];refine IH (i+1) _ _ (by omega) ⟨by omega,fun t ht=>?_,?_,by omega,c3,_,T',JT,?_,P2,m1,OG,by omega,T2,U2,fs⟩
   ·have ZC:∀k:Nat,137<=k->(k=t)=False:=fun k hk=>by simp;omega
    have Ah:(17=t)=False:=by simp;omega
    simp only[go_sem,ZC,Ah];exact hold t ht
   ·simp only[go_sem]
   ·simp only[go_sem,Cb]
  |true =>
   rw[VP] at c1 OG;rw[cond_true] at OG;have Xz:gt p'.set u=gt (p'.Wz u).1.set u:=by rw[m2]
   have lsu:=m1.ls;have o2:=Yq (l:=(p'.Wz u).1.set) (i:=u) (by omega);have fS:=T2.Xj;have tA:(T'.length+1)*8<=1099511627776:=by omega
   have nZ:T'.length+1<=1099511627776:=by omega
   simp only[go_sem,Lh,q3,Cb,ad_,abb,eC,Z8,hd,hg,o1,aq,c1,ah1,P2.g,P2.gs,o2,hu,lsu,ZH,Nat.reducePow,fS,tA,nZ];have T3:NP (s2.new (.cells [.int .i64 ((gt (p'.Wz u).1.set u:Nat):Int)] 3 false 0 0)) N T' JT:=T2.keep (by rw[Z_];omega) fun j h1 _ _=>by rw[Z7,if_neg (by omega)]
   obtain⟨s4,d1,d2,d3,d4,d5⟩:=T3.app (by rw[Z_];omega) (gt (p'.Wz u).1.set u);rw[Z_] at d1 d2 d3 d4;rw[d1];simp only[go_sem,eC,Rm];rw[<-Xz] at d3;have k4:∀j,j<s2.next->¬Xb JT j->s4.get j=s2.get j:=fun j h1 h2=>by rw[d4 j (by omega) h2,Z7,if_neg (by omega)]
   have hP:∀j,Xb JT j->Xk pb bl bp bs bb be bm j:=fun j hj=>by
    rcases U2 j hj with h4|h4
    ·exact uo j h4
    ·unfold Xk;omega
   refine IH (i+1) _ _ (by omega) ⟨by omega,fun t ht=>?_,?_,by omega,d5 (c3.new _),_,T'++[gt p'.set u],.sl (s2.next+1) 0 (T'.length+1) none 1,?_,P2.mono (by omega) fun j hj=>k4 j (P2.lt j hj) fun hb=>?_,m1,OG,by simp;omega,d3,fun j hj=>?_,fun j h1 h2 h3 h4 h5=>?_⟩
   ·have ZC:∀k:Nat,137<=k->(k=t)=False:=fun k hk=>by simp;omega
    have Ah:(17=t)=False:=by simp;omega
    have nu:(13=t)=False:=by simp;omega
    simp only[go_sem,ZC,Ah,nu];exact hold t ht
   ·simp only[go_sem]
   ·simp only[go_sem]
   ·have:=hP j hb;unfold Xk at this;simp only[alL,List.not_mem_nil,or_false] at hj;omega
   ·rw[Yl] at hj;omega
   ·by_cases hb:Xb JT j
    ·rcases U2 j hb with h6|h6
     ·exact absurd h6 h5
     ·omega
    ·rw[k4 j (by omega) hb,fs j h1 h2 h3 h4 h5]
 ·have:i=us.length:=by omega
  subst this;rw[alO,YD] at OG;rw[<-OG] at hk;simp only[go_sem,Lh,abb,eC,Z8,alh];refine hk _ _ JT (fun t ht=>?_) ?_ P hT' U2 hs Vl Xx
  ·have ZC:∀k:Nat,137<=k->(k=t)=False:=fun k hk=>by simp;omega
   have Ah:(17=t)=False:=by simp;omega
   simp only[go_sem,ZC];exact hold t ht
  ·simp only[go_sem,Cb]
structure AT (s:St)(B m n:Nat)(bf:Nat->Nat->List Nat)(lo hi:Nat)(bx:Nat->Nat)(vs:Nat->Nat->AV):Prop where
 g:s.get B=some (.cells ((List.range m).map fun x=>.sl (bx x) 0 n (some n) 1) 66 false 0 0)
 row:∀x,x<m->s.get (bx x)=some (.cells ((List.range n).map (vs x)) 40 false 0 0)
 bl:∀x,x<m->∀c,c<n->CH s (bf x c) (vs x c)
 hB:lo<=B/\B<hi
 hx:∀x,x<m->lo<=bx x/\bx x<hi
 hv:∀x,x<m->∀c,c<n->∀j,Xb (vs x c) j->lo<=j/\j<hi
 le:hi<=s.next
theorem AT.keep {s s':St}{B m n:Nat}{bf:Nat->Nat->List Nat}{lo hi:Nat}{bx:Nat->Nat}{vs:Nat->Nat->AV}(h:AT s B m n bf lo hi bx vs)(hn:s.next<=s'.next)(hg:∀j,lo<=j->j<hi->s'.get j=s.get j):AT s' B m n bf lo hi bx vs :=
 ⟨(hg _ h.hB.1 h.hB.2).trans h.g,fun x hx=>(hg _ (h.hx x hx).1 (h.hx x hx).2).trans (h.row x hx),fun x hx c hc=>(h.bl x hx c hc).keep hn fun j _ hj=>hg j (h.hv x hx c hc j hj).1 (h.hv x hx c hc j hj).2,h.hB,h.hx,h.hv,by have:=h.le;omega⟩
def Ou (lo hi j:Nat):Prop:=j<lo\/hi<=j
theorem NG (f:Nat->AV){n i:Nat}(h:i<n):((List.range n).map f)[i]? = some (f i):=by
 rw[alV,List.getElem?_range h];rfl
theorem Fc {n:Nat}:∀(us:List Nat) (p:Pt) (T:List Nat),p.Wf n->(∀u∈us,u<n)->(YD us p T).1.Wf n
 |[],p,T,h,_=>h
 |u::l,p,T,h,hu=>by
  rw[YD];exact Fc l _ _ (MD h (hu u (aba ..))).1 fun x hx=>hu x (aab _ hx)
theorem OT:∀(us:List Nat) (p:Pt) (T:List Nat),(YD us p T).2.length<=T.length+us.length
 |[],p,T=>by simp[YD]
 |u::l,p,T=>by
  rw[YD];have:=OT l (p.Wz u).1 (bif (p.Wz u).2 then T++[gt p.set u] else T);have h2:(bif (p.Wz u).2 then T++[gt p.set u] else T).length<=T.length+1:=by cases (p.Wz u).2 <;> simp
  rw[akd];omega
theorem adA {β:Type}{fin:Fl->β}{ks:List K}{ZB:β->Prop}{pb n m bl bp bs bb be bm N B lo hi x:Nat}{bf:Nat->Nat->List Nat}{bx:Nat->Nat}{vs:Nat->Nat->AV}{p:Pt}{T ms:List Nat}{tv mv:AV}{e:Env}{s:St}(hn:n<=2^9)(hm:m<=2^9)(hx:x<m)(h:LI s pb n bl bp bs bb be bm p)(hw:p.Wf n)(hM:∀u∈ms,u<n)(hml:ms.length<=2^9)(eD:T.length+ms.length*n<=2^29)
  (hbf:∀c,c<n->(bf x c).length<=n/\∀u∈bf x c,u<n)
  (g3:Env.get e 3=.ptr pb 0)(g4:Env.get e 4=.sl B 0 m (some m) 1)(Iw:Env.get e 12=.int .i64 (x:Int))(Bl:Env.get e 13=tv)(akU:Env.get e 123=mv)(akV:Env.get e 124=.int .i64 ms.length)(akW:Env.get e 125=.int .i64 (0:Nat))
  (hT:NP s N T tv)(uo:∀j,Xb tv j->Xk pb bl bp bs bb be bm j/\Ou lo hi j)(hN:N<=s.next)(hMr:CH s ms mv)(hMf:∀j,Xb mv j->Xk pb bl bp bs bb be bm j/\¬Xb tv j)
  (hB:AT s B m n bf lo hi bx vs)(fj:∀j,Ou lo hi j\/Xk pb bl bp bs bb be bm j)(fr:Fr s)
  (hk:∀e' s' JT,(∀t:Nat,t<13\/17<t/\t<125->Env.get e' t=Env.get e t)->Env.get e' 13=JT->LI s' pb n bl bp bs bb be bm (YD (ms.flatMap (bf x)) p T).1->NP s' N (YD (ms.flatMap (bf x)) p T).2 JT->(∀j,Xb JT j->Xb tv j\/s.next<=j) ->
   (∀j,j<s.next->j≠bl->j≠bp->j≠bm->¬Xb tv j->s'.get j=s.get j)->s.next<=s'.next->Fr s'->ZB (goN U fin ks e' s')) :
  ZB (SD U fin (.bk 10::ks) Hx e s):=by
 refine YP (σ:=Nat) (fun i=>ms.length-i) (fun i e' s'=>i<=ms.length/\(∀t:Nat,t<13\/17<t/\t<125->Env.get e' t=Env.get e t)/\Env.get e' 125=.int .i64 (i:Nat)/\s.next<=s'.next/\Fr s' /\
   ∃p' T' JT,Env.get e' 13=JT/\LI s' pb n bl bp bs bb be bm p'/\p'.Wf n/\YD ((ms.drop i).flatMap (bf x)) p' T'=YD (ms.flatMap (bf x)) p T/\T'.length<=T.length+i*n/\NP s' N T' JT/\(∀j,Xb JT j->Xb tv j\/s.next<=j)/\(∀j,j<s.next->j≠bl->j≠bp->j≠bm->¬Xb tv j->s'.get j=s.get j)) 0 ?_
  ⟨aic _,fun _ _=>rfl,akW,agB _,fr,p,T,tv,Bl,h,hw,rfl,by simp,hT,fun j=>.inl,fun _ _ _ _ _ _=>rfl⟩
 rintro Lp i e' s' ⟨ra,hold,adl,Vl,Xx,p',T',JT,Cb,P,LS,OG,hlen,hT',U2,hs⟩ IH;have q3:=(hold 3 (by omega)).trans g3;have q4:=(hold 4 (by omega)).trans g4;have fK:=(hold 12 (by omega)).trans Iw;have akX:=(hold 123 (by omega)).trans akU;have ahg:=(hold 124 (by omega)).trans akV;have lts:=h.fZ;by_cases hd:i<ms.length
 ·have Rm:=ZN hd (by omega);have hle:=hB.le;have B2:=hB.keep Vl fun j h1 h2=>by
   have h3:Xk pb bl bp bs bb be bm j:=by rcases fj j with h|h;unfold Ou at h;omega;exact h
   unfold Xk at h3;exact hs j (by omega) (by omega) (by omega) (by omega) fun hb=>by have:=(uo j hb).2;unfold Ou at this;omega
  have M2:=hMr.keep Vl fun j h1 h2=>by obtain⟨h3,h4⟩:=hMf j h2;unfold Xk at h3;exact hs j h1 (by omega) (by omega) (by omega) h4
  obtain⟨b,rfl,hg,hb⟩:∃b,mv=.sl b 0 ms.length none 1/\s'.get b=some (.cells (ZO ms) 3 false 0 0)/\b<s'.next:=by
   rcases M2 with⟨_,h⟩|h
   ·rw[h] at hd;simp at hd
   ·exact h
  have o1:=Yq (l:=ms) (i:=i) hd;have hu:=hM _ (adm hd);rw[VF hd] at o1;rw[abc hd,al7,Jo] at OG;generalize ms[i]=c at *;obtain⟨f1,f2⟩:=hbf c hu;have o2:=NG (fun x=>(AV.sl (bx x) 0 n (some n) 1)) hx;have o3:=NG (vs x) hu;have Pd:=B2.row x hx;have Mv:=B2.bl x hx c hu;have eX:=Mv.SW;have Ue:i*n+n<=ms.length*n:=by
   have:(i+1)*n<=ms.length*n:=amt n hd;rw[Nat.succ_mul] at this;exact this
  have hB2:=B2.g;have hTP:∀j,Xb JT j->Xk pb bl bp bs bb be bm j/\(Ou lo hi j):=fun j hj=>by
   rcases U2 j hj with h4|h4
   ·exact uo j h4
   ·refine⟨by unfold Xk;omega,by unfold Ou;omega⟩
  simp only[go_sem,Hx,q4,fK,akX,ahg,adl,Z8,hd,hg,o1,o2,o3,hx,hu,hB2,Pd,eX,ah1];refine ad9 (N:=N) (p:=p') (T:=T') (tv:=JT) (us:=bf x c) (by omega) P LS f2 (by omega) (by omega) ?_ ?_ ?_ ?_ ?_ hT' (fun j hj=>(hTP j hj).1) (by omega) Mv (fun j hj=>?_) Xx ?_
  case refine_7 =>
   intro e2 s2 tv2 QF fh P3 T3 xm fs3 fg rC;have akY:Env.get e2 125=.int .i64 (i:Nat):=by rw[QF 125 (by omega)];simp only[go_sem,adl]
   simp only[go_sem,akY,Rm];refine IH (i+1) _ _ (by omega) ⟨by omega,fun t ht=>?_,?_,by omega,rC,_,_,tv2,?_,P3,Fc _ _ _ LS f2,OG,?_,T3,fun j hj=>?_,fun j h1 h2 h3 h4 h5=>?_⟩
   ·have ZC:∀k:Nat,125<=k->(k=t)=False:=fun k hk=>by simp;omega
    have ahh:(15=t)=False:=by simp;omega
    simp only[go_sem,ZC];rw[QF t (by omega)];simp only[go_sem,ZC,ahh];exact hold t ht
   ·simp only[go_sem]
   ·simp only[go_sem,fh]
   ·have:=OT (bf x c) p' T';rw[Nat.succ_mul];omega
   ·rcases xm j hj with h6|h6
    ·exact U2 j h6
    ·right;omega
   ·by_cases hb:Xb JT j
    ·rcases U2 j hb with h6|h6
     ·exact absurd h6 h5
     ·omega
    ·rw[fs3 j (by omega) h2 h3 h4 hb,hs j h1 h2 h3 h4 h5]
  case refine_6 =>
   have h1:=B2.hv x hx c hu j hj;refine⟨?_,fun hb=>?_⟩
   ·rcases fj j with h|h
    ·unfold Ou at h;omega
    ·exact h
   ·have:=(hTP j hb).2;unfold Ou at this;omega
  all_goals simp only[go_sem,q3,Cb]
  all_goals rfl
 ·have:i=ms.length:=by omega
  subst this;rw[alO,List.flatMap_nil,YD] at OG;rw[<-OG] at hk;simp only[go_sem,Hx,ahg,adl,Z8,alh];refine hk _ _ JT (fun t ht=>?_) ?_ P hT' U2 hs Vl Xx
  ·have ZC:∀k:Nat,125<=k->(k=t)=False:=fun k hk=>by simp;omega
   have Ah:(17=t)=False:=by simp;omega
   simp only[go_sem,ZC];exact hold t ht
  ·simp only[go_sem,Cb]
end Go.Am
