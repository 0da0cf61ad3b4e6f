/- A part of the proof of a statement of this seat: the machine on which the program is read, and what it computes; for every input. -/
import Derived.Test.YtkmaeondbkpajaaGreatDoorN08
import Derived.Test.YtkmaeondbkpajaaGreatDoorN09
set_option linter.all false
namespace Go.Am
open Go
variable [Z3]
set_option maxRecDepth 100000
set_option maxHeartbeats 8000000
def LW (s:St)(N:Nat)(L:List Nat)(v:AV):Prop:=(v=.ZR/\L=[])\/∃b,v=.sl b 0 L.length none 1/\s.get b=some (.cells (ZO L) 3 false 0 0)/\N<=b/\b<s.next
def Yn (v:AV)(j:Nat):Prop:=∃n,v=.sl j 0 n none 1
theorem Y6 (b n j:Nat):Yn (.sl b 0 n none 1) j<->b=j:=by
 constructor
 ·rintro⟨m,h⟩;cases h;rfl
 ·rintro rfl;exact⟨n,rfl⟩
theorem XH (j:Nat):¬Yn .ZR j:=by rintro⟨m,h⟩;cases h
theorem LW.keep {s s':St}{N:Nat}{L:List Nat}{v:AV}(h:LW s N L v)(hn:s.next<=s'.next)(hg:∀j,j<s.next->N<=j->Yn v j->s'.get j=s.get j):LW s' N L v:=by
 rcases h with h|⟨b,h1,h2,h3,h4⟩
 ·exact .inl h
 ·exact .inr ⟨b,h1,by rw[hg b h4 h3 ⟨_,h1⟩];exact h2,h3,by omega⟩
theorem LW.lt {s:St}{N:Nat}{L:List Nat}{v:AV}(h:LW s N L v){j:Nat}(hj:Yn v j):N<=j/\j<s.next:=by
 rcases h with⟨h,_⟩|⟨b,h1,h2,h3,h4⟩
 ·rw[h] at hj;exact absurd hj (XH j)
 ·rw[h1,Y6] at hj;subst hj;exact⟨h3,h4⟩
structure vK (s:St)(pb n bp bs N:Nat)(p:Pt)(vl ve:AV)(b1 b3:Nat):Prop where
 g:s.get pb=some (.cells [vl,.sl bp 0 n (some n) 1,.sl bs 0 n (some n) 1,.sl b1 0 p.bg.length none 1,ve,.sl b3 0 p.mr.length none 1] 261 false 0 0)
 gp:s.get bp=some (.cells (ZO p.place) 3 false 0 0)
 gs:s.get bs=some (.cells (ZO p.set) 3 false 0 0)
 gb:s.get b1=some (.cells (ZO p.bg) 3 false 0 0)
 gm:s.get b3=some (.cells (ZO p.mr) 3 false 0 0)
 l:LW s N p.list vl
 e:LW s N p.en ve
 h1:N<=b1/\b1<s.next/\N<=b3/\b3<s.next/\b1≠b3
 dl:∀j,Yn vl j->j≠b1/\j≠b3/\¬Yn ve j
 de:∀j,Yn ve j->j≠b1/\j≠b3
 lo:pb<N/\bp<N/\bs<N/\pb≠bp/\pb≠bs/\bp≠bs/\N<=s.next
 lp:p.place.length=n
 ls:p.set.length=n
theorem ef {β:Type}{fin:Fl->β}{ks:List K}{ZV:β->Prop}{pb n bp bs N b1 b3 K gb:Nat}{p:Pt}{vl ve:AV}{G:List Nat}{e:Env}{s:St}(hn:n<=2^19)(hG:∀u∈G,u<n)(hb:p.list.length+G.length<=2^20)(hK:K<=2^20)
  (g3:Env.get e 3=.ptr pb 0)(OT:Env.get e 12=.int .i64 (K:Int))(g96:Env.get e 96=.sl gb 0 G.length none 1)(g97:Env.get e 97=.int .i64 G.length)(g98:Env.get e 98=.int .i64 (0:Nat))
  (hgb:s.get gb=some (.cells (ZO G) 3 false 0 0))(Zm:gb<N)(ZQ:gb≠pb/\gb≠bp/\gb≠bs)(M:vK s pb n bp bs N p vl ve b1 b3)(fr:Fr s)
  (hk:∀e' s' lM,(∀t:Nat,t<15\/15<t/\t<98->Env.get e' t=Env.get e t)->vK s' pb n bp bs N (XR K G p) lM ve b1 b3->(∀j,j<N->j≠pb->j≠bp->j≠bs->s'.get j=s.get j)->s.next<=s'.next->Fr s'->ZV (goN U fin ks e' s')) :
  ZV (Vx U fin (.bk 6::ks) N3 e s):=by
 refine ZC (σ:=Nat) (fun i=>G.length-i) (fun i e' s'=>i<=G.length/\(∀t:Nat,t<15\/15<t/\t<98->Env.get e' t=Env.get e t)/\Env.get e' 98=.int .i64 (i:Nat)/\(∀j,j<N->j≠pb->j≠bp->j≠bs->s'.get j=s.get j)/\s.next<=s'.next/\Fr s' /\
   ∃p' lM,vK s' pb n bp bs N p' lM ve b1 b3/\XR K (G.drop i) p'=XR K G p/\p'.list.length=p.list.length+i) 0 ?_
  ⟨ae5 _,fun _ _=>rfl,g98,fun _ _ _ _ _=>rfl,aba _,fr,p,vl,M,rfl,rfl⟩
 rintro Lp i e' s' ⟨hi,hold,q98,hs,XY,YM,p',lM,M',n_,hlen⟩ IH;have q3:=(hold 3 (by omega)).trans g3;have RR:=(hold 12 (by omega)).trans OT;have dP:=(hold 96 (by omega)).trans g96;have lr:=(hold 97 (by omega)).trans g97;by_cases hd:i<G.length
 ·have hw:=ZI hd (by omega);have aa9:=(hs gb Zm ZQ.1 ZQ.2.1 ZQ.2.2).trans hgb;have o1:=Y1 (l:=G) (i:=i) hd;have hu:=hG _ (ae2 hd);rw[ZJ hd] at o1;rw[aeY hd,XR] at n_;generalize G[i]=u at *;obtain⟨g,gp,gs,gb1,gm,hl,he,⟨c1,c2,c3,c4,c5⟩,dl,de,⟨d1,d2,d3,d4,d5,d6,d7⟩,lp,ls⟩:=M';have y1:=Xw (l:=p'.place) (i:=u) p'.list.length (by omega);have y2:=Xw (l:=p'.set) (i:=u) K (by omega);have u1:u<n:=hu;have z1:(bp=pb)=False:=eq_false d4.symm;have z2:(bp=bs)=False:=eq_false d6;have z3:(bs=pb)=False:=eq_false d5.symm;have z4:(bs=bp)=False:=eq_false d6.symm;have RQ:(p'.list.length+1)*8<=1099511627776:=by omega
  have TG:p'.list.length+1<=1099511627776:=by omega
  have Bt:(0+1)*8<=1099511627776:=by omega
  have xR:0+1<=1099511627776:=by omega
  have f1:∀q,(s'.next+q=pb)=False:=fun q=>by simp;omega
  have f2:∀q,(s'.next+q=bp)=False:=fun q=>by simp;omega
  have f3:∀q,(s'.next+q=bs)=False:=fun q=>by simp;omega
  have f6:∀b,N<=b->(pb=b)=False:=fun b hb=>by simp;omega
  have f7:∀b,N<=b->(bp=b)=False:=fun b hb=>by simp;omega
  have f8:∀b,N<=b->(bs=b)=False:=fun b hb=>by simp;omega
  have f9:∀b,N<=b->(b=pb)=False:=fun b hb=>by simp;omega
  have f11:∀b,N<=b->(b=bp)=False:=fun b hb=>by simp;omega
  have f12:∀b,N<=b->(b=bs)=False:=fun b hb=>by simp;omega
  have Nz:∀t:Nat,t<15\/15<t/\t<98->((15=t)=False/\∀k:Nat,98<=k->(k=t)=False):=fun t ht=>⟨by simp;omega,fun k hk=>by simp;omega⟩
  have key:∀(E:Env) (S:St),(∀t:Nat,t<15\/15<t/\t<98->Env.get E t=Env.get e' t)->Env.get E 98=.int .i64 ((i+1:Nat):Int) ->
    S.get pb=some (.cells [.sl (s'.next+21) 0 (p'.list.length+1) none 1,.sl bp 0 n (some n) 1,.sl bs 0 n (some n) 1,.sl b1 0 p'.bg.length none 1,ve,.sl b3 0 p'.mr.length none 1] 261 false 0 0) ->
    S.get bp=some (.cells (ZO (p'.place.set u p'.list.length)) 3 false 0 0)->S.get bs=some (.cells (ZO (p'.set.set u K)) 3 false 0 0)->S.get (s'.next+21)=some (.cells (ZO (p'.list++[u])) 3 false 0 0) ->
    (∀j,j<s'.next->j≠pb->j≠bp->j≠bs->¬Yn lM j->S.get j=s'.get j)->s'.next+21<S.next->Fr S->ZV (Vx U fin (.bk 6::ks) Lp E S):=by
   intro E S k1 k2 k3 k4 k5 k6 k7 k8 k9;refine IH (i+1) _ _ (by omega) ⟨by omega,fun t ht=>(k1 t ht).trans (hold t ht),k2,fun j h1 h2 h3 h4=>(k7 j (by omega) h2 h3 h4 fun h=>by have:=hl.lt h;omega).trans (hs j h1 h2 h3 h4),by omega,k9,{ list:=p'.list++[u],place:=p'.place.set u p'.list.length,set:=p'.set.set u K,bg:=p'.bg,en:=p'.en,mr:=p'.mr },.sl (s'.next+21) 0 (p'.list.length+1) none 1,⟨k3,k4,k5,(k7 b1 c2 (by omega) (by omega) (by omega) fun h=>(dl _ h).1 rfl).trans gb1,(k7 b3 c4 (by omega) (by omega) (by omega) fun h=>(dl _ h).2.1 rfl).trans gm,.inr ⟨s'.next+21,by simp,k6,by omega,k8⟩,he.keep (by omega) fun j h1 h2 h3=>k7 j h1 (by omega) (by omega) (by omega) fun h=>(dl _ h).2.2 h3,⟨c1,by omega,c3,by omega,c5⟩,fun j hj=>?_,de,⟨d1,d2,d3,d4,d5,d6,by omega⟩,by rw[afi];exact lp,by rw[afi];exact ls⟩,n_,by simp[hlen];omega⟩;rw[Y6] at hj;subst hj;refine⟨by omega,by omega,fun h=>?_⟩;have:=he.lt h;omega
  rcases hl with⟨rfl,hl⟩|⟨bl,rfl,hg,e1,e2⟩
  ·rw[hl] at key;rw[hl,List.length_nil] at y1;have y1:lay u [.int .i64 0] (ZO p'.place)=some (ZO (p'.place.set u 0)):=y1;simp only[go_sem,N3,q3,RR,dP,lr,q98,Z8,hd,hw,aa9,o1,g,gp,gs,u1,y1,y2,ae3,z1,z2,z3,z4,ZD,Nat.reducePow,afu,Bt,xR,Xy,ad4,aeX,f1,f2,f3];refine key _ _ (fun t ht=>?_) ?_ ?_ ?_ ?_ ?_ (fun j h1 h2 h3 h4 h5=>?_) ?_ ?_
   ·obtain⟨Gq,n98⟩:=Nz t ht;simp only[go_sem,Gq,n98]
   ·simp only[go_sem]
   ·simp only[go_sem]
   ·simp only[go_sem,eq_false d4,f1,f2,f3,aeX,z4]
   ·simp only[go_sem,eq_false d5,f1,f2,f3,aeX]
   ·simp only[go_sem,(fun q=>f9 (s'.next+q) (by omega):∀q,(s'.next+q=pb)=False),aeX,Nat.reduceAdd,(fun q=>f6 (s'.next+q) (by omega):∀q,(pb=s'.next+q)=False)];rfl
   ·have e0:∀q,(s'.next+q=j)=False:=fun q=>by simp;omega
    simp only[Z7,ZZ,Z9,Z',Z_,Z0,aeX,Nat.reduceAdd,e0,eq_false h2.symm,eq_false h3.symm,eq_false h4.symm,if_false]
   ·simp only[Z9,Z',Z_];omega
   ·repeat first|exact YM|apply Fr.new|apply Fr.put|apply Fr.upto
    all_goals try simp only[Z9,Z',Z_]
    all_goals omega
  ·have a1:=fun (S:St) (h:S.get bl=some (.cells (ZO p'.list) 3 false 0 0))=>FO rfl h u
   have f10:∀q,(s'.next+q=bl)=False:=fun q=>by simp;omega
   simp only[go_sem,N3,q3,RR,dP,lr,q98,Z8,hd,hw,aa9,o1,g,gp,gs,u1,y1,y2,ae3,z1,z2,z3,z4,ZD,Nat.reducePow,afu,RQ,TG,aeX,f1,f2,f3,f6,f7,f8,f9,f10,e1,hg,a1];refine key _ _ (fun t ht=>?_) ?_ ?_ ?_ ?_ ?_ (fun j h1 h2 h3 h4 h5=>?_) ?_ ?_
   ·obtain⟨Gq,n98⟩:=Nz t ht;simp only[go_sem,Gq,n98]
   ·simp only[go_sem]
   ·simp only[go_sem]
   ·simp only[go_sem,eq_false d4,f1,f2,f3,f6,f7,f8,f9,f11,f12,e1,z2,z4,aeX]
   ·simp only[go_sem,eq_false d5,f1,f2,f3,f6,f7,f8,f9,f11,f12,e1,z2,z4,aeX]
   ·simp only[go_sem,(fun q=>f9 (s'.next+q) (by omega):∀q,(s'.next+q=pb)=False),aeX,Nat.reduceAdd,(fun q=>f6 (s'.next+q) (by omega):∀q,(pb=s'.next+q)=False)]
   ·have e0:∀q,(s'.next+q=j)=False:=fun q=>by simp;omega
    rw[Y6] at h5;simp only[Z7,ZZ,Z9,Z',Z_,Z0,aeX,Nat.reduceAdd,e0,eq_false h2.symm,eq_false h3.symm,eq_false h4.symm,eq_false h5,if_false]
   ·simp only[Z9,Z',Z_];omega
   ·repeat first|exact YM|apply Fr.new|apply Fr.put|apply Fr.upto
    all_goals try simp only[Z9,Z',Z_]
    all_goals omega
 ·have:i=G.length:=by omega
  subst this;rw[afE,XR] at n_;subst n_;simp only[go_sem,N3,lr,q98,Z8,afg];refine hk _ _ lM (fun t ht=>?_) M' hs XY YM;have ZQ:∀k:Nat,98<=k->(k=t)=False:=fun k hk=>by simp;omega
  simp only[go_sem,ZQ];exact hold t ht
def FV (s:St)(pb n bp bs N:Nat)(p:Pt):Prop :=
 (p=⟨[],p.place,p.set,[],[],[]⟩/\s.get pb=some (.cells [.ZR,.sl bp 0 n (some n) 1,.sl bs 0 n (some n) 1,.ZR,.ZR,.ZR] 261 false 0 0)/\s.get bp=some (.cells (ZO p.place) 3 false 0 0)/\s.get bs=some (.cells (ZO p.set) 3 false 0 0)) \/
 ∃bl bb be bm,O8 s pb n bl bp bs bb be bm p/\N<=bl/\N<=bb/\N<=be/\N<=bm
theorem ej {β:Type}{fin:Fl->β}{ks:List K}{ZV:β->Prop}{pb n bp bs N:Nat}{p:Pt}{e:Env}{s:St}(hn:n<=2^19)(OI:p.place.length=n)(hps:p.set.length=n)(hbg:p.bg.length<=2^20)(hmr:p.mr.length<=2^20)(g3:Env.get e 3=.ptr pb 0)
  (lo:pb<N/\bp<N/\bs<N/\pb≠bp/\pb≠bs/\bp≠bs/\N<=s.next)(h:FV s pb n bp bs N p)(fr:Fr s)
  (hk:∀e' s' vl ve b1 b3,(∀t:Nat,t<71->Env.get e' t=Env.get e t)->vK s' pb n bp bs N { p with bg:=p.bg++[p.list.length],mr:=p.mr++[0] } vl ve b1 b3->(∀j,j<N->j≠pb->s'.get j=s.get j)->s.next<=s'.next->Fr s'->ZV (goN U fin ks e' s')) :
  ZV (go U fin ks (.raw CU) e s):=by
 obtain⟨d1,d2,d3,d4,d5,d6,d7⟩:=lo;rw[Tp jN];have R_:=fr.at;have Nz:∀t:Nat,t<71->(∀k:Nat,71<=k->(k=t)=False):=fun t ht=>fun k hk=>by simp;omega
 have f1:∀q,(s.next+q=pb)=False:=fun q=>by simp;omega
 have f2:∀q,(s.next+q=bp)=False:=fun q=>by simp;omega
 have f3:∀q,(s.next+q=bs)=False:=fun q=>by simp;omega
 have f6:∀b,N<=b->(pb=b)=False:=fun b hb=>by simp;omega
 have f9:∀b,N<=b->(b=pb)=False:=fun b hb=>by simp;omega
 have TJ:∀j q,j<s.next->(j=s.next+q)=False:=fun j q hj=>by simp;omega
 have SN:∀j q,j<s.next->(s.next+q=j)=False:=fun j q hj=>by simp;omega
 have r6:pb<s.next:=by omega
 have E5:∀q,q≠0->(s.next+q=s.next)=False:=fun q hq=>by simp;omega
 have E0:∀q,q≠0->(s.next=s.next+q)=False:=fun q hq=>by simp;omega
 have key:∀(E:Env) (S:St) (vl ve:AV) (b1 b3:Nat),(∀t:Nat,t<71->Env.get E t=Env.get e t) ->
   S.get pb=some (.cells [vl,.sl bp 0 n (some n) 1,.sl bs 0 n (some n) 1,.sl b1 0 (p.bg.length+1) none 1,ve,.sl b3 0 (p.mr.length+1) none 1] 261 false 0 0) ->
   S.get b1=some (.cells (ZO (p.bg++[p.list.length])) 3 false 0 0)->S.get b3=some (.cells (ZO (p.mr++[0])) 3 false 0 0)->s.next<=b1->b1<b3->b3<S.next->LW s N p.list vl->LW s N p.en ve->(∀j,Yn vl j->¬Yn ve j) ->
   s.get bp=some (.cells (ZO p.place) 3 false 0 0)->s.get bs=some (.cells (ZO p.set) 3 false 0 0) ->
   (∀j,j<s.next->j≠pb->Yn vl j\/Yn ve j\/j<N->S.get j=s.get j)->Fr S->ZV (goN U fin ks E S):=by
  intro E S vl ve b1 b3 k1 k2 k3 k4 k5 k6 k7 k8 k9 k10 k11 k12 j9 k14;refine hk E S vl ve b1 b3 k1 ⟨?_,?_,?_,k3,k4,?_,?_,⟨by omega,by omega,by omega,k7,by omega⟩,fun j hj=>⟨?_,?_,k10 j hj⟩,fun j hj=>⟨?_,?_⟩,⟨d1,d2,d3,d4,d5,d6,by omega⟩,OI,hps⟩ (fun j h1 h2=>j9 j (by omega) h2 (.inr (.inr h1))) (by omega) k14
  ·rw[k2];simp only[aeW,aff]
  ·exact (j9 bp (by omega) d4.symm (.inr (.inr d2))).trans k11
  ·exact (j9 bs (by omega) d5.symm (.inr (.inr d3))).trans k12
  ·exact k8.keep (by omega) fun j h1 h2 h3=>j9 j h1 (by omega) (.inl h3)
  ·exact k9.keep (by omega) fun j h1 h2 h3=>j9 j h1 (by omega) (.inr (.inl h3))
  ·have:=k8.lt hj;omega
  ·have:=k8.lt hj;omega
  ·have:=k9.lt hj;omega
  ·have:=k9.lt hj;omega
 rcases h with⟨hp,g,gp,gs⟩|⟨bl,bb,be,bm,P,n1,n2,n3,n4⟩
 ·obtain⟨L,pl,st,bg,en,mr⟩:=p;simp only[Pt.mk.injEq] at hp;obtain⟨rfl,-,-,rfl,rfl,rfl⟩:=hp;simp only[go_sem,g3,g,Xy,ZD,ae3,afu,Nat.reducePow,ad4,aeX,R_,f1,List.length_nil,afP,TJ,SN,E5,E0,Option.isNone_none];refine key _ _ .ZR .ZR (s.next+25) (s.next+26) (fun t ht=>?_) ?_ ?_ ?_ (by omega) (by omega) ?_ (.inl ⟨rfl,rfl⟩) (.inl ⟨rfl,rfl⟩) (fun j h=>absurd h (XH j)) gp gs (fun j h1 h2 _=>?_) ?_
  ·have ZQ:=Nz t ht;simp only[go_sem,ZQ]
  ·simp only[go_sem,f1,g,aeX]
  ·simp[go_sem,r6,f9,f6,d7,TJ,SN,E5,E0,aeX];rfl
  ·simp[go_sem,r6,f9,f6,d7,TJ,SN,E5,E0,aeX];rfl
  ·simp only[Z9,Z',Z_];omega
  ·have e0:∀q,(s.next+q=j)=False:=fun q=>by simp;omega
   simp only[Z7,ZZ,Z9,Z',Z_,Z0,aeX,Nat.reduceAdd,e0,eq_false h2.symm,if_false]
  ·repeat first|exact fr|apply Fr.new|apply Fr.put|apply Fr.upto
   all_goals try simp only[Z9,Z',Z_]
   all_goals omega
 ·obtain⟨g,gl,gp,gs,gb,ge,gm,ne,lt⟩:=P;have A:=Ap.of ne;have qA:=lt bl (by simp);have qz:=lt bb (by simp);have ku:=lt be (by simp);have qy:=lt bm (by simp);have a1:=fun (S:St) (h:S.get bb=some (.cells (ZO p.bg) 3 false 0 0))=>C_ rfl h p.list.length
  have a3:=fun (S:St) (h:S.get bm=some (.cells (ZO p.mr) 3 false 0 0))=>tm rfl h
  have RQ:(p.bg.length+1)*8<=1099511627776:=by omega
  have TG:p.bg.length+1<=1099511627776:=by omega
  have Bt:(p.mr.length+1)*8<=1099511627776:=by omega
  have xR:p.mr.length+1<=1099511627776:=by omega
  have z1:(bb=pb)=False:=eq_false A.n4.symm;have z2:(bm=pb)=False:=eq_false A.n6.symm;have z3:(bb=bm)=False:=eq_false A.nr;have z4:(pb=bb)=False:=eq_false A.n4;have z5:(pb=bm)=False:=eq_false A.n6;have z6:(bm=bb)=False:=eq_false A.nr.symm;simp only[go_sem,g3,g,gb,gm,ZD,ae3,afu,Nat.reducePow,ad4,aeX,R_,f1,a1,a3,RQ,TG,Bt,xR,z1,z2,z3,z4,z5,z6,TJ,SN,E5,E0,qz,qy,Option.isNone_none];refine key _ _ (.sl bl 0 p.list.length none 1) (.sl be 0 p.en.length none 1) (s.next+25) (s.next+26) (fun t ht=>?_) ?_ ?_ ?_ (by omega) (by omega) ?_ (.inr ⟨bl,rfl,gl,n1,qA⟩) (.inr ⟨be,rfl,ge,n3,ku⟩) (fun j h=>?_) gp gs (fun j h1 h2 h3=>?_) ?_
  ·have ZQ:=Nz t ht;simp only[go_sem,ZQ]
  ·rw[OI,hps];simp only[go_sem]
  ·simp[go_sem,r6,f9,f6,d7,TJ,SN,E5,E0,qz,qy,aeX]
  ·simp[go_sem,r6,f9,f6,d7,TJ,SN,E5,E0,qz,qy,aeX]
  ·simp only[Z9,Z',Z_];omega
  ·rw[Y6] at h ⊢;subst h;exact A.HP.symm
  ·have e0:∀q,(s.next+q=j)=False:=fun q=>by simp;omega
   have e1:(bb=j)=False:=by
    simp only[eq_iff_iff,iff_false];rintro rfl;rw[Y6,Y6] at h3;have:=A.n9;have:=A.cU;omega
   have e2:(bm=j)=False:=by
    simp only[eq_iff_iff,iff_false];rintro rfl;rw[Y6,Y6] at h3;have:=A.vW;have:=A.kz;omega
   simp only[Z7,ZZ,Z9,Z',Z_,Z0,aeX,Nat.reduceAdd,e0,e1,e2,eq_false h2.symm,if_false]
  ·repeat first|exact fr|apply Fr.new|apply Fr.put|apply Fr.upto
   all_goals try simp only[Z9,Z',Z_]
   all_goals omega
theorem KO (c:Nat)(x y z:List Nat):∀(l:List Nat) (p:Pt),XR c l { p with bg:=x,mr:=y,en:=z }={ XR c l p with bg:=x,mr:=y,en:=z }
 |[],_=>rfl
 |u::l,p=>by
  rw[XR,XR];exact KO c x y z l { p with place:=p.place.set u p.list.length,set:=p.set.set u c,list:=p.list++[u] }
def dE:RC:=(.Wq 15 [⟨some 131,none,none,false,.Z1 (.t 3)⟩,
 ⟨some 132,none,none,false,.Z1 (.t 3)⟩,
 ⟨some 133,none,none,false,.raw (.nilCheck (.tmp 132))⟩,
 ⟨some 134,none,none,false,.fa 4 (.t 133)⟩,
 ⟨some 135,none,none,false,.Zk (.t 134)⟩,
 ⟨some 136,none,none,false,.Z1 (.t 3)⟩,
 ⟨some 137,none,none,false,.raw (.nilCheck (.tmp 136))⟩,
 ⟨some 138,none,none,false,.fa 0 (.t 137)⟩,
 ⟨some 139,none,none,false,.Zk (.t 138)⟩,
 ⟨some 140,none,none,false,.Zf (.t 139)⟩,
 ⟨some 141,none,some 10,false,.VC 3 1 1 [(.int .i64 0)] [(0,1,(.t 140))]⟩,
 ⟨some 142,none,none,true,.app 3 1 8 (.t 135) (.t 141)⟩,
 ⟨some 143,none,none,false,.raw (.nilCheck (.tmp 131))⟩,
 ⟨some 144,none,none,false,.fa 4 (.t 143)⟩,
 ⟨none,none,none,true,.st 1 (.t 144) (.t 142)⟩])
theorem ec {β:Type}{fin:Fl->β}{ks:List K}{ZV:β->Prop}{pb n bp bs N b1 b3:Nat}{p:Pt}{vl ve:AV}{e:Env}{s:St}(hn:n<=2^19)(kg:p.list≠[])(hen:p.en.length<=2^20)(g3:Env.get e 3=.ptr pb 0)(M:vK s pb n bp bs N p vl ve b1 b3)(fr:Fr s)
  (hk:∀e' s',(∀t:Nat,t<131->Env.get e' t=Env.get e t)->FV s' pb n bp bs N { p with en:=p.en++[p.list.length] }->(∀j,j<N->j≠pb->s'.get j=s.get j)->s.next<=s'.next->Fr s'->ZV (goN U fin ks e' s')) :
  ZV (go U fin ks dE e s):=by
 obtain⟨g,gp,gs,gb1,gm,hl,he,⟨c1,c2,c3,c4,c5⟩,dl,de,⟨d1,d2,d3,d4,d5,d6,d7⟩,lp,ls⟩:=M;have Nz:∀t:Nat,t<131->(∀k:Nat,131<=k->(k=t)=False):=fun t ht=>fun k hk=>by simp;omega
 have r6:pb<s.next:=by omega
 have R_:=fr.at;have TJ:∀j q,j<s.next->(j=s.next+q)=False:=fun j q hj=>by simp;omega
 have SN:∀j q,j<s.next->(s.next+q=j)=False:=fun j q hj=>by simp;omega
 have f1:∀q,(s.next+q=pb)=False:=fun q=>by simp;omega
 obtain⟨bl,rfl,hg,e1,e2⟩:∃b,vl=.sl b 0 p.list.length none 1/\s.get b=some (.cells (ZO p.list) 3 false 0 0)/\N<=b/\b<s.next:=by
  rcases hl with⟨_,h⟩|h
  ·exact absurd h kg
  ·exact h
 obtain⟨x1,x2,x3⟩:=dl bl ((Y6 _ _ _).2 rfl);have key:∀(E:Env) (S:St) (be:Nat),(∀t:Nat,t<131->Env.get E t=Env.get e t) ->
   S.get pb=some (.cells [.sl bl 0 p.list.length none 1,.sl bp 0 n (some n) 1,.sl bs 0 n (some n) 1,.sl b1 0 p.bg.length none 1,.sl be 0 (p.en.length+1) none 1,.sl b3 0 p.mr.length none 1] 261 false 0 0) ->
   S.get be=some (.cells (ZO (p.en++[p.list.length])) 3 false 0 0)->s.next<=be->be<S.next ->
   (∀j,j<s.next->j≠pb->¬Yn ve j->S.get j=s.get j)->Fr S->ZV (goN U fin ks E S):=by
  intro E S be k1 k2 k3 k4 k5 k6 k7;have hve:∀j,j<N->¬Yn ve j:=fun j hj h=>by have:=he.lt h;omega
  refine hk E S k1 (.inr ⟨bl,b1,be,b3,⟨?_,?_,?_,?_,?_,k3,?_,?_,?_⟩,e1,c1,by omega,c3⟩) (fun j h1 h2=>k6 j (by omega) h2 (hve j h1)) (by omega) k7
  ·simp only[k2,lp,ls,aeW,aff]
  ·exact (k6 bl e2 (by omega) x3).trans hg
  ·exact (k6 bp (by omega) (by omega) (hve bp d2)).trans gp
  ·exact (k6 bs (by omega) (by omega) (hve bs d3)).trans gs
  ·exact (k6 b1 c2 (by omega) fun h=>(de _ h).1 rfl).trans gb1
  ·exact (k6 b3 c4 (by omega) fun h=>(de _ h).2 rfl).trans gm
  ·simp only[afI,afa,List.not_mem_nil,not_or,or_false,List.nodup_nil,and_true,not_false_eq_true];refine⟨⟨?_,d4,d5,?_,?_,?_⟩,⟨?_,?_,x1,?_,x2⟩,⟨d6,?_,?_,?_⟩,⟨?_,?_,?_⟩,⟨?_,?_⟩,?_⟩ <;> omega
  ·intro j hj;simp only[afa,List.not_mem_nil,or_false] at hj;rcases hj with rfl|rfl|rfl|rfl|rfl|rfl|rfl <;> omega
 rcases he with⟨rfl,hh⟩|⟨be,rfl,SY,e3,e4⟩
 ·have RQ:(0+1)*8<=1099511627776:=by omega
  simp only[go_sem,dE,g3,g,ZD,Xy,ae3,afu,Nat.reducePow,ad4,aeX,R_,f1,TJ,SN,r6,Option.isNone_none];refine key _ _ (s.next+15) (fun t ht=>?_) ?_ ?_ (by omega) ?_ (fun j h1 h2 h3=>?_) ?_
  ·have ZQ:=Nz t ht;simp only[go_sem,ZQ]
  ·simp only[go_sem,hh]
  ·rw[hh];simp[go_sem,TJ,SN,r6,aeX];rfl
  ·simp only[Z9,Z',Z_];omega
  ·have e0:∀q,(s.next+q=j)=False:=fun q=>by simp;omega
   simp only[Z7,ZZ,Z9,Z',Z_,Z0,aeX,Nat.reduceAdd,e0,eq_false h2.symm,if_false]
  ·repeat first|exact fr|apply Fr.new|apply Fr.put|apply Fr.upto
   all_goals try simp only[Z9,Z',Z_]
   all_goals omega
 ·have RQ:(p.en.length+1)*8<=1099511627776:=by omega
  have TG:p.en.length+1<=1099511627776:=by omega
  have a1:=fun (S:St) (h:S.get be=some (.cells (ZO p.en) 3 false 0 0))=>C_ rfl h p.list.length
  have z1:(be=pb)=False:=by simp;omega
  have z2:(pb=be)=False:=by simp;omega
  simp only[go_sem,dE,g3,g,ZD,a1,SY,ae3,afu,Nat.reducePow,ad4,aeX,R_,f1,TJ,SN,r6,e4,RQ,TG,z1,z2,Option.isNone_none];refine key _ _ (s.next+15) (fun t ht=>?_) ?_ ?_ (by omega) ?_ (fun j h1 h2 h3=>?_) ?_
  ·have ZQ:=Nz t ht;simp only[go_sem,ZQ]
  ·simp only[go_sem]
  ·simp[go_sem,TJ,SN,r6,e4,aeX]
  ·simp only[Z9,Z',Z_];omega
  ·have e0:∀q,(s.next+q=j)=False:=fun q=>by simp;omega
   rw[Y6] at h3;simp only[Z7,ZZ,Z9,Z',Z_,Z0,aeX,Nat.reduceAdd,e0,eq_false h2.symm,eq_false h3,if_false]
  ·repeat first|exact fr|apply Fr.new|apply Fr.put|apply Fr.upto
   all_goals try simp only[Z9,Z',Z_]
   all_goals omega
theorem KS (c:Nat):∀(l:List Nat) (p:Pt),(XR c l p).list=p.list++l
 |[],p=>by simp[XR]
 |u::l,p=>by rw[XR,KS c l];simp
theorem KR (c:Nat):∀(l:List Nat) (p:Pt),(XR c l p).bg=p.bg/\(XR c l p).en=p.en/\(XR c l p).mr=p.mr/\(XR c l p).place.length=p.place.length/\(XR c l p).set.length=p.set.length
 |[],p=>by simp[XR]
 |u::l,p=>by
  have ih:=KR c l { p with place:=p.place.set u p.list.length,set:=p.set.set u c,list:=p.list++[u] };rw[XR]
  simpa using ih
theorem ek {β:Type}{fin:Fl->β}{ks:List K}{ZV:β->Prop}{κ:Nat->Uw}{pb n bp bs m N:Nat}{bl:List Nat}{vo:AV}{e:Env}{s:St}{p:Pt}(hn:n<=2^9)(g3:Env.get e 3=.ptr pb 0)(g4:Env.get e 4=.map m)(g64:Env.get e 64=vo)(g65:Env.get e 65=.int .i64 (Y_ κ n).length)(g66:Env.get e 66=.int .i64 (0:Nat))
  (G:Grp s m κ n bl vo)(lo:pb<m/\bp<m/\bs<m/\pb≠bp/\pb≠bs/\bp≠bs/\m<s.next)
  (hp:p=⟨[],List.replicate n 0,List.replicate n 0,[],[],[]⟩)(h:FV s pb n bp bs s.next p)(fr:Fr s)
  (hk:∀e' s',(∀t:Nat,t<12->Env.get e' t=Env.get e t)->FV s' pb n bp bs s.next (XL κ n)->(∀j,j<m->j≠pb->j≠bp->j≠bs->s'.get j=s.get j)->s.next<=s'.next->Fr s'->ZV (goN U fin ks e' s')) :
  ZV (Vx U fin (.bk 4::ks) LB e s):=by
 have BF:=KQ κ n;obtain⟨d1,d2,d3,d4,d5,d6,d7⟩:=lo;refine ZC (σ:=Nat) (fun i=>(Y_ κ n).length-i) (fun i e' s'=>i<=(Y_ κ n).length/\(∀t:Nat,t<12\/15<t/\t<66->Env.get e' t=Env.get e t)/\Env.get e' 66=.int .i64 (i:Nat)/\(∀j,j<s.next->j≠pb->j≠bp->j≠bs->s'.get j=s.get j)/\s.next<=s'.next/\Fr s' /\
   ∃p',FV s' pb n bp bs s.next p'/\IP κ n ((Y_ κ n).drop i) p'=XL κ n/\p'.place.length=n/\p'.set.length=n/\p'.bg.length=i/\p'.mr.length=i/\p'.en.length=i/\p'.list.length<=i*n) 0 ?_
  ⟨ae5 _,fun _ _=>rfl,g66,fun _ _ _ _ _=>rfl,aba _,fr,p,h,by rw[hp];rfl,by rw[hp];simp,by rw[hp];simp,by rw[hp];rfl,by rw[hp];rfl,by rw[hp];rfl,by rw[hp];simp⟩
 rintro Lp i e' s' ⟨hi,hold,q66,hs,XY,YM,p',P,FU,w1,w2,w3,w4,w5,w6⟩ IH;have q3:=(hold 3 (by omega)).trans g3;have q4:=(hold 4 (by omega)).trans g4;have q64:=(hold 64 (by omega)).trans g64;have q65:=(hold 65 (by omega)).trans g65;by_cases hd:i<(Y_ κ n).length
 ·obtain⟨Gm,DB,Gnd,DA,rz⟩:=G;have hw:=ZI hd (by omega);obtain⟨bo,rfl,ho,e1,e2⟩:∃b,vo=.sl b 0 (Y_ κ n).length none 1/\s.get b=some (.cells (strs (Y_ κ n)) 9 false 0 0)/\m+1<=b/\b<s.next:=by
   rcases rz with⟨h,_,_⟩|⟨_,_,b,h1,h2,h3,h4⟩
   ·omega
   ·exact⟨b,h3,h4,h1,h2⟩
  have Xk:=(hs bo e2 (by omega) (by omega) (by omega)).trans ho;have o1:(strs (Y_ κ n))[i]? = some (.str (Y_ κ n)[i]):=by unfold strs;rw[afs,aaa hd];rfl
  have hib:i<bl.length:=by omega
  obtain⟨b1,b2,b3⟩:=DA i hib hd;have hex:∃u,u<n/\κ u=(Y_ κ n)[i]:=(U9 κ _ n).1 (ae2 hd);have hgl:=Bx κ (Y_ κ n)[i] n;have KP:(Ub κ (Y_ κ n)[i] n)≠[]:=by
   obtain⟨u,h1,h2⟩:=hex;exact List.ne_nil_of_mem ((Sq κ _ n u).2 ⟨h1,h2⟩)
  have SY:=Hj (len:=fun k=>(Ub κ k n).length) (bs:=bl) (Sp κ n) DB hd;have lk:=fun (S:St) (h:S.get m=some (.map (DY (UP (fun k=>(Ub κ k n).length) (Y_ κ n) bl)) false))=>IN h (Y_ κ n)[i]
  rw[SY] at lk;simp only[afZ] at lk;rw[aeY hd,IP] at FU;have hmul:i*n<=2^9*2^9:=Nat.mul_le_mul (by omega) hn;simp only[go_sem,LB,q64,q65,q66,Z8,hd,Xk,o1,ae3];refine ej (p:=p') (s:=s') (by omega) w1 w2 (by omega) (by omega) ?_ ⟨by omega,by omega,by omega,d4,d5,d6,XY⟩ P YM ?_
  ·simp only[go_sem,q3]
  intro eg s2 vl ve c1 c3 Vy M WC K2 TC;have p3:Env.get eg 3=.ptr pb 0:=by rw[Vy 3 (by omega)];simp only[go_sem,q3]
  have p4:Env.get eg 4=.map m:=by rw[Vy 4 (by omega)];simp only[go_sem,q4]
  have L0:Env.get eg 12=.int .i64 (i:Nat):=by rw[Vy 12 (by omega)];simp only[go_sem]
  have zV:Env.get eg 13=.str (Y_ κ n)[i]:=by rw[Vy 13 (by omega)];simp only[go_sem]
  have um:s2.get m=some (.map (DY (UP (fun k=>(Ub κ k n).length) (Y_ κ n) bl)) false):=(WC m d7 (by omega)).trans ((hs m d7 (by omega) (by omega) (by omega)).trans Gm);simp only[go_sem,p4,zV,um,lk];refine ef (K:=i) (gb:=bl[i]) (G:=Ub κ (Y_ κ n)[i] n) (by omega) (fun u hu=>((Sq _ _ _ _).1 hu).1) (by simp only;omega) (by omega) ?_ ?_ ?_ ?_ ?_ ((WC _ b2 (by omega)).trans ((hs _ b2 (by omega) (by omega) (by omega)).trans b3)) b2 ⟨by omega,by omega,by omega⟩ M TC ?_
  case refine_6 =>
   intro e3 s3 lM QG M3 LI lL HF;have r3:Env.get e3 3=.ptr pb 0:=by rw[QG 3 (by omega)];simp only[go_sem,p3]
   rw[KO] at M3;have hal:=KS i (Ub κ (Y_ κ n)[i] n) p';obtain⟨t1,t2,t3,t4,t5⟩:=KR i (Ub κ (Y_ κ n)[i] n) p';rw[w3] at FU;refine ec (by omega) ?_ (by simp only[w5];omega) r3 M3 HF ?_
   ·simp only[hal];intro h;exact KP (List.append_eq_nil_iff.1 h).2
   ·intro e4 s4 h4a P4 hs4 aez fr4;have o66:Env.get e4 66=.int .i64 (i:Nat):=by
     rw[h4a 66 (by omega),QG 66 (by omega)];simp only[go_sem];rw[Vy 66 (by omega)];simp only[go_sem,q66]
    simp only[go_sem,o66,hw];refine IH (i+1) _ _ (by omega) ⟨by omega,fun t ht=>?_,?_,fun j h1 h2 h3 h4=>?_,by omega,fr4,_,P4,?_,?_,?_,?_,?_,?_,?_⟩
    ·have ZQ:∀k:Nat,66<=k->(k=t)=False:=fun k hk=>by simp;omega
     simp only[go_sem,ZQ];rw[h4a t (by omega),QG t (by omega)];simp only[go_sem,ZQ];rw[Vy t (by omega)];have PU:(12=t)=False:=by simp;omega
     have abo:(13=t)=False:=by simp;omega
     simp only[go_sem,ZQ,PU,abo];exact hold t ht
    ·simp only[go_sem]
    ·rw[hs4 j h1 h2,LI j h1 h2 h3 h4,WC j h1 h2,hs j h1 h2 h3 h4]
    ·exact FU
    ·exact t4.trans w1
    ·exact t5.trans w2
    ·simp[w3]
    ·simp[w4]
    ·simp[w5]
    ·simp only[hal,aeW,Nat.succ_mul];omega
  all_goals simp only[go_sem,p3,L0]
  all_goals rfl
 ·have:i=(Y_ κ n).length:=by omega
  subst this;rw[afE,IP] at FU;subst FU;simp only[go_sem,LB,q65,q66,Z8,afg];refine hk _ _ (fun t ht=>?_) P (fun j h1 h2 h3 h4=>hs j (by omega) h2 h3 h4) XY YM;have ZQ:∀k:Nat,66<=k->(k=t)=False:=fun k hk=>by simp;omega
  simp only[go_sem,ZQ];exact hold t (by omega)
theorem vh {base i a:Nat}{e:Env}{s:St}{n:Nat}(h:Env.get e a=.int .i64 (n:Int))(hn:n<=2^20) :
  Xu U base (some i) e s (.raw (.makeSlice 48 (.tmp a) (.tmp a)))=some (.sl (base+i) 0 n (some n) 1,s.put (base+i) (.cells (ZO (List.replicate n 0)) 3 false 0 0)):=by
 have h40:U.Zt 48=some (.slice 3):=by kernel_rfl
 have hz:zero U 3=some (.int .i64 0):=by kernel_rfl
 have hi:(U.inf 3).map (fun i=>(i.bytes,i.size))=some (8,1):=by kernel_rfl
 have e1:ZO (List.replicate n 0)=List.replicate n (.int .i64 0):=by simp[ZO,Mv,ints]
 cases hj:U.inf 3 with
 |none=>rw[hj] at hi;cases hi
 |some j =>
  rw[hj] at hi;simp only[afF,Option.some.injEq,Prod.mk.injEq] at hi;obtain⟨h1,h2⟩:=hi;rw[e1,<-UZ];simp only[Xu,ql,Zb,eval,h,h40,hj,hz];rw[if_pos ⟨by omega,by omega,by rw[h1];omega,by omega,by rw[h2];rfl,by omega⟩,h2];rfl
def jL (s0:St)(n:Nat)(p:Pt)(r:Option (AV×St)):Prop :=
 ∃s' pb bl bp bs bb be bm,r=some (.ptr pb 0,s')/\O8 s' pb n bl bp bs bb be bm p/\s0.next<=pb/\s0.next<=bl/\s0.next<=bp/\s0.next<=bs/\s0.next<=bb/\s0.next<=be/\s0.next<=bm/\s0.next<=s'.next/\Fr s'/\∀j,j<s0.next->s'.get j=s0.get j
theorem ac3 {a:ZN}(ha:a.ok){s:St}(fr:Fr s):jL s a.next.length (XL (Zz a) a.next.length) (WW U 169 [YP a] s):=by
 suffices TK:jL s a.next.length (XL (Zz a) a.next.length) (go U (XZ U [.tmp 2]) [] jM (ZM 0 [YP a] .nil) s) by
  obtain⟨s',pb,bl,bp,bs,bb,be,bm,h1,h2⟩:=TK;exact⟨s',pb,bl,bp,bs,bb,be,bm,Y3 ac1 (by kernel_rfl) h1,h2⟩
 have KP:=ha.pos;have Te:=ha.few;have ac4:a.next.length<=2^20:=by omega
 have R_:=fr.at;have TJ:∀j q,j<s.next->(j=s.next+q)=False:=fun j q hj=>by simp;omega
 have SN:∀j q,j<s.next->(s.next+q=j)=False:=fun j q hj=>by simp;omega
 have E5:∀q,q≠0->(s.next+q=s.next)=False:=fun q hq=>by simp;omega
 have E0:∀q,q≠0->(s.next=s.next+q)=False:=fun q hq=>by simp;omega
 have mk:=fun (base i t:Nat) (e:Env) (S:St) (h:Env.get e t=.int .i64 (a.next.length:Int))=>vh (base:=base) (i:=i) (s:=S) h ac4
 have hl:=ZL a.YC (a.next.map ZX);rw[ae7] at hl;have hlf:=ZL a.Yx (a.Z4.map ZY);rw[ae7] at hlf;have Sx:=ha.fl;rw[ZB];simp only[go_sem,jM,Tp jO,aeX,R_,TJ,SN,E5,E0,↓mk,XK,YK,hl,hlf];have He:∀x y z w v,Fr ((((((s.new x).upto (s.next+12)).put (s.next+4) y).put (s.next+8) z).put (s.next+10) w).new v):=fun x y z w v=>by
  repeat first|exact fr|apply Fr.new|apply Fr.put|apply Fr.upto
  all_goals try simp only[Z9,Z',Z_]
  all_goals omega
 refine aJ ha (m:=s.next+12) ?_ ?_ ?_ ?_ ?_ ?_ ?_ (He _ _ _ _ _) ?_
 case refine_8 =>
  intro e1 s1 bl vo h1a h1v G Ur cC Kr;have p3:Env.get e1 3=.ptr (s.next+10) 0:=by rw[h1a 3 (by omega)];simp only[go_sem]
  have p4:Env.get e1 4=.map (s.next+12):=by rw[h1a 4 (by omega)];simp only[go_sem]
  have Hq:=G.row.len;simp only[Z9,Z',Z_] at cC;have hs0:∀j,j<s.next->s1.get j=s.get j:=fun j hj=>by
   rw[Ur j (by omega)];have e0:∀q,(s.next+q=j)=False:=fun q=>by simp;omega
   have e2:(s.next=j)=False:=by simp;omega
   simp only[Z7,ZZ,Z9,Z',Z_,Z0,aeX,Nat.reduceAdd,e0,e2,if_false]
  have v10:s1.get (s.next+10)=some (.cells [.ZR,.sl (s.next+4) 0 a.next.length (some a.next.length) 1,.sl (s.next+8) 0 a.next.length (some a.next.length) 1,.ZR,.ZR,.ZR] 261 false 0 0):=by
   rw[Ur _ (by omega)];simp[go_sem]
  have v4:s1.get (s.next+4)=some (.cells (ZO (List.replicate a.next.length 0)) 3 false 0 0):=by
   rw[Ur _ (by omega)];simp[go_sem]
  have v8:s1.get (s.next+8)=some (.cells (ZO (List.replicate a.next.length 0)) 3 false 0 0):=by
   rw[Ur _ (by omega)];simp[go_sem]
  simp only[go_sem,h1v,Hq];refine ek (ZV:=jL s a.next.length (XL (Zz a) a.next.length)) (pb:=s.next+10) (bp:=s.next+4) (bs:=s.next+8) (m:=s.next+12) (N:=0) (p:=⟨[],List.replicate a.next.length 0,List.replicate a.next.length 0,[],[],[]⟩) (by omega) ?_ ?_ ?_ ?_ ?_ G ⟨by omega,by omega,by omega,by omega,by omega,by omega,by omega⟩ rfl (.inl ⟨rfl,v10,v4,v8⟩) Kr ?_
  case refine_6 =>
   intro e2 s2 Vy P WC K2 TC;have p3:Env.get e2 3=.ptr (s.next+10) 0:=by rw[Vy 3 (by omega)];simp only[go_sem,p3]
   simp only[go_sem,p3];rcases P with⟨hP,_⟩|⟨c1,c2,c3,c4,Q,n1,n2,n3,n4⟩
   ·have:=(EZ (Zz a) a.next.length).st 0 KP ((U9 _ _ _).2 ⟨0,KP,rfl⟩);rw[hP] at this;have:=this.1;simp at this
   ·exact⟨s2,s.next+10,c1,s.next+4,s.next+8,c2,c3,c4,rfl,Q,by omega,by omega,by omega,by omega,by omega,by omega,by omega,by omega,TC,fun j hj=>by rw[WC j (by omega) (by omega) (by omega) (by omega),hs0 j hj]⟩
  all_goals simp only[go_sem,p3,p4,h1v]
  all_goals rfl
 all_goals try simp only[Z9,Z',Z_]
 all_goals try simp[go_sem]
theorem aap (args:List AV)(s:St):YX U (Zv U 170 args) 170 args s=WW U 170 args s:=(Zu U 170 args s).symm
theorem NJ:∀(k f:Nat) (l:List AV),f+k<=l.length->YB k f l=some ((l.drop f).take k)
 |0,f,l,_=>by rw[Wh];simp
 |k+1,f,[],h=>by simp at h
 |k+1,0,x::l,h=>by
  rw[Wi,NJ k 0 l (by simp at h ⊢;omega)];rfl
 |k+1,f+1,x::l,h=>by
  rw[Ig,NJ (k+1) f l (by simp at h ⊢;omega)];rfl
theorem yc (L:List Nat)(f k:Nat):((ZO L).drop f).take k=ZO ((L.drop f).take k):=by
 unfold ZO Mv ints;simp only[List.map_drop,List.map_take]
theorem SE {t:TypeId}{n m:Nat}{new:List AV}{b len k:Nat}{s:St}{cs:List AV}{lo hi:Nat}(hg:s.get b=some (.cells cs t false lo hi))(hl:cs.length=len*n)(hk:¬len+m<=k) :
  SG t n m new (.sl b 0 len (some k) n) s=some (.sl s.next 0 (len+m) none n,s.new (.cells (cs++new) t false 0 0)):=by
 simp only[SG,St.cells,hg];rw[<-hl,XG];simp only;rw[if_neg hk]
theorem aaW (b o l z:Nat)(c:Option Nat):X_ U .eql 48 true (.sl b o l c z) .ZR=some (.bool false):=by
 have h:U.Zt 48=some (.slice 3):=by kernel_rfl
 simp only[X_,Kz,F0,h]
theorem adw {s:St}{b f k:Nat}{cap:Option Nat}{L:List Nat}(hg:s.get b=some (.cells (ZO L) 3 false 0 0))(hb:b<s.next)(hf:f+k<=L.length)(hk:0<k)(hL:L.length<=2^20) :
  WW U 170 [.sl b f k cap 1] s=some (.sl (s.next+1) 0 k none 1,(s.new (.cells [] 3 false 0 0)).new (.cells (ZO ((L.drop f).take k)) 3 false 0 0)):=by
 refine Y3 adr (by kernel_rfl) ?_;have hgr:YB k f (ZO L)=some (ZO ((L.drop f).take k)):=by rw[NJ _ _ _ (by rw[Xb];omega),yc]
 have hsr:∀S:St,S.get b=some (.cells (ZO L) 3 false 0 0)->Wt 1 (.sl b f k cap 1) S=some (k,ZO ((L.drop f).take k)):=fun S h=>by
  rw[H8,ae3,h];simp only[oL,cellsOf,hgr,tp]
 have hl:(ZO ((L.drop f).take k)).length=k*1:=by rw[Xb];simp;omega
 have hap:∀S:St,S.get s.next=some (.cells [] 3 false 0 0)->HQ 3 1 8 (.sl s.next 0 0 (some 0) 1) (some (k,ZO ((L.drop f).take k))) S=some (.sl S.next 0 (0+k) none 1,S.new (.cells ([]++ZO ((L.drop f).take k)) 3 false 0 0)):=fun S h=>by
  rw[ZD hl (by simp only[N8];omega) (by simp only[N8];omega) (by omega),SE h rfl (by omega)]
 have z:(s.next=b)=False:=by simp;omega
 simp only[go_sem,aam,aaW,hg,hsr,hap,z,ad4,afP]
def QH (s:St)(N:Nat)(L:List Nat)(v:AV):Prop:=(v=.ZR/\L=[])\/∃b R,v=.sl b 0 L.length none 1/\s.get b=some (.cells (ZO (L++R)) 3 false 0 0)/\N<=b/\b<s.next
theorem QH.keep {s s':St}{N:Nat}{L:List Nat}{v:AV}(h:QH s N L v)(hn:s.next<=s'.next)(hg:∀j,j<s.next->N<=j->Yn v j->s'.get j=s.get j):QH s' N L v:=by
 rcases h with h|⟨b,R,h1,h2,h3,h4⟩
 ·exact .inl h
 ·exact .inr ⟨b,R,h1,by rw[hg b h4 h3 ⟨_,h1⟩];exact h2,h3,by omega⟩
theorem QH.lt {s:St}{N:Nat}{L:List Nat}{v:AV}(h:QH s N L v){j:Nat}(hj:Yn v j):N<=j/\j<s.next:=by
 rcases h with⟨h,_⟩|⟨b,R,h1,h2,h3,h4⟩
 ·rw[h] at hj;exact absurd hj (XH j)
 ·rw[h1,Y6] at hj;subst hj;exact⟨h3,h4⟩
theorem QH.WK {s:St}{N:Nat}{L:List Nat}{v:AV}(h:QH s N L v):Go.Am.WK v=L.length:=by
 rcases h with⟨rfl,rfl⟩|⟨b,R,rfl,h2,h3,h4⟩ <;> rfl
theorem QH.Zf {s:St}{N:Nat}{L:List Nat}{v:AV}(h:QH s N L v):U7 v=some (.int .i64 L.length):=by
 rcases h with⟨rfl,rfl⟩|⟨b,R,rfl,h2,h3,h4⟩ <;> rfl
theorem QH.app {s:St}{N:Nat}{L:List Nat}{v:AV}(h:QH s N L v)(hN:N<=s.next)(k:Nat) :
  ∃s1,SG 3 1 1 [.int .i64 (k:Int)] v s=some (.sl s.next 0 (L.length+1) none 1,s1)/\s1.next=s.next+1/\QH s1 N (L++[k]) (.sl s.next 0 (L.length+1) none 1)/\(∀j,j<s.next->¬Yn v j->s1.get j=s.get j)/\(Fr s->Fr s1):=by
 rcases h with⟨rfl,rfl⟩|⟨b,R,rfl,h2,h3,h4⟩
 ·refine⟨_,Xy _ _ _ _ _,rfl,.inr ⟨s.next,[],rfl,?_,hN,by rw[Z'];omega⟩,fun j hj _=>by rw[ZZ,if_neg (by omega)],fun hf=>hf.new _⟩;rw[ZZ,if_pos rfl];rfl
 ·have e:(ZO (L++R)).take (L.length*1)=ZO L:=by
   unfold ZO Mv ints;rw[afX,afX,ae3,List.take_left' (by simp)]
  refine⟨(s.put b .gone).new (.cells (ZO (L++[k])) 3 false 0 0),?_,rfl,.inr ⟨s.next,[],by simp,?_,hN,by rw[Z',Z9];omega⟩,fun j hj hb=>?_,fun hf=>(hf.put h4 _).new _⟩
  ·rw[Uq,h2];have hgr:YB (L.length*1) 0 (ZO (L++R))=some (ZO L):=by
    rw[NJ _ _ _ (by rw[Xb];simp),afJ,e]
   simp only[tn,hgr];rw[if_pos ⟨trivial,by omega,trivial,rfl⟩,N7]
  ·rw[ZZ,Z9,if_pos rfl,List.append_nil]
  ·rw[Y6] at hb;rw[ZZ,Z9,if_neg (by omega),Z7,if_neg hb]
theorem QH.get {s:St}{N:Nat}{L:List Nat}{v:AV}(h:QH s N L v){i:Nat}(hi:i<L.length) :
  ∃b R,v=.sl b 0 L.length none 1/\s.get b=some (.cells (ZO (L++R)) 3 false 0 0)/\(ZO (L++R))[i]? = some (.int .i64 (L[i]:Nat)):=by
 rcases h with⟨rfl,rfl⟩|⟨b,R,rfl,h2,h3,h4⟩
 ·simp at hi
 ·refine⟨b,R,rfl,h2,?_⟩;rw[Y1 (by simp;omega),GG hi,ZJ hi]
def HG (s:St)(L:List Nat)(v:AV):Prop:=(v=.ZR/\L=[])\/∃b,v=.sl b 0 L.length none 1/\s.get b=some (.cells (ZO L) 3 false 0 0)/\b<s.next
theorem HG.keep {s s':St}{L:List Nat}{v:AV}(h:HG s L v)(hn:s.next<=s'.next)(hg:∀j,j<s.next->Yn v j->s'.get j=s.get j):HG s' L v:=by
 rcases h with h|⟨b,h1,h2,h4⟩
 ·exact .inl h
 ·exact .inr ⟨b,h1,by rw[hg b h4 ⟨_,h1⟩];exact h2,by omega⟩
theorem HG.Zf {s:St}{L:List Nat}{v:AV}(h:HG s L v):U7 v=some (.int .i64 L.length):=by
 rcases h with⟨rfl,rfl⟩|⟨b,rfl,h2,h4⟩ <;> rfl
def Yj (pb bl bp bs bb be bm j:Nat):Prop:=j≠pb/\j≠bl/\j≠bp/\j≠bs/\j≠bb/\j≠be/\j≠bm
theorem O8.su {s:St}{pb n bl bp bs bb be bm:Nat}{p:Pt}(h:O8 s pb n bl bp bs bb be bm p):pb<s.next/\bl<s.next/\bp<s.next/\bs<s.next/\bb<s.next/\be<s.next/\bm<s.next :=
 ⟨h.lt _ (by simp),h.lt _ (by simp),h.lt _ (by simp),h.lt _ (by simp),h.lt _ (by simp),h.lt _ (by simp),h.lt _ (by simp)⟩
theorem dX {β:Type}{fin:Fl->β}{ks:List K}{ZV:β->Prop}{pb n bl bp bs bb be bm N:Nat}{p:Pt}{T us:List Nat}{tv vB:AV}{e:Env}{s:St}(hn:n<=2^19)(h:O8 s pb n bl bp bs bb be bm p)(hw:p.Wf n)(hU:∀u∈us,u<n)(hul:us.length<=2^20)(lI:T.length+us.length<=2^30)
  (g3:Env.get e 3=.ptr pb 0)(LV:Env.get e 13=tv)(abz:Env.get e 135=vB)(abA:Env.get e 136=.int .i64 us.length)(abB:Env.get e 137=.int .i64 (0:Nat))
  (hT:QH s N T tv)(lH:∀j,Yn tv j->Yj pb bl bp bs bb be bm j)(hN:N<=s.next)(hB:HG s us vB)(hBf:∀j,Yn vB j->Yj pb bl bp bs bb be bm j/\¬Yn tv j)(fr:Fr s)
  (hk:∀e' s' Nm,(∀t:Nat,t<13\/17<t/\t<137->Env.get e' t=Env.get e t)->Env.get e' 13=Nm->O8 s' pb n bl bp bs bb be bm (Zd us p T).1->QH s' N (Zd us p T).2 Nm->(∀j,Yn Nm j->Yn tv j\/s.next<=j) ->
   (∀j,j<s.next->j≠bl->j≠bp->j≠bm->¬Yn tv j->s'.get j=s.get j)->s.next<=s'.next->Fr s'->ZV (goN U fin ks e' s')) :
  ZV (Vx U fin (.bk 12::ks) OM e s):=by
 refine ZC (σ:=Nat) (fun i=>us.length-i) (fun i e' s'=>i<=us.length/\(∀t:Nat,t<13\/17<t/\t<137->Env.get e' t=Env.get e t)/\Env.get e' 137=.int .i64 (i:Nat)/\s.next<=s'.next/\Fr s' /\
   ∃p' T' Nm,Env.get e' 13=Nm/\O8 s' pb n bl bp bs bb be bm p'/\p'.Wf n/\Zd (us.drop i) p' T'=Zd us p T/\T'.length<=T.length+i/\QH s' N T' Nm/\(∀j,Yn Nm j->Yn tv j\/s.next<=j)/\(∀j,j<s.next->j≠bl->j≠bp->j≠bm->¬Yn tv j->s'.get j=s.get j)) 0 ?_
  ⟨ae5 _,fun _ _=>rfl,abB,aba _,fr,p,T,tv,LV,h,hw,rfl,by omega,hT,fun j=>.inl,fun _ _ _ _ _ _=>rfl⟩
 rintro Lp i e' s' ⟨hi,hold,ru,XY,YM,p',T',Nm,U6,P,L5,FN,hlen,Bs,WH,hs⟩ IH;have q3:=(hold 3 (by omega)).trans g3;have dW:=(hold 135 (by omega)).trans abz;have lG:=(hold 136 (by omega)).trans abA;by_cases hd:i<us.length
 ·have S6:=ZI hd (by omega);have lts:=h.su;have B2:=hB.keep XY fun j h1 h2=>by obtain⟨h3,h4⟩:=hBf j h2;unfold Yj at h3;exact hs j h1 (by omega) (by omega) (by omega) h4
  obtain⟨b,rfl,hg,hb⟩:∃b,vB=.sl b 0 us.length none 1/\s'.get b=some (.cells (ZO us) 3 false 0 0)/\b<s'.next:=by
   rcases B2 with⟨_,h⟩|h
   ·rw[h] at hd;simp at hd
   ·exact h
  have o1:=Y1 (l:=us) (i:=i) hd;have hu:=hU _ (ae2 hd);rw[ZJ hd] at o1;rw[aeY hd,Zd] at FN;generalize us[i]=u at *;obtain⟨s2,c1,P2,c2,c3,c4⟩:=abC P L5 (by omega) YM hu;obtain⟨m1,m2,m3,m4,m5,m6,m7⟩:=PT L5 hu;have T2:=Bs.keep c2 fun j h1 h2 h3=>by
   have:Yj pb bl bp bs bb be bm j:=by
    rcases WH j h3 with h4|h4
    ·exact lH j h4
    ·unfold Yj;omega
   unfold Yj at this;exact c4 j h1 (by omega) (by omega) (by omega)
  have fs:∀j,j<s.next->j≠bl->j≠bp->j≠bm->¬Yn tv j->s2.get j=s.get j:=fun j h1 h2 h3 h4 h5=>by rw[c4 j (by omega) h2 h3 h4,hs j h1 h2 h3 h4 h5]
  cases TG:(p'.XT u).2 with
  |false =>
   rw[TG] at c1 FN;rw[cond_false] at FN;simp only[go_sem,OM,q3,dW,lG,ru,Z8,hd,hg,o1,nG,c1,S6,ae3];refine IH (i+1) _ _ (by omega) ⟨by omega,fun t ht=>?_,?_,by omega,c3,_,T',Nm,?_,P2,m1,FN,by omega,T2,WH,fs⟩
   ·have ZQ:∀k:Nat,137<=k->(k=t)=False:=fun k hk=>by simp;omega
    have KL:(17=t)=False:=by simp;omega
    simp only[go_sem,ZQ,KL];exact hold t ht
   ·simp only[go_sem]
   ·simp only[go_sem,U6]
  |true =>
   rw[TG] at c1 FN;rw[cond_true] at FN;have Xg:gt p'.set u=gt (p'.XT u).1.set u:=by rw[m2]
   have lsu:=m1.ls;have o2:=Y1 (l:=(p'.XT u).1.set) (i:=u) (by omega);have Gl:=T2.WK;have Bt:(T'.length+1)*8<=1099511627776:=by omega
   have xR:T'.length+1<=1099511627776:=by omega
   simp only[go_sem,OM,q3,U6,dW,lG,ru,Z8,hd,hg,o1,nG,c1,S6,ae3,afu,P2.g,P2.gs,o2,hu,lsu,ZD,Nat.reducePow,Gl,Bt,xR];have T3:QH (s2.new (.cells [.int .i64 ((gt (p'.XT u).1.set u:Nat):Int)] 3 false 0 0)) N T' Nm:=T2.keep (by rw[Z'];omega) fun j h1 _ _=>by rw[ZZ,if_neg (by omega)]
   obtain⟨s4,d1,d2,d3,d4,d5⟩:=T3.app (by rw[Z'];omega) (gt (p'.XT u).1.set u);rw[Z'] at d1 d2 d3 d4;rw[d1];simp only[go_sem,ru,S6];rw[<-Xg] at d3;have k4:∀j,j<s2.next->¬Yn Nm j->s4.get j=s2.get j:=fun j h1 h2=>by rw[d4 j (by omega) h2,ZZ,if_neg (by omega)]
   have hP:∀j,Yn Nm j->Yj pb bl bp bs bb be bm j:=fun j hj=>by
    rcases WH j hj with h4|h4
    ·exact lH j h4
    ·unfold Yj;omega
   refine IH (i+1) _ _ (by omega) ⟨by omega,fun t ht=>?_,?_,by omega,d5 (c3.new _),_,T'++[gt p'.set u],.sl (s2.next+1) 0 (T'.length+1) none 1,?_,P2.mono (by omega) fun j hj=>k4 j (P2.lt j hj) fun hb=>?_,m1,FN,by simp;omega,d3,fun j hj=>?_,fun j h1 h2 h3 h4 h5=>?_⟩
   ·have ZQ:∀k:Nat,137<=k->(k=t)=False:=fun k hk=>by simp;omega
    have KL:(17=t)=False:=by simp;omega
    have xp:(13=t)=False:=by simp;omega
    simp only[go_sem,ZQ,KL,xp];exact hold t ht
   ·simp only[go_sem]
   ·simp only[go_sem]
   ·have:=hP j hb;unfold Yj at this;simp only[afa,List.not_mem_nil,or_false] at hj;omega
   ·rw[Y6] at hj;omega
   ·by_cases hb:Yn Nm j
    ·rcases WH j hb with h6|h6
     ·exact absurd h6 h5
     ·omega
    ·rw[k4 j (by omega) hb,fs j h1 h2 h3 h4 h5]
 ·have:i=us.length:=by omega
  subst this;rw[afE,Zd] at FN;rw[<-FN] at hk;simp only[go_sem,OM,lG,ru,Z8,afg];refine hk _ _ Nm (fun t ht=>?_) ?_ P Bs WH hs XY YM
  ·have ZQ:∀k:Nat,137<=k->(k=t)=False:=fun k hk=>by simp;omega
   have KL:(17=t)=False:=by simp;omega
   simp only[go_sem,ZQ,KL];exact hold t ht
  ·simp only[go_sem,U6]
structure F' (s:St)(B m n:Nat)(bf:Nat->Nat->List Nat)(lo hi:Nat)(bx:Nat->Nat)(vs:Nat->Nat->AV):Prop where
 g:s.get B=some (.cells ((List.range m).map fun x=>.sl (bx x) 0 n (some n) 1) 39 false 0 0)
 row:∀x,x<m->s.get (bx x)=some (.cells ((List.range n).map (vs x)) 48 false 0 0)
 bl:∀x,x<m->∀c,c<n->HG s (bf x c) (vs x c)
 hB:lo<=B/\B<hi
 hx:∀x,x<m->lo<=bx x/\bx x<hi
 hv:∀x,x<m->∀c,c<n->∀j,Yn (vs x c) j->lo<=j/\j<hi
 le:hi<=s.next
theorem F'.keep {s s':St}{B m n:Nat}{bf:Nat->Nat->List Nat}{lo hi:Nat}{bx:Nat->Nat}{vs:Nat->Nat->AV}(h:F' s B m n bf lo hi bx vs)(hn:s.next<=s'.next)(hg:∀j,lo<=j->j<hi->s'.get j=s.get j):F' s' B m n bf lo hi bx vs :=
 ⟨(hg _ h.hB.1 h.hB.2).trans h.g,fun x hx=>(hg _ (h.hx x hx).1 (h.hx x hx).2).trans (h.row x hx),fun x hx c hc=>(h.bl x hx c hc).keep hn fun j _ hj=>hg j (h.hv x hx c hc j hj).1 (h.hv x hx c hc j hj).2,h.hB,h.hx,h.hv,by have:=h.le;omega⟩
def Ou (lo hi j:Nat):Prop:=j<lo\/hi<=j
theorem Qz (f:Nat->AV){n i:Nat}(h:i<n):((List.range n).map f)[i]? = some (f i):=by
 rw[afs,List.getElem?_range h];rfl
theorem JH {n:Nat}:∀(us:List Nat) (p:Pt) (T:List Nat),p.Wf n->(∀u∈us,u<n)->(Zd us p T).1.Wf n
 |[],p,T,h,_=>h
 |u::l,p,T,h,hu=>by
  rw[Zd];exact JH l _ _ (PT h (hu u (aeZ ..))).1 fun x hx=>hu x (abc _ hx)
theorem RI:∀(us:List Nat) (p:Pt) (T:List Nat),(Zd us p T).2.length<=T.length+us.length
 |[],p,T=>by simp[Zd]
 |u::l,p,T=>by
  rw[Zd];have:=RI l (p.XT u).1 (bif (p.XT u).2 then T++[gt p.set u] else T);have h2:(bif (p.XT u).2 then T++[gt p.set u] else T).length<=T.length+1:=by cases (p.XT u).2 <;> simp
  rw[afc];omega
theorem eQ {β:Type}{fin:Fl->β}{ks:List K}{ZV:β->Prop}{pb n m bl bp bs bb be bm N B lo hi x:Nat}{bf:Nat->Nat->List Nat}{bx:Nat->Nat}{vs:Nat->Nat->AV}{p:Pt}{T ms:List Nat}{tv mv:AV}{e:Env}{s:St}(hn:n<=2^9)(hm:m<=2^9)(hx:x<m)(h:O8 s pb n bl bp bs bb be bm p)(hw:p.Wf n)(hM:∀u∈ms,u<n)(hml:ms.length<=2^9)(lI:T.length+ms.length*n<=2^29)
  (hbf:∀c,c<n->(bf x c).length<=n/\∀u∈bf x c,u<n)
  (g3:Env.get e 3=.ptr pb 0)(g4:Env.get e 4=.sl B 0 m (some m) 1)(OT:Env.get e 12=.int .i64 (x:Int))(LV:Env.get e 13=tv)(iG:Env.get e 123=mv)(aeh:Env.get e 124=.int .i64 ms.length)(aei:Env.get e 125=.int .i64 (0:Nat))
  (hT:QH s N T tv)(lH:∀j,Yn tv j->Yj pb bl bp bs bb be bm j/\Ou lo hi j)(hN:N<=s.next)(hMr:HG s ms mv)(hMf:∀j,Yn mv j->Yj pb bl bp bs bb be bm j/\¬Yn tv j)
  (hB:F' s B m n bf lo hi bx vs)(rL:∀j,Ou lo hi j\/Yj pb bl bp bs bb be bm j)(fr:Fr s)
  (hk:∀e' s' Nm,(∀t:Nat,t<13\/17<t/\t<125->Env.get e' t=Env.get e t)->Env.get e' 13=Nm->O8 s' pb n bl bp bs bb be bm (Zd (ms.flatMap (bf x)) p T).1->QH s' N (Zd (ms.flatMap (bf x)) p T).2 Nm->(∀j,Yn Nm j->Yn tv j\/s.next<=j) ->
   (∀j,j<s.next->j≠bl->j≠bp->j≠bm->¬Yn tv j->s'.get j=s.get j)->s.next<=s'.next->Fr s'->ZV (goN U fin ks e' s')) :
  ZV (Vx U fin (.bk 10::ks) Ll e s):=by
 refine ZC (σ:=Nat) (fun i=>ms.length-i) (fun i e' s'=>i<=ms.length/\(∀t:Nat,t<13\/17<t/\t<125->Env.get e' t=Env.get e t)/\Env.get e' 125=.int .i64 (i:Nat)/\s.next<=s'.next/\Fr s' /\
   ∃p' T' Nm,Env.get e' 13=Nm/\O8 s' pb n bl bp bs bb be bm p'/\p'.Wf n/\Zd ((ms.drop i).flatMap (bf x)) p' T'=Zd (ms.flatMap (bf x)) p T/\T'.length<=T.length+i*n/\QH s' N T' Nm/\(∀j,Yn Nm j->Yn tv j\/s.next<=j)/\(∀j,j<s.next->j≠bl->j≠bp->j≠bm->¬Yn tv j->s'.get j=s.get j)) 0 ?_
  ⟨ae5 _,fun _ _=>rfl,aei,aba _,fr,p,T,tv,LV,h,hw,rfl,by simp,hT,fun j=>.inl,fun _ _ _ _ _ _=>rfl⟩
 rintro Lp i e' s' ⟨Gr,hold,gq,XY,YM,p',T',Nm,U6,P,L5,FN,hlen,Bs,WH,hs⟩ IH;have q3:=(hold 3 (by omega)).trans g3;have q4:=(hold 4 (by omega)).trans g4;have RR:=(hold 12 (by omega)).trans OT;have oW:=(hold 123 (by omega)).trans iG;have aa':=(hold 124 (by omega)).trans aeh;have lts:=h.su;by_cases hd:i<ms.length
 ·have S6:=ZI hd (by omega);have hle:=hB.le;have B2:=hB.keep XY fun j h1 h2=>by
   have h3:Yj pb bl bp bs bb be bm j:=by rcases rL j with h|h;unfold Ou at h;omega;exact h
   unfold Yj at h3;exact hs j (by omega) (by omega) (by omega) (by omega) fun hb=>by have:=(lH j hb).2;unfold Ou at this;omega
  have M2:=hMr.keep XY fun j h1 h2=>by obtain⟨h3,h4⟩:=hMf j h2;unfold Yj at h3;exact hs j h1 (by omega) (by omega) (by omega) h4
  obtain⟨b,rfl,hg,hb⟩:∃b,mv=.sl b 0 ms.length none 1/\s'.get b=some (.cells (ZO ms) 3 false 0 0)/\b<s'.next:=by
   rcases M2 with⟨_,h⟩|h
   ·rw[h] at hd;simp at hd
   ·exact h
  have o1:=Y1 (l:=ms) (i:=i) hd;have hu:=hM _ (ae2 hd);rw[ZJ hd] at o1;rw[aeY hd,afn,MF] at FN;generalize ms[i]=c at *;obtain⟨f1,f2⟩:=hbf c hu;have o2:=Qz (fun x=>(AV.sl (bx x) 0 n (some n) 1)) hx;have o3:=Qz (vs x) hu;have Ix:=B2.row x hx;have LR:=B2.bl x hx c hu;have qM:=LR.Zf;have R4:i*n+n<=ms.length*n:=by
   have:(i+1)*n<=ms.length*n:=Nat.mul_le_mul_right n hd;rw[Nat.succ_mul] at this;exact this
  have hB2:=B2.g;have hTP:∀j,Yn Nm j->Yj pb bl bp bs bb be bm j/\(Ou lo hi j):=fun j hj=>by
   rcases WH j hj with h4|h4
   ·exact lH j h4
   ·refine⟨by unfold Yj;omega,by unfold Ou;omega⟩
  simp only[go_sem,Ll,q3,q4,RR,oW,aa',gq,Z8,hd,hg,o1,o2,o3,hx,hu,hB2,Ix,qM,ae3];refine dX (N:=N) (p:=p') (T:=T') (tv:=Nm) (us:=bf x c) (by omega) P L5 f2 (by omega) (by omega) ?_ ?_ ?_ ?_ ?_ Bs (fun j hj=>(hTP j hj).1) (by omega) LR (fun j hj=>?_) YM ?_
  case refine_7 =>
   intro e2 s2 tv2 Vy sr P3 T3 LI fX BL HF;have aej:Env.get e2 125=.int .i64 (i:Nat):=by rw[Vy 125 (by omega)];simp only[go_sem,gq]
   simp only[go_sem,aej,S6];refine IH (i+1) _ _ (by omega) ⟨by omega,fun t ht=>?_,?_,by omega,HF,_,_,tv2,?_,P3,JH _ _ _ L5 f2,FN,?_,T3,fun j hj=>?_,fun j h1 h2 h3 h4 h5=>?_⟩
   ·have ZQ:∀k:Nat,125<=k->(k=t)=False:=fun k hk=>by simp;omega
    have my:(15=t)=False:=by simp;omega
    simp only[go_sem,ZQ,my];rw[Vy t (by omega)];simp only[go_sem,ZQ,my];exact hold t ht
   ·simp only[go_sem]
   ·simp only[go_sem,sr]
   ·have:=RI (bf x c) p' T';rw[Nat.succ_mul];omega
   ·rcases LI j hj with h6|h6
    ·exact WH j h6
    ·right;omega
   ·by_cases hb:Yn Nm j
    ·rcases WH j hb with h6|h6
     ·exact absurd h6 h5
     ·omega
    ·rw[fX j (by omega) h2 h3 h4 hb,hs j h1 h2 h3 h4 h5]
  case refine_6 =>
   have h1:=B2.hv x hx c hu j hj;refine⟨?_,fun hb=>?_⟩
   ·rcases rL j with h|h
    ·unfold Ou at h;omega
    ·exact h
   ·have:=(hTP j hb).2;unfold Ou at this;omega
  all_goals simp only[go_sem,q3,U6]
  all_goals rfl
 ·have:i=ms.length:=by omega
  subst this;rw[afE,List.flatMap_nil,Zd] at FN;rw[<-FN] at hk;simp only[go_sem,Ll,aa',gq,Z8,afg];refine hk _ _ Nm (fun t ht=>?_) ?_ P Bs WH hs XY YM
  ·have ZQ:∀k:Nat,125<=k->(k=t)=False:=fun k hk=>by simp;omega
   have KL:(17=t)=False:=by simp;omega
   simp only[go_sem,ZQ,KL];exact hold t ht
  ·simp only[go_sem,U6]
end Go.Am
