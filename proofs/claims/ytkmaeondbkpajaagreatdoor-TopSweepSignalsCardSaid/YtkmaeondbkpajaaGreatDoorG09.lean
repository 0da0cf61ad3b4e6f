/- A part of the proof of a statement of this seat: the machine on which the program is read, and what it computes; for every input. -/
import Derived.Test.YtkmaeondbkpajaaGreatDoorG07
import Derived.Test.YtkmaeondbkpajaaGreatDoorG08
set_option linter.all false
namespace Go.Am
open Go
variable [ZZ]
set_option maxRecDepth 100000
set_option maxHeartbeats 8000000
def JG (s:St)(N:Nat)(L:List Nat)(v:AV):Prop:=(v=.ZM/\L=[])\/∃b,v=.sl b 0 L.length none 1/\s.get b=some (.cells (ZA L) 3 false 0 0)/\N<=b/\b<s.next
def Xi (v:AV)(j:Nat):Prop:=∃n,v=.sl j 0 n none 1
theorem Yu (b n j:Nat):Xi (.sl b 0 n none 1) j<->b=j:=by
 constructor
 ·rintro⟨m,h⟩;cases h;rfl
 ·rintro rfl;exact⟨n,rfl⟩
theorem Ws (j:Nat):¬Xi .ZM j:=by rintro⟨m,h⟩;cases h
theorem JG.keep {s s':St}{N:Nat}{L:List Nat}{v:AV}(h:JG s N L v)(hn:s.next<=s'.next)(hg:∀j,j<s.next->N<=j->Xi v j->s'.get j=s.get j):JG s' N L v:=by
 rcases h with h|⟨b,h1,h2,h3,h4⟩
 ·exact .inl h
 ·exact .inr ⟨b,h1,by rw[hg b h4 h3 ⟨_,h1⟩];exact h2,h3,by omega⟩
theorem JG.lt {s:St}{N:Nat}{L:List Nat}{v:AV}(h:JG s N L v){j:Nat}(hj:Xi v j):N<=j/\j<s.next:=by
 rcases h with⟨h,_⟩|⟨b,h1,h2,h3,h4⟩
 ·rw[h] at hj;exact absurd hj (Ws j)
 ·rw[h1,Yu] at hj;subst hj;exact⟨h3,h4⟩
structure nI (s:St)(pb n bp bs N:Nat)(p:Pt)(vl ve:AV)(b1 b3:Nat):Prop where
 g:s.get pb=some (.cells [vl,.sl bp 0 n (some n) 1,.sl bs 0 n (some n) 1,.sl b1 0 p.bg.length none 1,ve,.sl b3 0 p.mr.length none 1] 261 false 0 0)
 gp:s.get bp=some (.cells (ZA p.place) 3 false 0 0)
 gs:s.get bs=some (.cells (ZA p.set) 3 false 0 0)
 gb:s.get b1=some (.cells (ZA p.bg) 3 false 0 0)
 gm:s.get b3=some (.cells (ZA p.mr) 3 false 0 0)
 l:JG s N p.list vl
 e:JG s N p.en ve
 h1:N<=b1/\b1<s.next/\N<=b3/\b3<s.next/\b1≠b3
 dl:∀j,Xi vl j->j≠b1/\j≠b3/\¬Xi ve j
 de:∀j,Xi ve j->j≠b1/\j≠b3
 lo:pb<N/\bp<N/\bs<N/\pb≠bp/\pb≠bs/\bp≠bs/\N<=s.next
 lp:p.place.length=n
 ls:p.set.length=n
theorem acK {β:Type}{fin:Fl->β}{ks:List K}{Zu:β->Prop}{pb n bp bs N b1 b3 K gb:Nat}{p:Pt}{vl ve:AV}{G:List Nat}{e:Env}{s:St}(hn:n<=2^19)(hG:∀u∈G,u<n)(hb:p.list.length+G.length<=2^20)(hK:K<=2^20)
  (g3:Env.get e 3=.ptr pb 0)(SB:Env.get e 12=.int .i64 (K:Int))(g96:Env.get e 96=.sl gb 0 G.length none 1)(g97:Env.get e 97=.int .i64 G.length)(g98:Env.get e 98=.int .i64 (0:Nat))
  (hgb:s.get gb=some (.cells (ZA G) 3 false 0 0))(YH:gb<N)(Zv:gb≠pb/\gb≠bp/\gb≠bs)(M:nI s pb n bp bs N p vl ve b1 b3)(fr:Fr s)
  (hk:∀e' s' aM,(∀t:Nat,t<15\/15<t/\t<98->Env.get e' t=Env.get e t)->nI s' pb n bp bs N (WH K G p) aM ve b1 b3->(∀j,j<N->j≠pb->j≠bp->j≠bs->s'.get j=s.get j)->s.next<=s'.next->Fr s'->Zu (goN U fin ks e' s')) :
  Zu (SC U fin (.bk 6::ks) L4 e s):=by
 refine YG (σ:=Nat) (fun i=>G.length-i) (fun i e' s'=>i<=G.length/\(∀t:Nat,t<15\/15<t/\t<98->Env.get e' t=Env.get e t)/\Env.get e' 98=.int .i64 (i:Nat)/\(∀j,j<N->j≠pb->j≠bp->j≠bs->s'.get j=s.get j)/\s.next<=s'.next/\Fr s' /\
   ∃p' aM,nI s' pb n bp bs N p' aM ve b1 b3/\WH K (G.drop i) p'=WH K G p/\p'.list.length=p.list.length+i) 0 ?_
  ⟨aji _,fun _ _=>rfl,g98,fun _ _ _ _ _=>rfl,ajg _,fr,p,vl,M,rfl,rfl⟩
 rintro Lp i e' s' ⟨hi,hold,q98,hs,UL,UB,p',aM,M',qy,hlen⟩ IH;have q3:=(hold 3 (by omega)).trans g3;have pV:=(hold 12 (by omega)).trans SB;have q96:=(hold 96 (by omega)).trans g96;have q97:=(hold 97 (by omega)).trans g97;by_cases hd:i<G.length
 ·have hw:=ZE hd (by omega);have afG:=(hs gb YH Zv.1 Zv.2.1 Zv.2.2).trans hgb;have o1:=X9 (l:=G) (i:=i) hd;have hu:=hG _ (ajc hd);rw[R_ hd] at o1;rw[abc hd,WH] at qy;generalize G[i]=u at *;obtain⟨g,gp,gs,gb1,gm,hl,he,⟨c1,c2,c3,c4,c5⟩,dl,de,⟨d1,d2,d3,d4,d5,d6,d7⟩,lp,ls⟩:=M';have y1:=Vs (l:=p'.place) (i:=u) p'.list.length (by omega);have y2:=Vs (l:=p'.set) (i:=u) K (by omega);have u1:u<n:=hu;have z1:(bp=pb)=False:=eq_false d4.symm;have z2:(bp=bs)=False:=eq_false d6;have z3:(bs=pb)=False:=eq_false d5.symm;have z4:(bs=bp)=False:=eq_false d6.symm;have Un:(p'.list.length+1)*8<=1099511627776:=by omega
  have VD:p'.list.length+1<=1099511627776:=by omega
  have vq:(0+1)*8<=1099511627776:=by omega
  have pY:0+1<=1099511627776:=by omega
  have f1:∀q,(s'.next+q=pb)=False:=fun q=>by simp;omega
  have f2:∀q,(s'.next+q=bp)=False:=fun q=>by simp;omega
  have f3:∀q,(s'.next+q=bs)=False:=fun q=>by simp;omega
  have f6:∀b,N<=b->(pb=b)=False:=fun b hb=>by simp;omega
  have f7:∀b,N<=b->(bp=b)=False:=fun b hb=>by simp;omega
  have f8:∀b,N<=b->(bs=b)=False:=fun b hb=>by simp;omega
  have f9:∀b,N<=b->(b=pb)=False:=fun b hb=>by simp;omega
  have f11:∀b,N<=b->(b=bp)=False:=fun b hb=>by simp;omega
  have f12:∀b,N<=b->(b=bs)=False:=fun b hb=>by simp;omega
  have FK:∀t:Nat,t<15\/15<t/\t<98->((15=t)=False/\∀k:Nat,98<=k->(k=t)=False):=fun t ht=>⟨by simp;omega,fun k hk=>by simp;omega⟩
  have key:∀(E:Env) (S:St),(∀t:Nat,t<15\/15<t/\t<98->Env.get E t=Env.get e' t)->Env.get E 98=.int .i64 ((i+1:Nat):Int) ->
    S.get pb=some (.cells [.sl (s'.next+21) 0 (p'.list.length+1) none 1,.sl bp 0 n (some n) 1,.sl bs 0 n (some n) 1,.sl b1 0 p'.bg.length none 1,ve,.sl b3 0 p'.mr.length none 1] 261 false 0 0) ->
    S.get bp=some (.cells (ZA (p'.place.set u p'.list.length)) 3 false 0 0)->S.get bs=some (.cells (ZA (p'.set.set u K)) 3 false 0 0)->S.get (s'.next+21)=some (.cells (ZA (p'.list++[u])) 3 false 0 0) ->
    (∀j,j<s'.next->j≠pb->j≠bp->j≠bs->¬Xi aM j->S.get j=s'.get j)->s'.next+21<S.next->Fr S->Zu (SC U fin (.bk 6::ks) Lp E S):=by
   intro E S k1 k2 k3 k4 k5 k6 k7 k8 k9;refine IH (i+1) _ _ (by omega) ⟨by omega,fun t ht=>(k1 t ht).trans (hold t ht),k2,fun j h1 h2 h3 h4=>(k7 j (by omega) h2 h3 h4 fun h=>by have:=hl.lt h;omega).trans (hs j h1 h2 h3 h4),by omega,k9,{ list:=p'.list++[u],place:=p'.place.set u p'.list.length,set:=p'.set.set u K,bg:=p'.bg,en:=p'.en,mr:=p'.mr },.sl (s'.next+21) 0 (p'.list.length+1) none 1,⟨k3,k4,k5,(k7 b1 c2 (by omega) (by omega) (by omega) fun h=>(dl _ h).1 rfl).trans gb1,(k7 b3 c4 (by omega) (by omega) (by omega) fun h=>(dl _ h).2.1 rfl).trans gm,.inr ⟨s'.next+21,by simp,k6,by omega,k8⟩,he.keep (by omega) fun j h1 h2 h3=>k7 j h1 (by omega) (by omega) (by omega) fun h=>(dl _ h).2.2 h3,⟨c1,by omega,c3,by omega,c5⟩,fun j hj=>?_,de,⟨d1,d2,d3,d4,d5,d6,by omega⟩,by rw[aj0];exact lp,by rw[aj0];exact ls⟩,qy,by simp[hlen];omega⟩;rw[Yu] at hj;subst hj;refine⟨by omega,by omega,fun h=>?_⟩;have:=he.lt h;omega
  rcases hl with⟨rfl,hl⟩|⟨bl,rfl,hg,e1,e2⟩
  ·rw[hl] at key;rw[hl,List.length_nil] at y1;have y1:lay u [.int .i64 0] (ZA p'.place)=some (ZA (p'.place.set u 0)):=y1;simp only[go_sem,L4,q3,pV,q96,q97,q98,Z9,hd,hw,afG,o1,g,gp,gs,u1,y1,y2,ajj,z1,z2,z3,z4,ZD,Nat.reducePow,ajB,vq,pY,Wq,ajr,ajf,f1,f2,f3];refine key _ _ (fun t ht=>?_) ?_ ?_ ?_ ?_ ?_ (fun j h1 h2 h3 h4 h5=>?_) ?_ ?_
   ·obtain⟨jl,n98⟩:=FK t ht;simp only[go_sem,jl,n98]
   ·simp only[go_sem]
   ·simp only[go_sem]
   ·simp only[go_sem,eq_false d4,f1,f2,f3,ajf,z4]
   ·simp only[go_sem,eq_false d5,f1,f2,f3,ajf]
   ·simp only[go_sem,(fun q=>f9 (s'.next+q) (by omega):∀q,(s'.next+q=pb)=False),ajf,Nat.reduceAdd,(fun q=>f6 (s'.next+q) (by omega):∀q,(pb=s'.next+q)=False)];rfl
   ·have e0:∀q,(s'.next+q=j)=False:=fun q=>by simp;omega
    simp only[Z0,ZY,Z_,Z',ZV,ZH,ajf,Nat.reduceAdd,e0,eq_false h2.symm,eq_false h3.symm,eq_false h4.symm,if_false]
   ·simp only[Z_,Z',ZV];omega
   ·repeat first|exact UB|apply Fr.new|apply Fr.put|apply Fr.upto
    all_goals try simp only[Z_,Z',ZV]
    all_goals omega
  ·have a1:=fun (S:St) (h:S.get bl=some (.cells (ZA p'.list) 3 false 0 0))=>BG rfl h u
   have f10:∀q,(s'.next+q=bl)=False:=fun q=>by simp;omega
   simp only[go_sem,L4,q3,pV,q96,q97,q98,Z9,hd,hw,afG,o1,g,gp,gs,u1,y1,y2,ajj,z1,z2,z3,z4,ZD,Nat.reducePow,ajB,Un,VD,ajf,f1,f2,f3,f6,f7,f8,f9,f10,e1,hg,a1];refine key _ _ (fun t ht=>?_) ?_ ?_ ?_ ?_ ?_ (fun j h1 h2 h3 h4 h5=>?_) ?_ ?_
   ·obtain⟨jl,n98⟩:=FK t ht;simp only[go_sem,jl,n98]
   ·simp only[go_sem]
   ·simp only[go_sem]
   ·simp only[go_sem,eq_false d4,f1,f2,f3,f6,f7,f8,f9,f11,f12,e1,z2,z4,ajf]
   ·simp only[go_sem,eq_false d5,f1,f2,f3,f6,f7,f8,f9,f11,f12,e1,z2,z4,ajf]
   ·simp only[go_sem,(fun q=>f9 (s'.next+q) (by omega):∀q,(s'.next+q=pb)=False),ajf,Nat.reduceAdd,(fun q=>f6 (s'.next+q) (by omega):∀q,(pb=s'.next+q)=False)]
   ·have e0:∀q,(s'.next+q=j)=False:=fun q=>by simp;omega
    rw[Yu] at h5;simp only[Z0,ZY,Z_,Z',ZV,ZH,ajf,Nat.reduceAdd,e0,eq_false h2.symm,eq_false h3.symm,eq_false h4.symm,eq_false h5,if_false]
   ·simp only[Z_,Z',ZV];omega
   ·repeat first|exact UB|apply Fr.new|apply Fr.put|apply Fr.upto
    all_goals try simp only[Z_,Z',ZV]
    all_goals omega
 ·have:i=G.length:=by omega
  subst this;rw[ajy,WH] at qy;subst qy;simp only[go_sem,L4,q97,q98,Z9,ajp];refine hk _ _ aM (fun t ht=>?_) M' hs UL UB;have Zv:∀k:Nat,98<=k->(k=t)=False:=fun k hk=>by simp;omega
  simp only[go_sem,Zv];exact hold t ht
def BO (s:St)(pb n bp bs N:Nat)(p:Pt):Prop :=
 (p=⟨[],p.place,p.set,[],[],[]⟩/\s.get pb=some (.cells [.ZM,.sl bp 0 n (some n) 1,.sl bs 0 n (some n) 1,.ZM,.ZM,.ZM] 261 false 0 0)/\s.get bp=some (.cells (ZA p.place) 3 false 0 0)/\s.get bs=some (.cells (ZA p.set) 3 false 0 0)) \/
 ∃bl bb be bm,M9 s pb n bl bp bs bb be bm p/\N<=bl/\N<=bb/\N<=be/\N<=bm
theorem acJ {β:Type}{fin:Fl->β}{ks:List K}{Zu:β->Prop}{pb n bp bs N:Nat}{p:Pt}{e:Env}{s:St}(hn:n<=2^19)(Tz:p.place.length=n)(cU:p.set.length=n)(hbg:p.bg.length<=2^20)(hmr:p.mr.length<=2^20)(g3:Env.get e 3=.ptr pb 0)
  (lo:pb<N/\bp<N/\bs<N/\pb≠bp/\pb≠bs/\bp≠bs/\N<=s.next)(h:BO s pb n bp bs N p)(fr:Fr s)
  (hk:∀e' s' vl ve b1 b3,(∀t:Nat,t<71->Env.get e' t=Env.get e t)->nI s' pb n bp bs N { p with bg:=p.bg++[p.list.length],mr:=p.mr++[0] } vl ve b1 b3->(∀j,j<N->j≠pb->s'.get j=s.get j)->s.next<=s'.next->Fr s'->Zu (goN U fin ks e' s')) :
  Zu (go U fin ks (.raw xq) e s):=by
 obtain⟨d1,d2,d3,d4,d5,d6,d7⟩:=lo;rw[UZ aaM];have LC:=fr.at;have FK:∀t:Nat,t<71->(∀k:Nat,71<=k->(k=t)=False):=fun t ht=>fun k hk=>by simp;omega
 have f1:∀q,(s.next+q=pb)=False:=fun q=>by simp;omega
 have f2:∀q,(s.next+q=bp)=False:=fun q=>by simp;omega
 have f3:∀q,(s.next+q=bs)=False:=fun q=>by simp;omega
 have f6:∀b,N<=b->(pb=b)=False:=fun b hb=>by simp;omega
 have f9:∀b,N<=b->(b=pb)=False:=fun b hb=>by simp;omega
 have Q5:∀j q,j<s.next->(j=s.next+q)=False:=fun j q hj=>by simp;omega
 have Tp:∀j q,j<s.next->(s.next+q=j)=False:=fun j q hj=>by simp;omega
 have ji:pb<s.next:=by omega
 have DU:∀q,q≠0->(s.next+q=s.next)=False:=fun q hq=>by simp;omega
 have DT:∀q,q≠0->(s.next=s.next+q)=False:=fun q hq=>by simp;omega
 have key:∀(E:Env) (S:St) (vl ve:AV) (b1 b3:Nat),(∀t:Nat,t<71->Env.get E t=Env.get e t) ->
   S.get pb=some (.cells [vl,.sl bp 0 n (some n) 1,.sl bs 0 n (some n) 1,.sl b1 0 (p.bg.length+1) none 1,ve,.sl b3 0 (p.mr.length+1) none 1] 261 false 0 0) ->
   S.get b1=some (.cells (ZA (p.bg++[p.list.length])) 3 false 0 0)->S.get b3=some (.cells (ZA (p.mr++[0])) 3 false 0 0)->s.next<=b1->b1<b3->b3<S.next->JG s N p.list vl->JG s N p.en ve->(∀j,Xi vl j->¬Xi ve j) ->
   s.get bp=some (.cells (ZA p.place) 3 false 0 0)->s.get bs=some (.cells (ZA p.set) 3 false 0 0) ->
   (∀j,j<s.next->j≠pb->Xi vl j\/Xi ve j\/j<N->S.get j=s.get j)->Fr S->Zu (goN U fin ks E S):=by
  intro E S vl ve b1 b3 k1 k2 k3 k4 k5 k6 k7 k8 k9 zn k11 dD k13 k14;refine hk E S vl ve b1 b3 k1 ⟨?_,?_,?_,k3,k4,?_,?_,⟨by omega,by omega,by omega,k7,by omega⟩,fun j hj=>⟨?_,?_,zn j hj⟩,fun j hj=>⟨?_,?_⟩,⟨d1,d2,d3,d4,d5,d6,by omega⟩,Tz,cU⟩ (fun j h1 h2=>k13 j (by omega) h2 (.inr (.inr h1))) (by omega) k14
  ·rw[k2];simp only[ajh,ajR]
  ·exact (k13 bp (by omega) d4.symm (.inr (.inr d2))).trans k11
  ·exact (k13 bs (by omega) d5.symm (.inr (.inr d3))).trans dD
  ·exact k8.keep (by omega) fun j h1 h2 h3=>k13 j h1 (by omega) (.inl h3)
  ·exact k9.keep (by omega) fun j h1 h2 h3=>k13 j h1 (by omega) (.inr (.inl h3))
  ·have:=k8.lt hj;omega
  ·have:=k8.lt hj;omega
  ·have:=k9.lt hj;omega
  ·have:=k9.lt hj;omega
 rcases h with⟨hp,g,gp,gs⟩|⟨bl,bb,be,bm,P,n1,n2,n3,n4⟩
 ·obtain⟨L,pl,st,bg,en,mr⟩:=p;simp only[Pt.mk.injEq] at hp;obtain⟨rfl,-,-,rfl,rfl,rfl⟩:=hp;simp only[go_sem,g3,g,Wq,ZD,ajj,ajB,Nat.reducePow,ajr,ajf,LC,f1,List.length_nil,ajP,Q5,Tp,DU,DT,Option.isNone_none];refine key _ _ .ZM .ZM (s.next+25) (s.next+26) (fun t ht=>?_) ?_ ?_ ?_ (by omega) (by omega) ?_ (.inl ⟨rfl,rfl⟩) (.inl ⟨rfl,rfl⟩) (fun j h=>absurd h (Ws j)) gp gs (fun j h1 h2 _=>?_) ?_
  ·have Zv:=FK t ht;simp only[go_sem,Zv]
  ·simp only[go_sem,f1,g,ajf]
  ·simp[go_sem,ji,f9,f6,d7,Q5,Tp,DU,DT,ajf];rfl
  ·simp[go_sem,ji,f9,f6,d7,Q5,Tp,DU,DT,ajf];rfl
  ·simp only[Z_,Z',ZV];omega
  ·have e0:∀q,(s.next+q=j)=False:=fun q=>by simp;omega
   simp only[Z0,ZY,Z_,Z',ZV,ZH,ajf,Nat.reduceAdd,e0,eq_false h2.symm,if_false]
  ·repeat first|exact fr|apply Fr.new|apply Fr.put|apply Fr.upto
   all_goals try simp only[Z_,Z',ZV]
   all_goals omega
 ·obtain⟨g,gl,gp,gs,gb,ge,gm,ne,lt⟩:=P;have A:=Ap.of ne;have gJ:=lt bl (by simp);have gI:=lt bb (by simp);have lt6:=lt be (by simp);have gH:=lt bm (by simp);have a1:=fun (S:St) (h:S.get bb=some (.cells (ZA p.bg) 3 false 0 0))=>xH rfl h p.list.length
  have a3:=fun (S:St) (h:S.get bm=some (.cells (ZA p.mr) 3 false 0 0))=>kC rfl h
  have Un:(p.bg.length+1)*8<=1099511627776:=by omega
  have VD:p.bg.length+1<=1099511627776:=by omega
  have vq:(p.mr.length+1)*8<=1099511627776:=by omega
  have pY:p.mr.length+1<=1099511627776:=by omega
  have z1:(bb=pb)=False:=eq_false A.n4.symm;have z2:(bm=pb)=False:=eq_false A.n6.symm;have z3:(bb=bm)=False:=eq_false A.db;have z4:(pb=bb)=False:=eq_false A.n4;have z5:(pb=bm)=False:=eq_false A.n6;have z6:(bm=bb)=False:=eq_false A.db.symm;simp only[go_sem,g3,g,gb,gm,ZD,ajj,ajB,Nat.reducePow,ajr,ajf,LC,f1,a1,a3,Un,VD,vq,pY,z1,z2,z3,z4,z5,z6,Q5,Tp,DU,DT,gI,gH,Option.isNone_none];refine key _ _ (.sl bl 0 p.list.length none 1) (.sl be 0 p.en.length none 1) (s.next+25) (s.next+26) (fun t ht=>?_) ?_ ?_ ?_ (by omega) (by omega) ?_ (.inr ⟨bl,rfl,gl,n1,gJ⟩) (.inr ⟨be,rfl,ge,n3,lt6⟩) (fun j h=>?_) gp gs (fun j h1 h2 h3=>?_) ?_
  ·have Zv:=FK t ht;simp only[go_sem,Zv]
  ·rw[Tz,cU];simp only[go_sem]
  ·simp[go_sem,ji,f9,f6,d7,Q5,Tp,DU,DT,gI,gH,ajf]
  ·simp[go_sem,ji,f9,f6,d7,Q5,Tp,DU,DT,gI,gH,ajf]
  ·simp only[Z_,Z',ZV];omega
  ·rw[Yu] at h ⊢;subst h;exact A.jm.symm
  ·have e0:∀q,(s.next+q=j)=False:=fun q=>by simp;omega
   have e1:(bb=j)=False:=by
    simp only[eq_iff_iff,iff_false];rintro rfl;rw[Yu,Yu] at h3;have:=A.n9;have:=A.n19;omega
   have e2:(bm=j)=False:=by
    simp only[eq_iff_iff,iff_false];rintro rfl;rw[Yu,Yu] at h3;have:=A.r_;have:=A.n21;omega
   simp only[Z0,ZY,Z_,Z',ZV,ZH,ajf,Nat.reduceAdd,e0,e1,e2,eq_false h2.symm,if_false]
  ·repeat first|exact fr|apply Fr.new|apply Fr.put|apply Fr.upto
   all_goals try simp only[Z_,Z',ZV]
   all_goals omega
theorem Iy (c:Nat)(x y z:List Nat):∀(l:List Nat) (p:Pt),WH c l { p with bg:=x,mr:=y,en:=z }={ WH c l p with bg:=x,mr:=y,en:=z }
 |[],_=>rfl
 |u::l,p=>by
  rw[WH,WH];exact Iy c x y z l { p with place:=p.place.set u p.list.length,set:=p.set.set u c,list:=p.list++[u] }
def dE:RC:=(.Sf 15 [⟨some 131,none,none,false,.Qb (.t 3)⟩,
 ⟨some 132,none,none,false,.Qb (.t 3)⟩,
 ⟨some 133,none,none,false,.raw (.nilCheck (.tmp 132))⟩,
 ⟨some 134,none,none,false,.fa 4 (.t 133)⟩,
 ⟨some 135,none,none,false,.TB (.t 134)⟩,
 ⟨some 136,none,none,false,.Qb (.t 3)⟩,
 ⟨some 137,none,none,false,.raw (.nilCheck (.tmp 136))⟩,
 ⟨some 138,none,none,false,.fa 0 (.t 137)⟩,
 ⟨some 139,none,none,false,.TB (.t 138)⟩,
 ⟨some 140,none,none,false,.TK (.t 139)⟩,
 ⟨some 141,none,some 10,false,.SE 3 1 1 [(.int .i64 0)] [(0,1,(.t 140))]⟩,
 ⟨some 142,none,none,true,.app 3 1 8 (.t 135) (.t 141)⟩,
 ⟨some 143,none,none,false,.raw (.nilCheck (.tmp 131))⟩,
 ⟨some 144,none,none,false,.fa 4 (.t 143)⟩,
 ⟨none,none,none,true,.st 1 (.t 144) (.t 142)⟩])
theorem acL {β:Type}{fin:Fl->β}{ks:List K}{Zu:β->Prop}{pb n bp bs N b1 b3:Nat}{p:Pt}{vl ve:AV}{e:Env}{s:St}(hn:n<=2^19)(gF:p.list≠[])(hen:p.en.length<=2^20)(g3:Env.get e 3=.ptr pb 0)(M:nI s pb n bp bs N p vl ve b1 b3)(fr:Fr s)
  (hk:∀e' s',(∀t:Nat,t<131->Env.get e' t=Env.get e t)->BO s' pb n bp bs N { p with en:=p.en++[p.list.length] }->(∀j,j<N->j≠pb->s'.get j=s.get j)->s.next<=s'.next->Fr s'->Zu (goN U fin ks e' s')) :
  Zu (go U fin ks dE e s):=by
 obtain⟨g,gp,gs,gb1,gm,hl,he,⟨c1,c2,c3,c4,c5⟩,dl,de,⟨d1,d2,d3,d4,d5,d6,d7⟩,lp,ls⟩:=M;have FK:∀t:Nat,t<131->(∀k:Nat,131<=k->(k=t)=False):=fun t ht=>fun k hk=>by simp;omega
 have ji:pb<s.next:=by omega
 have LC:=fr.at;have Q5:∀j q,j<s.next->(j=s.next+q)=False:=fun j q hj=>by simp;omega
 have Tp:∀j q,j<s.next->(s.next+q=j)=False:=fun j q hj=>by simp;omega
 have f1:∀q,(s.next+q=pb)=False:=fun q=>by simp;omega
 obtain⟨bl,rfl,hg,e1,e2⟩:∃b,vl=.sl b 0 p.list.length none 1/\s.get b=some (.cells (ZA p.list) 3 false 0 0)/\N<=b/\b<s.next:=by
  rcases hl with⟨_,h⟩|h
  ·exact absurd h gF
  ·exact h
 obtain⟨x1,x2,x3⟩:=dl bl ((Yu _ _ _).2 rfl);have key:∀(E:Env) (S:St) (be:Nat),(∀t:Nat,t<131->Env.get E t=Env.get e t) ->
   S.get pb=some (.cells [.sl bl 0 p.list.length none 1,.sl bp 0 n (some n) 1,.sl bs 0 n (some n) 1,.sl b1 0 p.bg.length none 1,.sl be 0 (p.en.length+1) none 1,.sl b3 0 p.mr.length none 1] 261 false 0 0) ->
   S.get be=some (.cells (ZA (p.en++[p.list.length])) 3 false 0 0)->s.next<=be->be<S.next ->
   (∀j,j<s.next->j≠pb->¬Xi ve j->S.get j=s.get j)->Fr S->Zu (goN U fin ks E S):=by
  intro E S be k1 k2 k3 k4 k5 k6 k7;have hve:∀j,j<N->¬Xi ve j:=fun j hj h=>by have:=he.lt h;omega
  refine hk E S k1 (.inr ⟨bl,b1,be,b3,⟨?_,?_,?_,?_,?_,k3,?_,?_,?_⟩,e1,c1,by omega,c3⟩) (fun j h1 h2=>k6 j (by omega) h2 (hve j h1)) (by omega) k7
  ·simp only[k2,lp,ls,ajh,ajR]
  ·exact (k6 bl e2 (by omega) x3).trans hg
  ·exact (k6 bp (by omega) (by omega) (hve bp d2)).trans gp
  ·exact (k6 bs (by omega) (by omega) (hve bs d3)).trans gs
  ·exact (k6 b1 c2 (by omega) fun h=>(de _ h).1 rfl).trans gb1
  ·exact (k6 b3 c4 (by omega) fun h=>(de _ h).2 rfl).trans gm
  ·simp only[aj8,ajo,List.not_mem_nil,not_or,or_false,List.nodup_nil,and_true,not_false_eq_true];refine⟨⟨?_,d4,d5,?_,?_,?_⟩,⟨?_,?_,x1,?_,x2⟩,⟨d6,?_,?_,?_⟩,⟨?_,?_,?_⟩,⟨?_,?_⟩,?_⟩ <;> omega
  ·intro j hj;simp only[ajo,List.not_mem_nil,or_false] at hj;rcases hj with rfl|rfl|rfl|rfl|rfl|rfl|rfl <;> omega
 rcases he with⟨rfl,hh⟩|⟨be,rfl,Gu,e3,e4⟩
 ·have Un:(0+1)*8<=1099511627776:=by omega
  simp only[go_sem,dE,g3,g,ZD,Wq,ajj,ajB,Nat.reducePow,ajr,ajf,LC,f1,Q5,Tp,ji,Option.isNone_none];refine key _ _ (s.next+15) (fun t ht=>?_) ?_ ?_ (by omega) ?_ (fun j h1 h2 h3=>?_) ?_
  ·have Zv:=FK t ht;simp only[go_sem,Zv]
  ·simp only[go_sem,hh]
  ·rw[hh];simp[go_sem,Q5,Tp,ji,ajf];rfl
  ·simp only[Z_,Z',ZV];omega
  ·have e0:∀q,(s.next+q=j)=False:=fun q=>by simp;omega
   simp only[Z0,ZY,Z_,Z',ZV,ZH,ajf,Nat.reduceAdd,e0,eq_false h2.symm,if_false]
  ·repeat first|exact fr|apply Fr.new|apply Fr.put|apply Fr.upto
   all_goals try simp only[Z_,Z',ZV]
   all_goals omega
 ·have Un:(p.en.length+1)*8<=1099511627776:=by omega
  have VD:p.en.length+1<=1099511627776:=by omega
  have a1:=fun (S:St) (h:S.get be=some (.cells (ZA p.en) 3 false 0 0))=>xH rfl h p.list.length
  have z1:(be=pb)=False:=by simp;omega
  have z2:(pb=be)=False:=by simp;omega
  simp only[go_sem,dE,g3,g,ZD,a1,Gu,ajj,ajB,Nat.reducePow,ajr,ajf,LC,f1,Q5,Tp,ji,e4,Un,VD,z1,z2,Option.isNone_none];refine key _ _ (s.next+15) (fun t ht=>?_) ?_ ?_ (by omega) ?_ (fun j h1 h2 h3=>?_) ?_
  ·have Zv:=FK t ht;simp only[go_sem,Zv]
  ·simp only[go_sem]
  ·simp[go_sem,Q5,Tp,ji,e4,ajf]
  ·simp only[Z_,Z',ZV];omega
  ·have e0:∀q,(s.next+q=j)=False:=fun q=>by simp;omega
   rw[Yu] at h3;simp only[Z0,ZY,Z_,Z',ZV,ZH,ajf,Nat.reduceAdd,e0,eq_false h2.symm,eq_false h3,if_false]
  ·repeat first|exact fr|apply Fr.new|apply Fr.put|apply Fr.upto
   all_goals try simp only[Z_,Z',ZV]
   all_goals omega
theorem IB (c:Nat):∀(l:List Nat) (p:Pt),(WH c l p).list=p.list++l
 |[],p=>by simp[WH]
 |u::l,p=>by rw[WH,IB c l];simp
theorem IA (c:Nat):∀(l:List Nat) (p:Pt),(WH c l p).bg=p.bg/\(WH c l p).en=p.en/\(WH c l p).mr=p.mr/\(WH c l p).place.length=p.place.length/\(WH c l p).set.length=p.set.length
 |[],p=>by simp[WH]
 |u::l,p=>by
  have ih:=IA c l { p with place:=p.place.set u p.list.length,set:=p.set.set u c,list:=p.list++[u] };rw[WH]
  simpa using ih
theorem acI {β:Type}{fin:Fl->β}{ks:List K}{Zu:β->Prop}{κ:Nat->X6}{pb n bp bs m N:Nat}{bl:List Nat}{vo:AV}{e:Env}{s:St}{p:Pt}(hn:n<=2^9)(g3:Env.get e 3=.ptr pb 0)(g4:Env.get e 4=.map m)(g64:Env.get e 64=vo)(g65:Env.get e 65=.int .i64 (YC κ n).length)(g66:Env.get e 66=.int .i64 (0:Nat))
  (G:Grp s m κ n bl vo)(lo:pb<m/\bp<m/\bs<m/\pb≠bp/\pb≠bs/\bp≠bs/\m<s.next)
  (hp:p=⟨[],List.replicate n 0,List.replicate n 0,[],[],[]⟩)(h:BO s pb n bp bs s.next p)(fr:Fr s)
  (hk:∀e' s',(∀t:Nat,t<12->Env.get e' t=Env.get e t)->BO s' pb n bp bs s.next (Wx κ n)->(∀j,j<m->j≠pb->j≠bp->j≠bs->s'.get j=s.get j)->s.next<=s'.next->Fr s'->Zu (goN U fin ks e' s')) :
  Zu (SC U fin (.bk 4::ks) JH e s):=by
 have vJ:=Iz κ n;obtain⟨d1,d2,d3,d4,d5,d6,d7⟩:=lo;refine YG (σ:=Nat) (fun i=>(YC κ n).length-i) (fun i e' s'=>i<=(YC κ n).length/\(∀t:Nat,t<12\/15<t/\t<66->Env.get e' t=Env.get e t)/\Env.get e' 66=.int .i64 (i:Nat)/\(∀j,j<s.next->j≠pb->j≠bp->j≠bs->s'.get j=s.get j)/\s.next<=s'.next/\Fr s' /\
   ∃p',BO s' pb n bp bs s.next p'/\Fp κ n ((YC κ n).drop i) p'=Wx κ n/\p'.place.length=n/\p'.set.length=n/\p'.bg.length=i/\p'.mr.length=i/\p'.en.length=i/\p'.list.length<=i*n) 0 ?_
  ⟨aji _,fun _ _=>rfl,g66,fun _ _ _ _ _=>rfl,ajg _,fr,p,h,by rw[hp];rfl,by rw[hp];simp,by rw[hp];simp,by rw[hp];rfl,by rw[hp];rfl,by rw[hp];rfl,by rw[hp];simp⟩
 rintro Lp i e' s' ⟨hi,hold,q66,hs,UL,UB,p',P,BN,w1,w2,w3,w4,w5,w6⟩ IH;have q3:=(hold 3 (by omega)).trans g3;have q4:=(hold 4 (by omega)).trans g4;have q64:=(hold 64 (by omega)).trans g64;have q65:=(hold 65 (by omega)).trans g65;by_cases hd:i<(YC κ n).length
 ·obtain⟨Gm,yA,Gnd,yz,ik⟩:=G;have hw:=ZE hd (by omega);obtain⟨bo,rfl,ho,e1,e2⟩:∃b,vo=.sl b 0 (YC κ n).length none 1/\s.get b=some (.cells (strs (YC κ n)) 9 false 0 0)/\m+1<=b/\b<s.next:=by
   rcases ik with⟨h,_,_⟩|⟨_,_,b,h1,h2,h3,h4⟩
   ·omega
   ·exact⟨b,h3,h4,h1,h2⟩
  have VL:=(hs bo e2 (by omega) (by omega) (by omega)).trans ho;have o1:(strs (YC κ n))[i]? = some (.str (YC κ n)[i]):=by unfold strs;rw[ajv,aaa hd];rfl
  have hib:i<bl.length:=by omega
  obtain⟨b1,b2,b3⟩:=yz i hib hd;have hex:∃u,u<n/\κ u=(YC κ n)[i]:=(TV κ _ n).1 (ajc hd);have hgl:=vw κ (YC κ n)[i] n;have Dr:(S2 κ (YC κ n)[i] n)≠[]:=by
   obtain⟨u,h1,h2⟩:=hex;exact List.ne_nil_of_mem ((QN κ _ n u).2 ⟨h1,h2⟩)
  have Gu:=Dq (len:=fun k=>(S2 κ k n).length) (bs:=bl) (QM κ n) yA hd;have lk:=fun (S:St) (h:S.get m=some (.map (zg (TG (fun k=>(S2 κ k n).length) (YC κ n) bl)) false))=>Fo h (YC κ n)[i]
  rw[Gu] at lk;simp only[akk] at lk;rw[abc hd,Fp] at BN;have hmul:i*n<=2^9*2^9:=Nat.mul_le_mul (by omega) hn;simp only[go_sem,JH,q64,q65,q66,Z9,hd,VL,o1,ajj];refine acJ (p:=p') (s:=s') (by omega) w1 w2 (by omega) (by omega) ?_ ⟨by omega,by omega,by omega,d4,d5,d6,UL⟩ P UB ?_
  ·simp only[go_sem,q3]
  intro oR s2 vl ve c1 c3 Og M Se Gc IV;have p3:Env.get oR 3=.ptr pb 0:=by rw[Og 3 (by omega)];simp only[go_sem,q3]
  have p4:Env.get oR 4=.map m:=by rw[Og 4 (by omega)];simp only[go_sem,q4]
  have p12:Env.get oR 12=.int .i64 (i:Nat):=by rw[Og 12 (by omega)];simp only[go_sem]
  have p13:Env.get oR 13=.str (YC κ n)[i]:=by rw[Og 13 (by omega)];simp only[go_sem]
  have um:s2.get m=some (.map (zg (TG (fun k=>(S2 κ k n).length) (YC κ n) bl)) false):=(Se m d7 (by omega)).trans ((hs m d7 (by omega) (by omega) (by omega)).trans Gm);simp only[go_sem,p4,p13,um,lk];refine acK (K:=i) (gb:=bl[i]) (G:=S2 κ (YC κ n)[i] n) (by omega) (fun u hu=>((QN _ _ _ _).1 hu).1) (by simp only;omega) (by omega) ?_ ?_ ?_ ?_ ?_ ((Se _ b2 (by omega)).trans ((hs _ b2 (by omega) (by omega) (by omega)).trans b3)) b2 ⟨by omega,by omega,by omega⟩ M IV ?_
  case refine_6 =>
   intro e3 s3 aM FM M3 yQ aL tn;have r3:Env.get e3 3=.ptr pb 0:=by rw[FM 3 (by omega)];simp only[go_sem,p3]
   rw[Iy] at M3;have hal:=IB i (S2 κ (YC κ n)[i] n) p';obtain⟨t1,t2,t3,t4,t5⟩:=IA i (S2 κ (YC κ n)[i] n) p';rw[w3] at BN;refine acL (by omega) ?_ (by simp only[w5];omega) r3 M3 tn ?_
   ·simp only[hal];intro h;exact Dr (List.append_eq_nil_iff.1 h).2
   ·intro e4 s4 h4a P4 hs4 aiU fr4;have o66:Env.get e4 66=.int .i64 (i:Nat):=by
     rw[h4a 66 (by omega),FM 66 (by omega)];simp only[go_sem];rw[Og 66 (by omega)];simp only[go_sem,q66]
    simp only[go_sem,o66,hw];refine IH (i+1) _ _ (by omega) ⟨by omega,fun t ht=>?_,?_,fun j h1 h2 h3 h4=>?_,by omega,fr4,_,P4,?_,?_,?_,?_,?_,?_,?_⟩
    ·have Zv:∀k:Nat,66<=k->(k=t)=False:=fun k hk=>by simp;omega
     simp only[go_sem,Zv];rw[h4a t (by omega),FM t (by omega)];simp only[go_sem,Zv];rw[Og t (by omega)];have af7:(12=t)=False:=by simp;omega
     have af8:(13=t)=False:=by simp;omega
     simp only[go_sem,Zv,af7,af8];exact hold t ht
    ·simp only[go_sem]
    ·rw[hs4 j h1 h2,yQ j h1 h2 h3 h4,Se j h1 h2,hs j h1 h2 h3 h4]
    ·exact BN
    ·exact t4.trans w1
    ·exact t5.trans w2
    ·simp[w3]
    ·simp[w4]
    ·simp[w5]
    ·simp only[hal,ajh,Nat.succ_mul];omega
  all_goals simp only[go_sem,p3,p12]
  all_goals rfl
 ·have:i=(YC κ n).length:=by omega
  subst this;rw[ajy,Fp] at BN;subst BN;simp only[go_sem,JH,q65,q66,Z9,ajp];refine hk _ _ (fun t ht=>?_) P (fun j h1 h2 h3 h4=>hs j (by omega) h2 h3 h4) UL UB;have Zv:∀k:Nat,66<=k->(k=t)=False:=fun k hk=>by simp;omega
  simp only[go_sem,Zv];exact hold t (by omega)
theorem mV {base i a:Nat}{e:Env}{s:St}{n:Nat}(h:Env.get e a=.int .i64 (n:Int))(hn:n<=2^20) :
  WU U base (some i) e s (.raw (.makeSlice 48 (.tmp a) (.tmp a)))=some (.sl (base+i) 0 n (some n) 1,s.put (base+i) (.cells (ZA (List.replicate n 0)) 3 false 0 0)):=by
 have h40:U.Zj 48=some (.slice 3):=by kernel_rfl
 have hz:zero U 3=some (.int .i64 0):=by kernel_rfl
 have hi:(U.inf 3).map (fun i=>(i.bytes,i.size))=some (8,1):=by kernel_rfl
 have e1:ZA (List.replicate n 0)=List.replicate n (.int .i64 0):=by simp[ZA,NU,ints]
 cases hj:U.inf 3 with
 |none=>rw[hj] at hi;cases hi
 |some j =>
  rw[hj] at hi;simp only[aki,Option.some.injEq,Prod.mk.injEq] at hi;obtain⟨h1,h2⟩:=hi;rw[e1,<-UJ];simp only[WU,sS,YK,eval,h,h40,hj,hz];rw[if_pos ⟨by omega,by omega,by rw[h1];omega,by omega,by rw[h2];rfl,by omega⟩,h2];rfl
def aaO (s0:St)(n:Nat)(p:Pt)(r:Option (AV×St)):Prop :=
 ∃s' pb bl bp bs bb be bm,r=some (.ptr pb 0,s')/\M9 s' pb n bl bp bs bb be bm p/\s0.next<=pb/\s0.next<=bl/\s0.next<=bp/\s0.next<=bs/\s0.next<=bb/\s0.next<=be/\s0.next<=bm/\s0.next<=s'.next/\Fr s'/\∀j,j<s0.next->s'.get j=s0.get j
theorem ag4 {a:YY}(ha:a.ok){s:St}(fr:Fr s):aaO s a.next.length (Wx (Zg a) a.next.length) (SH U 169 [VQ a] s):=by
 suffices hgo:aaO s a.next.length (Wx (Zg a) a.next.length) (go U (Rs U [.tmp 2]) [] aaN (Zc 0 [VQ a] .nil) s) by
  obtain⟨s',pb,bl,bp,bs,bb,be,bm,h1,h2⟩:=hgo;exact⟨s',pb,bl,bp,bs,bb,be,bm,V_ ag2 (by kernel_rfl) h1,h2⟩
 have Dr:=ha.pos;have Qg:=ha.few;have ag5:a.next.length<=2^20:=by omega
 have LC:=fr.at;have Q5:∀j q,j<s.next->(j=s.next+q)=False:=fun j q hj=>by simp;omega
 have Tp:∀j q,j<s.next->(s.next+q=j)=False:=fun j q hj=>by simp;omega
 have DU:∀q,q≠0->(s.next+q=s.next)=False:=fun q hq=>by simp;omega
 have DT:∀q,q≠0->(s.next=s.next+q)=False:=fun q hq=>by simp;omega
 have mk:=fun (base i t:Nat) (e:Env) (S:St) (h:Env.get e t=.int .i64 (a.next.length:Int))=>mV (base:=base) (i:=i) (s:=S) h ag5
 have hl:=ZJ a.TN (a.next.map Zi);rw[aje] at hl;have Qa:=ZJ a.Tc (a.ZC.map Zq);rw[aje] at Qa;have Lt:=ha.fl;rw[WT];simp only[go_sem,aaN,UZ aaL,ajf,LC,Q5,Tp,DU,DT,↓mk,U6,Xd,hl,Qa];have iP:∀x y z w v,Fr ((((((s.new x).upto (s.next+12)).put (s.next+4) y).put (s.next+8) z).put (s.next+10) w).new v):=fun x y z w v=>by
  repeat first|exact fr|apply Fr.new|apply Fr.put|apply Fr.upto
  all_goals try simp only[Z_,Z',ZV]
  all_goals omega
 refine ad_ ha (m:=s.next+12) ?_ ?_ ?_ ?_ ?_ ?_ ?_ (iP _ _ _ _ _) ?_
 case refine_8 =>
  intro e1 s1 bl vo h1a h1v G Sq ag6 gZ;have p3:Env.get e1 3=.ptr (s.next+10) 0:=by rw[h1a 3 (by omega)];simp only[go_sem]
  have p4:Env.get e1 4=.map (s.next+12):=by rw[h1a 4 (by omega)];simp only[go_sem]
  have qc:=G.row.len;simp only[Z_,Z',ZV] at ag6;have hs0:∀j,j<s.next->s1.get j=s.get j:=fun j hj=>by
   rw[Sq j (by omega)];have e0:∀q,(s.next+q=j)=False:=fun q=>by simp;omega
   have e2:(s.next=j)=False:=by simp;omega
   simp only[Z0,ZY,Z_,Z',ZV,ZH,ajf,Nat.reduceAdd,e0,e2,if_false]
  have v10:s1.get (s.next+10)=some (.cells [.ZM,.sl (s.next+4) 0 a.next.length (some a.next.length) 1,.sl (s.next+8) 0 a.next.length (some a.next.length) 1,.ZM,.ZM,.ZM] 261 false 0 0):=by
   rw[Sq _ (by omega)];simp[go_sem]
  have v4:s1.get (s.next+4)=some (.cells (ZA (List.replicate a.next.length 0)) 3 false 0 0):=by
   rw[Sq _ (by omega)];simp[go_sem]
  have v8:s1.get (s.next+8)=some (.cells (ZA (List.replicate a.next.length 0)) 3 false 0 0):=by
   rw[Sq _ (by omega)];simp[go_sem]
  simp only[go_sem,h1v,qc];refine acI (Zu:=aaO s a.next.length (Wx (Zg a) a.next.length)) (pb:=s.next+10) (bp:=s.next+4) (bs:=s.next+8) (m:=s.next+12) (N:=0) (p:=⟨[],List.replicate a.next.length 0,List.replicate a.next.length 0,[],[],[]⟩) (by omega) ?_ ?_ ?_ ?_ ?_ G ⟨by omega,by omega,by omega,by omega,by omega,by omega,by omega⟩ rfl (.inl ⟨rfl,v10,v4,v8⟩) gZ ?_
  case refine_6 =>
   intro e2 s2 Og P Se Gc IV;have p3:Env.get e2 3=.ptr (s.next+10) 0:=by rw[Og 3 (by omega)];simp only[go_sem,p3]
   simp only[go_sem,p3];rcases P with⟨hP,_⟩|⟨c1,c2,c3,c4,Q,n1,n2,n3,n4⟩
   ·have:=(AA (Zg a) a.next.length).st 0 Dr ((TV _ _ _).2 ⟨0,Dr,rfl⟩);rw[hP] at this;have:=this.1;simp at this
   ·exact⟨s2,s.next+10,c1,s.next+4,s.next+8,c2,c3,c4,rfl,Q,by omega,by omega,by omega,by omega,by omega,by omega,by omega,by omega,IV,fun j hj=>by rw[Se j (by omega) (by omega) (by omega) (by omega),hs0 j hj]⟩
  all_goals simp only[go_sem,p3,p4,h1v]
  all_goals rfl
 all_goals try simp only[Z_,Z',ZV]
 all_goals try simp[go_sem]
theorem aeI (args:List AV)(s:St):XR U (Zw U 170 args) 170 args s=SH U 170 args s:=(XL U 170 args s).symm
theorem LK:∀(k f:Nat) (l:List AV),f+k<=l.length->XE k f l=some ((l.drop f).take k)
 |0,f,l,_=>by rw[Lq];simp
 |k+1,f,[],h=>by simp at h
 |k+1,0,x::l,h=>by
  rw[Lr,LK k 0 l (by simp at h ⊢;omega)];rfl
 |k+1,f+1,x::l,h=>by
  rw[Es,LK (k+1) f l (by simp at h ⊢;omega)];rfl
theorem qv (L:List Nat)(f k:Nat):((ZA L).drop f).take k=ZA ((L.drop f).take k):=by
 unfold ZA NU ints;simp only[List.map_drop,List.map_take]
theorem TU {t:TypeId}{n m:Nat}{new:List AV}{b len k:Nat}{s:St}{cs:List AV}{lo hi:Nat}(hg:s.get b=some (.cells cs t false lo hi))(hl:cs.length=len*n)(hk:¬len+m<=k) :
  QE t n m new (.sl b 0 len (some k) n) s=some (.sl s.next 0 (len+m) none n,s.new (.cells (cs++new) t false 0 0)):=by
 simp only[QE,St.cells,hg];rw[<-hl,Wi];simp only;rw[if_neg hk]
theorem afr (b o l z:Nat)(c:Option Nat):WO U .eql 48 true (.sl b o l c z) .ZM=some (.bool false):=by
 have h:U.Zj 48=some (.slice 3):=by kernel_rfl
 simp only[WO,ET,yG,h]
theorem ahE {s:St}{b f k:Nat}{cap:Option Nat}{L:List Nat}(hg:s.get b=some (.cells (ZA L) 3 false 0 0))(hb:b<s.next)(hf:f+k<=L.length)(hk:0<k)(hL:L.length<=2^20) :
  SH U 170 [.sl b f k cap 1] s=some (.sl (s.next+1) 0 k none 1,(s.new (.cells [] 3 false 0 0)).new (.cells (ZA ((L.drop f).take k)) 3 false 0 0)):=by
 refine V_ ahA (by kernel_rfl) ?_;have hgr:XE k f (ZA L)=some (ZA ((L.drop f).take k)):=by rw[LK _ _ _ (by rw[U'];omega),qv]
 have hsr:∀S:St,S.get b=some (.cells (ZA L) 3 false 0 0)->WV 1 (.sl b f k cap 1) S=some (k,ZA ((L.drop f).take k)):=fun S h=>by
  rw[KY,ajj,h];simp only[eA,cellsOf,hgr,kI]
 have hl:(ZA ((L.drop f).take k)).length=k*1:=by rw[U'];simp;omega
 have hap:∀S:St,S.get s.next=some (.cells [] 3 false 0 0)->JW 3 1 8 (.sl s.next 0 0 (some 0) 1) (some (k,ZA ((L.drop f).take k))) S=some (.sl S.next 0 (0+k) none 1,S.new (.cells ([]++ZA ((L.drop f).take k)) 3 false 0 0)):=fun S h=>by
  rw[ZD hl (by simp only[QB];omega) (by simp only[QB];omega) (by omega),TU h rfl (by omega)]
 have z:(s.next=b)=False:=by simp;omega
 simp only[go_sem,aeE,afr,hg,hsr,hap,z,ajr,ajP]
def OO (s:St)(N:Nat)(L:List Nat)(v:AV):Prop:=(v=.ZM/\L=[])\/∃b R,v=.sl b 0 L.length none 1/\s.get b=some (.cells (ZA (L++R)) 3 false 0 0)/\N<=b/\b<s.next
theorem OO.keep {s s':St}{N:Nat}{L:List Nat}{v:AV}(h:OO s N L v)(hn:s.next<=s'.next)(hg:∀j,j<s.next->N<=j->Xi v j->s'.get j=s.get j):OO s' N L v:=by
 rcases h with h|⟨b,R,h1,h2,h3,h4⟩
 ·exact .inl h
 ·exact .inr ⟨b,R,h1,by rw[hg b h4 h3 ⟨_,h1⟩];exact h2,h3,by omega⟩
theorem OO.lt {s:St}{N:Nat}{L:List Nat}{v:AV}(h:OO s N L v){j:Nat}(hj:Xi v j):N<=j/\j<s.next:=by
 rcases h with⟨h,_⟩|⟨b,R,h1,h2,h3,h4⟩
 ·rw[h] at hj;exact absurd hj (Ws j)
 ·rw[h1,Yu] at hj;subst hj;exact⟨h3,h4⟩
theorem OO.Xg {s:St}{N:Nat}{L:List Nat}{v:AV}(h:OO s N L v):Go.Am.Xg v=L.length:=by
 rcases h with⟨rfl,rfl⟩|⟨b,R,rfl,h2,h3,h4⟩ <;> rfl
theorem OO.TK {s:St}{N:Nat}{L:List Nat}{v:AV}(h:OO s N L v):SZ v=some (.int .i64 L.length):=by
 rcases h with⟨rfl,rfl⟩|⟨b,R,rfl,h2,h3,h4⟩ <;> rfl
theorem OO.app {s:St}{N:Nat}{L:List Nat}{v:AV}(h:OO s N L v)(hN:N<=s.next)(k:Nat) :
  ∃s1,QE 3 1 1 [.int .i64 (k:Int)] v s=some (.sl s.next 0 (L.length+1) none 1,s1)/\s1.next=s.next+1/\OO s1 N (L++[k]) (.sl s.next 0 (L.length+1) none 1)/\(∀j,j<s.next->¬Xi v j->s1.get j=s.get j)/\(Fr s->Fr s1):=by
 rcases h with⟨rfl,rfl⟩|⟨b,R,rfl,h2,h3,h4⟩
 ·refine⟨_,Wq _ _ _ _ _,rfl,.inr ⟨s.next,[],rfl,?_,hN,by rw[Z'];omega⟩,fun j hj _=>by rw[ZY,if_neg (by omega)],fun hf=>hf.new _⟩;rw[ZY,if_pos rfl];rfl
 ·have e:(ZA (L++R)).take (L.length*1)=ZA L:=by
   unfold ZA NU ints;rw[ajA,ajA,ajj,List.take_left' (by simp)]
  refine⟨(s.put b .gone).new (.cells (ZA (L++[k])) 3 false 0 0),?_,rfl,.inr ⟨s.next,[],by simp,?_,hN,by rw[Z',Z_];omega⟩,fun j hj hb=>?_,fun hf=>(hf.put h4 _).new _⟩
  ·rw[Tg,h2];have hgr:XE (L.length*1) 0 (ZA (L++R))=some (ZA L):=by
    rw[LK _ _ _ (by rw[U'];simp),ajS,e]
   simp only[kH,hgr];rw[if_pos ⟨trivial,by omega,trivial,rfl⟩,L7]
  ·rw[ZY,Z_,if_pos rfl,ajG]
  ·rw[Yu] at hb;rw[ZY,Z_,if_neg (by omega),Z0,if_neg hb]
theorem OO.get {s:St}{N:Nat}{L:List Nat}{v:AV}(h:OO s N L v){i:Nat}(hi:i<L.length) :
  ∃b R,v=.sl b 0 L.length none 1/\s.get b=some (.cells (ZA (L++R)) 3 false 0 0)/\(ZA (L++R))[i]? = some (.int .i64 (L[i]:Nat)):=by
 rcases h with⟨rfl,rfl⟩|⟨b,R,rfl,h2,h3,h4⟩
 ·simp at hi
 ·refine⟨b,R,rfl,h2,?_⟩;rw[X9 (by simp;omega),CL hi,R_ hi]
def DY (s:St)(L:List Nat)(v:AV):Prop:=(v=.ZM/\L=[])\/∃b,v=.sl b 0 L.length none 1/\s.get b=some (.cells (ZA L) 3 false 0 0)/\b<s.next
theorem DY.keep {s s':St}{L:List Nat}{v:AV}(h:DY s L v)(hn:s.next<=s'.next)(hg:∀j,j<s.next->Xi v j->s'.get j=s.get j):DY s' L v:=by
 rcases h with h|⟨b,h1,h2,h4⟩
 ·exact .inl h
 ·exact .inr ⟨b,h1,by rw[hg b h4 ⟨_,h1⟩];exact h2,by omega⟩
theorem DY.TK {s:St}{L:List Nat}{v:AV}(h:DY s L v):SZ v=some (.int .i64 L.length):=by
 rcases h with⟨rfl,rfl⟩|⟨b,rfl,h2,h4⟩ <;> rfl
def Xr (pb bl bp bs bb be bm j:Nat):Prop:=j≠pb/\j≠bl/\j≠bp/\j≠bs/\j≠bb/\j≠be/\j≠bm
theorem M9.jC {s:St}{pb n bl bp bs bb be bm:Nat}{p:Pt}(h:M9 s pb n bl bp bs bb be bm p):pb<s.next/\bl<s.next/\bp<s.next/\bs<s.next/\bb<s.next/\be<s.next/\bm<s.next :=
 ⟨h.lt _ (by simp),h.lt _ (by simp),h.lt _ (by simp),h.lt _ (by simp),h.lt _ (by simp),h.lt _ (by simp),h.lt _ (by simp)⟩
theorem acP {β:Type}{fin:Fl->β}{ks:List K}{Zu:β->Prop}{pb n bl bp bs bb be bm N:Nat}{p:Pt}{T us:List Nat}{tv vB:AV}{e:Env}{s:St}(hn:n<=2^19)(h:M9 s pb n bl bp bs bb be bm p)(hw:p.Wf n)(hU:∀u∈us,u<n)(hul:us.length<=2^20)(hTl:T.length+us.length<=2^30)
  (g3:Env.get e 3=.ptr pb 0)(jA:Env.get e 13=tv)(af':Env.get e 135=vB)(aga:Env.get e 136=.int .i64 us.length)(agb:Env.get e 137=.int .i64 (0:Nat))
  (hT:OO s N T tv)(aH:∀j,Xi tv j->Xr pb bl bp bs bb be bm j)(hN:N<=s.next)(hB:DY s us vB)(hBf:∀j,Xi vB j->Xr pb bl bp bs bb be bm j/\¬Xi tv j)(fr:Fr s)
  (hk:∀e' s' Lg,(∀t:Nat,t<13\/17<t/\t<137->Env.get e' t=Env.get e t)->Env.get e' 13=Lg->M9 s' pb n bl bp bs bb be bm (YJ us p T).1->OO s' N (YJ us p T).2 Lg->(∀j,Xi Lg j->Xi tv j\/s.next<=j) ->
   (∀j,j<s.next->j≠bl->j≠bp->j≠bm->¬Xi tv j->s'.get j=s.get j)->s.next<=s'.next->Fr s'->Zu (goN U fin ks e' s')) :
  Zu (SC U fin (.bk 12::ks) MD e s):=by
 refine YG (σ:=Nat) (fun i=>us.length-i) (fun i e' s'=>i<=us.length/\(∀t:Nat,t<13\/17<t/\t<137->Env.get e' t=Env.get e t)/\Env.get e' 137=.int .i64 (i:Nat)/\s.next<=s'.next/\Fr s' /\
   ∃p' T' Lg,Env.get e' 13=Lg/\M9 s' pb n bl bp bs bb be bm p'/\p'.Wf n/\YJ (us.drop i) p' T'=YJ us p T/\T'.length<=T.length+i/\OO s' N T' Lg/\(∀j,Xi Lg j->Xi tv j\/s.next<=j)/\(∀j,j<s.next->j≠bl->j≠bp->j≠bm->¬Xi tv j->s'.get j=s.get j)) 0 ?_
  ⟨aji _,fun _ _=>rfl,agb,ajg _,fr,p,T,tv,jA,h,hw,rfl,by omega,hT,fun j=>.inl,fun _ _ _ _ _ _=>rfl⟩
 rintro Lp i e' s' ⟨hi,hold,ib,UL,UB,p',T',Lg,yw,P,M8,Fh,hlen,hT',Vq,hs⟩ IH;have q3:=(hold 3 (by omega)).trans g3;have acQ:=(hold 135 (by omega)).trans af';have aG:=(hold 136 (by omega)).trans aga;by_cases hd:i<us.length
 ·have Qp:=ZE hd (by omega);have lts:=h.jC;have B2:=hB.keep UL fun j h1 h2=>by obtain⟨h3,h4⟩:=hBf j h2;unfold Xr at h3;exact hs j h1 (by omega) (by omega) (by omega) h4
  obtain⟨b,rfl,hg,hb⟩:∃b,vB=.sl b 0 us.length none 1/\s'.get b=some (.cells (ZA us) 3 false 0 0)/\b<s'.next:=by
   rcases B2 with⟨_,h⟩|h
   ·rw[h] at hd;simp at hd
   ·exact h
  have o1:=X9 (l:=us) (i:=i) hd;have hu:=hU _ (ajc hd);rw[R_ hd] at o1;rw[abc hd,YJ] at Fh;generalize us[i]=u at *;obtain⟨s2,c1,P2,c2,c3,c4⟩:=agc P M8 (by omega) UB hu;obtain⟨m1,m2,m3,m4,m5,m6,m7⟩:=NQ M8 hu;have T2:=hT'.keep c2 fun j h1 h2 h3=>by
   have:Xr pb bl bp bs bb be bm j:=by
    rcases Vq j h3 with h4|h4
    ·exact aH j h4
    ·unfold Xr;omega
   unfold Xr at this;exact c4 j h1 (by omega) (by omega) (by omega)
  have fs:∀j,j<s.next->j≠bl->j≠bp->j≠bm->¬Xi tv j->s2.get j=s.get j:=fun j h1 h2 h3 h4 h5=>by rw[c4 j (by omega) h2 h3 h4,hs j h1 h2 h3 h4 h5]
  cases VD:(p'.WM u).2 with
  |false =>
   rw[VD] at c1 Fh;rw[cond_false] at Fh;simp only[go_sem,MD,q3,acQ,aG,ib,Z9,hd,hg,o1,dB,c1,Qp,ajj];refine IH (i+1) _ _ (by omega) ⟨by omega,fun t ht=>?_,?_,by omega,c3,_,T',Lg,?_,P2,m1,Fh,by omega,T2,Vq,fs⟩
   ·have Zv:∀k:Nat,137<=k->(k=t)=False:=fun k hk=>by simp;omega
    have Iv:(17=t)=False:=by simp;omega
    simp only[go_sem,Zv,Iv];exact hold t ht
   ·simp only[go_sem]
   ·simp only[go_sem,yw]
  |true =>
   rw[VD] at c1 Fh;rw[cond_true] at Fh;have WY:gt p'.set u=gt (p'.WM u).1.set u:=by rw[m2]
   have lsu:=m1.ls;have o2:=X9 (l:=(p'.WM u).1.set) (i:=u) (by omega);have ju:=T2.Xg;have vq:(T'.length+1)*8<=1099511627776:=by omega
   have pY:T'.length+1<=1099511627776:=by omega
   simp only[go_sem,MD,q3,yw,acQ,aG,ib,Z9,hd,hg,o1,dB,c1,Qp,ajj,ajB,P2.g,P2.gs,o2,hu,lsu,ZD,Nat.reducePow,ju,vq,pY];have T3:OO (s2.new (.cells [.int .i64 ((gt (p'.WM u).1.set u:Nat):Int)] 3 false 0 0)) N T' Lg:=T2.keep (by rw[Z'];omega) fun j h1 _ _=>by rw[ZY,if_neg (by omega)]
   obtain⟨s4,d1,d2,d3,d4,d5⟩:=T3.app (by rw[Z'];omega) (gt (p'.WM u).1.set u);rw[Z'] at d1 d2 d3 d4;rw[d1];simp only[go_sem,ib,Qp];rw[<-WY] at d3;have k4:∀j,j<s2.next->¬Xi Lg j->s4.get j=s2.get j:=fun j h1 h2=>by rw[d4 j (by omega) h2,ZY,if_neg (by omega)]
   have hP:∀j,Xi Lg j->Xr pb bl bp bs bb be bm j:=fun j hj=>by
    rcases Vq j hj with h4|h4
    ·exact aH j h4
    ·unfold Xr;omega
   refine IH (i+1) _ _ (by omega) ⟨by omega,fun t ht=>?_,?_,by omega,d5 (c3.new _),_,T'++[gt p'.set u],.sl (s2.next+1) 0 (T'.length+1) none 1,?_,P2.mono (by omega) fun j hj=>k4 j (P2.lt j hj) fun hb=>?_,m1,Fh,by simp;omega,d3,fun j hj=>?_,fun j h1 h2 h3 h4 h5=>?_⟩
   ·have Zv:∀k:Nat,137<=k->(k=t)=False:=fun k hk=>by simp;omega
    have Iv:(17=t)=False:=by simp;omega
    have px:(13=t)=False:=by simp;omega
    simp only[go_sem,Zv,Iv,px];exact hold t ht
   ·simp only[go_sem]
   ·simp only[go_sem]
   ·have:=hP j hb;unfold Xr at this;simp only[ajo,List.not_mem_nil,or_false] at hj;omega
   ·rw[Yu] at hj;omega
   ·by_cases hb:Xi Lg j
    ·rcases Vq j hb with h6|h6
     ·exact absurd h6 h5
     ·omega
    ·rw[k4 j (by omega) hb,fs j h1 h2 h3 h4 h5]
 ·have:i=us.length:=by omega
  subst this;rw[ajy,YJ] at Fh;rw[<-Fh] at hk;simp only[go_sem,MD,aG,ib,Z9,ajp];refine hk _ _ Lg (fun t ht=>?_) ?_ P hT' Vq hs UL UB
  ·have Zv:∀k:Nat,137<=k->(k=t)=False:=fun k hk=>by simp;omega
   have Iv:(17=t)=False:=by simp;omega
   simp only[go_sem,Zv,Iv];exact hold t ht
  ·simp only[go_sem,yw]
structure Cb (s:St)(B m n:Nat)(bf:Nat->Nat->List Nat)(lo hi:Nat)(bx:Nat->Nat)(vs:Nat->Nat->AV):Prop where
 g:s.get B=some (.cells ((List.range m).map fun x=>.sl (bx x) 0 n (some n) 1) 39 false 0 0)
 row:∀x,x<m->s.get (bx x)=some (.cells ((List.range n).map (vs x)) 48 false 0 0)
 bl:∀x,x<m->∀c,c<n->DY s (bf x c) (vs x c)
 hB:lo<=B/\B<hi
 hx:∀x,x<m->lo<=bx x/\bx x<hi
 hv:∀x,x<m->∀c,c<n->∀j,Xi (vs x c) j->lo<=j/\j<hi
 le:hi<=s.next
theorem Cb.keep {s s':St}{B m n:Nat}{bf:Nat->Nat->List Nat}{lo hi:Nat}{bx:Nat->Nat}{vs:Nat->Nat->AV}(h:Cb s B m n bf lo hi bx vs)(hn:s.next<=s'.next)(hg:∀j,lo<=j->j<hi->s'.get j=s.get j):Cb s' B m n bf lo hi bx vs :=
 ⟨(hg _ h.hB.1 h.hB.2).trans h.g,fun x hx=>(hg _ (h.hx x hx).1 (h.hx x hx).2).trans (h.row x hx),fun x hx c hc=>(h.bl x hx c hc).keep hn fun j _ hj=>hg j (h.hv x hx c hc j hj).1 (h.hv x hx c hc j hj).2,h.hB,h.hx,h.hv,by have:=h.le;omega⟩
def Ou (lo hi j:Nat):Prop:=j<lo\/hi<=j
theorem OH (f:Nat->AV){n i:Nat}(h:i<n):((List.range n).map f)[i]? = some (f i):=by
 rw[ajv,List.getElem?_range h];rfl
theorem GH {n:Nat}:∀(us:List Nat) (p:Pt) (T:List Nat),p.Wf n->(∀u∈us,u<n)->(YJ us p T).1.Wf n
 |[],p,T,h,_=>h
 |u::l,p,T,h,hu=>by
  rw[YJ];exact GH l _ _ (NQ h (hu u (aba ..))).1 fun x hx=>hu x (aab _ hx)
theorem P6:∀(us:List Nat) (p:Pt) (T:List Nat),(YJ us p T).2.length<=T.length+us.length
 |[],p,T=>by simp[YJ]
 |u::l,p,T=>by
  rw[YJ];have:=P6 l (p.WM u).1 (bif (p.WM u).2 then T++[gt p.set u] else T);have h2:(bif (p.WM u).2 then T++[gt p.set u] else T).length<=T.length+1:=by cases (p.WM u).2 <;> simp
  rw[ajk];omega
theorem acm {β:Type}{fin:Fl->β}{ks:List K}{Zu:β->Prop}{pb n m bl bp bs bb be bm N B lo hi x:Nat}{bf:Nat->Nat->List Nat}{bx:Nat->Nat}{vs:Nat->Nat->AV}{p:Pt}{T ms:List Nat}{tv mv:AV}{e:Env}{s:St}(hn:n<=2^9)(hm:m<=2^9)(hx:x<m)(h:M9 s pb n bl bp bs bb be bm p)(hw:p.Wf n)(hM:∀u∈ms,u<n)(hml:ms.length<=2^9)(hTl:T.length+ms.length*n<=2^29)
  (hbf:∀c,c<n->(bf x c).length<=n/\∀u∈bf x c,u<n)
  (g3:Env.get e 3=.ptr pb 0)(g4:Env.get e 4=.sl B 0 m (some m) 1)(SB:Env.get e 12=.int .i64 (x:Int))(jA:Env.get e 13=tv)(air:Env.get e 123=mv)(ais:Env.get e 124=.int .i64 ms.length)(ait:Env.get e 125=.int .i64 (0:Nat))
  (hT:OO s N T tv)(aH:∀j,Xi tv j->Xr pb bl bp bs bb be bm j/\Ou lo hi j)(hN:N<=s.next)(hMr:DY s ms mv)(hMf:∀j,Xi mv j->Xr pb bl bp bs bb be bm j/\¬Xi tv j)
  (hB:Cb s B m n bf lo hi bx vs)(iU:∀j,Ou lo hi j\/Xr pb bl bp bs bb be bm j)(fr:Fr s)
  (hk:∀e' s' Lg,(∀t:Nat,t<13\/17<t/\t<125->Env.get e' t=Env.get e t)->Env.get e' 13=Lg->M9 s' pb n bl bp bs bb be bm (YJ (ms.flatMap (bf x)) p T).1->OO s' N (YJ (ms.flatMap (bf x)) p T).2 Lg->(∀j,Xi Lg j->Xi tv j\/s.next<=j) ->
   (∀j,j<s.next->j≠bl->j≠bp->j≠bm->¬Xi tv j->s'.get j=s.get j)->s.next<=s'.next->Fr s'->Zu (goN U fin ks e' s')) :
  Zu (SC U fin (.bk 10::ks) Js e s):=by
 refine YG (σ:=Nat) (fun i=>ms.length-i) (fun i e' s'=>i<=ms.length/\(∀t:Nat,t<13\/17<t/\t<125->Env.get e' t=Env.get e t)/\Env.get e' 125=.int .i64 (i:Nat)/\s.next<=s'.next/\Fr s' /\
   ∃p' T' Lg,Env.get e' 13=Lg/\M9 s' pb n bl bp bs bb be bm p'/\p'.Wf n/\YJ ((ms.drop i).flatMap (bf x)) p' T'=YJ (ms.flatMap (bf x)) p T/\T'.length<=T.length+i*n/\OO s' N T' Lg/\(∀j,Xi Lg j->Xi tv j\/s.next<=j)/\(∀j,j<s.next->j≠bl->j≠bp->j≠bm->¬Xi tv j->s'.get j=s.get j)) 0 ?_
  ⟨aji _,fun _ _=>rfl,ait,ajg _,fr,p,T,tv,jA,h,hw,rfl,by simp,hT,fun j=>.inl,fun _ _ _ _ _ _=>rfl⟩
 rintro Lp i e' s' ⟨dC,hold,ab9,UL,UB,p',T',Lg,yw,P,M8,Fh,hlen,hT',Vq,hs⟩ IH;have q3:=(hold 3 (by omega)).trans g3;have q4:=(hold 4 (by omega)).trans g4;have pV:=(hold 12 (by omega)).trans SB;have aiu:=(hold 123 (by omega)).trans air;have afJ:=(hold 124 (by omega)).trans ais;have lts:=h.jC;by_cases hd:i<ms.length
 ·have Qp:=ZE hd (by omega);have hle:=hB.le;have B2:=hB.keep UL fun j h1 h2=>by
   have h3:Xr pb bl bp bs bb be bm j:=by rcases iU j with h|h;unfold Ou at h;omega;exact h
   unfold Xr at h3;exact hs j (by omega) (by omega) (by omega) (by omega) fun hb=>by have:=(aH j hb).2;unfold Ou at this;omega
  have M2:=hMr.keep UL fun j h1 h2=>by obtain⟨h3,h4⟩:=hMf j h2;unfold Xr at h3;exact hs j h1 (by omega) (by omega) (by omega) h4
  obtain⟨b,rfl,hg,hb⟩:∃b,mv=.sl b 0 ms.length none 1/\s'.get b=some (.cells (ZA ms) 3 false 0 0)/\b<s'.next:=by
   rcases M2 with⟨_,h⟩|h
   ·rw[h] at hd;simp at hd
   ·exact h
  have o1:=X9 (l:=ms) (i:=i) hd;have hu:=hM _ (ajc hd);rw[R_ hd] at o1;rw[abc hd,ajL,KO] at Fh;generalize ms[i]=c at *;obtain⟨f1,f2⟩:=hbf c hu;have o2:=OH (fun x=>(AV.sl (bx x) 0 n (some n) 1)) hx;have o3:=OH (vs x) hu;have Qm:=B2.row x hx;have Cv:=B2.bl x hx c hu;have hv3:=Cv.TK;have Sd:i*n+n<=ms.length*n:=by
   have:(i+1)*n<=ms.length*n:=aj7 n hd;rw[Nat.succ_mul] at this;exact this
  have hB2:=B2.g;have hTP:∀j,Xi Lg j->Xr pb bl bp bs bb be bm j/\(Ou lo hi j):=fun j hj=>by
   rcases Vq j hj with h4|h4
   ·exact aH j h4
   ·refine⟨by unfold Xr;omega,by unfold Ou;omega⟩
  simp only[go_sem,Js,q3,q4,pV,aiu,afJ,ab9,Z9,hd,hg,o1,o2,o3,hx,hu,hB2,Qm,hv3,ajj];refine acP (N:=N) (p:=p') (T:=T') (tv:=Lg) (us:=bf x c) (by omega) P M8 f2 (by omega) (by omega) ?_ ?_ ?_ ?_ ?_ hT' (fun j hj=>(hTP j hj).1) (by omega) Cv (fun j hj=>?_) UB ?_
  case refine_7 =>
   intro e2 s2 tv2 Og jB P3 T3 yQ fs3 iT tn;have aiv:Env.get e2 125=.int .i64 (i:Nat):=by rw[Og 125 (by omega)];simp only[go_sem,ab9]
   simp only[go_sem,aiv,Qp];refine IH (i+1) _ _ (by omega) ⟨by omega,fun t ht=>?_,?_,by omega,tn,_,_,tv2,?_,P3,GH _ _ _ M8 f2,Fh,?_,T3,fun j hj=>?_,fun j h1 h2 h3 h4 h5=>?_⟩
   ·have Zv:∀k:Nat,125<=k->(k=t)=False:=fun k hk=>by simp;omega
    have bY:(15=t)=False:=by simp;omega
    simp only[go_sem,Zv,bY];rw[Og t (by omega)];simp only[go_sem,Zv,bY];exact hold t ht
   ·simp only[go_sem]
   ·simp only[go_sem,jB]
   ·have:=P6 (bf x c) p' T';rw[Nat.succ_mul];omega
   ·rcases yQ j hj with h6|h6
    ·exact Vq j h6
    ·right;omega
   ·by_cases hb:Xi Lg j
    ·rcases Vq j hb with h6|h6
     ·exact absurd h6 h5
     ·omega
    ·rw[fs3 j (by omega) h2 h3 h4 hb,hs j h1 h2 h3 h4 h5]
  case refine_6 =>
   have h1:=B2.hv x hx c hu j hj;refine⟨?_,fun hb=>?_⟩
   ·rcases iU j with h|h
    ·unfold Ou at h;omega
    ·exact h
   ·have:=(hTP j hb).2;unfold Ou at this;omega
  all_goals simp only[go_sem,q3,yw]
  all_goals rfl
 ·have:i=ms.length:=by omega
  subst this;rw[ajy,List.flatMap_nil,YJ] at Fh;rw[<-Fh] at hk;simp only[go_sem,Js,afJ,ab9,Z9,ajp];refine hk _ _ Lg (fun t ht=>?_) ?_ P hT' Vq hs UL UB
  ·have Zv:∀k:Nat,125<=k->(k=t)=False:=fun k hk=>by simp;omega
   have Iv:(17=t)=False:=by simp;omega
   simp only[go_sem,Zv,Iv];exact hold t ht
  ·simp only[go_sem,yw]
end Go.Am
