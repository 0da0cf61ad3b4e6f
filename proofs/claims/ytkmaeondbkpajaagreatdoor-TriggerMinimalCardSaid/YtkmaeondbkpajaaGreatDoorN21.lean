/- A part of the proof of a statement of this seat: the machine on which the program is read, and what it computes; for every input. -/
import Derived.Test.YtkmaeondbkpajaaGreatDoorN20
set_option linter.all false
namespace Go.Am
open Go
variable [Z3]
set_option maxRecDepth 100000
set_option maxHeartbeats 8000000
def OV (P M:List Nat):Prop:=P.length=0\/∀x∈M,gt P (P.length-1)<x
theorem OV.perm {P M M':List Nat}(h:OV P M)(hp:M'.Perm M):OV P M':=by
 rcases h with h|h
 ·exact .inl h
 ·exact .inr fun x hx=>h x (hp.mem_iff.1 hx)
theorem nH (k:Nat){P M S:List Nat}(h:P.length≠0):YB 2 ((P.length-1)*2) (WT k (P++M++S))=some [.int .i64 ((gt P (P.length-1) / k:Nat):Int),.int .i64 ((gt P (P.length-1)%k:Nat):Int)]:=by
 have:=Rz k (P++M++S) (P.length-1) (by simp;omega);rw[afv (by simp;omega),afv (by omega)] at this;rw[ZJ (by omega)];exact this
def rB (L:List Nat)(i:Nat):Prop:=∀x y,x<y->y<i->gt L x<=gt L y
theorem er {β:Type}{fin:Fl->β}{ks:List K}{ZV:β->Prop}{k n b i m:Nat}{cap:Option Nat}{P L S:List Nat}(WX:0<k)(hL:P.length+L.length+S.length=n)(hn:n<=2^20)(hi:1<=i)(lO:i<=L.length)(MD:rB L i)
  {e:Env}{s:St}(g0:Env.get e 0=.sl b 0 n cap 2)(g2:Env.get e 2=.int .i64 (P.length+L.length:Nat))(g3:Env.get e 3=.fn (.func 91) [] [])(g9:Env.get e 9=.int .i64 (P.length+i:Nat))(gb:s.get b=some (.cells (WT k (P++L++S)) 55 false 0 0))(fr:Fr s)
  (hk:∀e' s' i',(∀t:Nat,t<15->t≠9->Env.get e' t=Env.get e t)->Env.get e' 9=.int .i64 (P.length+i':Nat)->i<=i'->i'<=L.length->rB L i'->(i'=L.length\/gt L i'<gt L (i'-1))->(∀j,s'.get j=s.get j)->s.next<=s'.next->Fr s'->ZV (goN U fin ks e' s')) :
  ZV (Vx U fin (.bk 2::ks) OU e s):=by
 refine ZC (σ:=Nat) (fun q=>L.length-q) (fun q e' s'=>i<=q/\q<=L.length/\(∀t:Nat,t<15->t≠9->Env.get e' t=Env.get e t)/\Env.get e' 9=.int .i64 (P.length+q:Nat)/\rB L q/\(∀j,s'.get j=s.get j)/\s.next<=s'.next/\Fr s') i ?_
  ⟨aba _,lO,fun _ _ _=>rfl,g9,MD,fun _=>rfl,aba _,fr⟩
 rintro Lp q e' s' ⟨h1,h2,hold,q9,hsq,hs,XY,YM⟩ IH;have q0:=(hold 0 (by omega) (by omega)).trans g0;have q2:=(hold 2 (by omega) (by omega)).trans g2;have q3:=(hold 3 (by omega) (by omega)).trans g3;have qb:=(hs b).trans gb;have ZQ:∀t:Nat,t<15->t≠9->(9=t)=False/\∀k:Nat,15<=k->(k=t)=False:=fun t h1 h2=>⟨by simp;omega,fun k hk=>by simp;omega⟩
 by_cases hd:q<L.length
 ·obtain⟨r,rfl⟩:∃r,q=r+1:=⟨q-1,by omega⟩;have Wy:P.length+(r+1)<P.length+L.length:=by omega
  have ar:r<L.length:=by omega
  have bq:P.length+(r+1)<n:=by omega
  have br:P.length+r<n:=by omega
  have rq:=YW k (P:=P) (M:=L) (S:=S) hd;have rr:=YW k (P:=P) (M:=L) (S:=S) ar;have c1:=Pc ((L[r+1] / k:Nat):Int) ((L[r+1]%k:Nat):Int) ((L[r] / k:Nat):Int) ((L[r]%k:Nat):Int);have o1:=(XC (k:=k) (c:=L[r+1]) (d:=L[r]) WX).1;have w0:IntKind.i64.wrap (((P.length+(r+1):Nat):Int)-1)=((P.length+r:Nat):Int):=Zq (by omega) (by omega);have w1:IntKind.i64.wrap (((P.length+(r+1):Nat):Int)+1)=((P.length+(r+1+1):Nat):Int):=Zq (by omega) (by omega)
  cases hc:decide (L[r+1]<L[r]) with
  |false =>
   rw[hc] at o1;have hc:=of_decide_eq_false hc;simp only[go_sem,OU,q0,q2,q3,q9,Z8,Wy,qb,bq,br,rq,rr,c1,o1,w0,w1,ad4];refine IH (r+1+1) _ _ (by omega) ⟨by omega,by omega,fun t h3 h4=>?_,?_,fun x y Ge hy=>?_,fun j=>by rw[Z0];exact hs j,by rw[Z_];omega,YM.upto (by omega)⟩
   ·obtain⟨n9,ZQ⟩:=ZQ t h3 h4;simp only[go_sem,n9,ZQ];exact hold t h3 h4
   ·simp only[go_sem]
   ·by_cases hyr:y=r+1
    ·subst hyr;have e1:gt L (r+1)=L[r+1]:=ZJ hd;have e2:gt L r=L[r]:=ZJ ar;by_cases hx:x=r
     ·subst hx;omega
     ·have:=hsq x r (by omega) (by omega);omega
    ·exact hsq x y Ge (by omega)
  |true =>
   rw[hc] at o1;have hc:=of_decide_eq_true hc;simp only[go_sem,OU,q0,q2,q3,q9,Z8,Wy,qb,bq,br,rq,rr,c1,o1,w0,w1,ad4];refine hk _ _ (r+1) (fun t h3 h4=>?_) ?_ h1 h2 hsq (.inr (by rw[Nat.add_sub_cancel,ZJ hd,ZJ ar];exact hc)) (fun j=>by rw[Z0];exact hs j) (by rw[Z_];omega) (YM.upto (by omega))
   ·obtain⟨n9,ZQ⟩:=ZQ t h3 h4;simp only[go_sem,ZQ];exact hold t h3 h4
   ·simp only[go_sem,q9]
 ·have Wy:¬P.length+q<P.length+L.length:=by omega
  simp only[go_sem,OU,q0,q2,q3,q9,Z8,Wy];refine hk _ _ q (fun t h3 h4=>?_) ?_ h1 h2 hsq (.inl (by omega)) (fun j=>by rw[Z0];exact hs j) (by rw[Z_];omega) (YM.upto (by omega))
  ·obtain⟨n9,ZQ⟩:=ZQ t h3 h4;simp only[go_sem,ZQ];exact hold t h3 h4
  ·simp only[go_sem,q9]
theorem ep {β:Type}{fin:Fl->β}{ks:List K}{ZV:β->Prop}{k n b i:Nat}{cap:Option Nat}{P L S:List Nat}(WX:0<k)(hL:P.length+L.length+S.length=n)(hn:n<=2^20)(lO:i<L.length)(DZ:OV P L){s0:St}(hb:b<s0.next)
  {e:Env}{s:St}(g0:Env.get e 0=.sl b 0 n cap 2)(g3:Env.get e 3=.fn (.func 91) [] [])(Ga:Env.get e 11=.int .i64 (P.length+i:Nat))(rA:Y4 k b s0 (P++L++S) s)
  (hk:∀e' s',(∀t:Nat,t<11->Env.get e' t=Env.get e t)->Y4 k b s0 (P++Qg i L++S) s'->ZV (goN U fin ks e' s')) :
  ZV (Vx U fin (.bk 4::ks) QA e s):=by
 refine ZC (σ:=Nat) (fun q=>q) (fun q e' s'=>q<L.length/\(∀t:Nat,t<11->Env.get e' t=Env.get e t)/\Env.get e' 11=.int .i64 (P.length+q:Nat) /\
   ∃L',L'.length=L.length/\L'.Perm L/\Y4 k b s0 (P++L'++S) s'/\Qg q L'=Qg i L) i ?_
  ⟨lO,fun _ _=>rfl,Ga,L,rfl,List.Perm.refl _,rA,rfl⟩
 rintro Lp q e' s' ⟨hq,hold,NB,L',Hy,hp,hR,Zp⟩ IH;obtain⟨qb,hs,XY,YM⟩:=id hR;have q0:=(hold 0 (by omega)).trans g0;have q3:=(hold 3 (by omega)).trans g3;have ZQ:∀t:Nat,t<11->∀k:Nat,11<=k->(k=t)=False:=fun t h1 k hk=>by simp;omega
 have b0:P.length<n:=by omega
 cases q with
 |zero =>
  rw[Qg] at Zp;subst Zp;rw[afD] at NB;by_cases hP:P.length=0
  ·have d0:decide (((P.length:Nat):Int)>=1)=false:=decide_eq_false (by omega);simp only[go_sem,QA,NB,d0];refine hk _ _ (fun t h1=>?_) hR;simp only[go_sem,ZQ t h1];exact hold t h1
  ·have d0:decide (((P.length:Nat):Int)>=1)=true:=decide_eq_true (by omega);have a0:0<(Qg i L).length:=by omega
   have r0:=YW k (P:=P) (M:=Qg i L) (S:=S) a0;rw[afD] at r0;have rp:=nH k (P:=P) (M:=Qg i L) (S:=S) hP;have bp:P.length-1<n:=by omega
   have Zm:¬(Qg i L)[0]<gt P (P.length-1):=by
    rcases DZ.perm hp with h|h
    ·exact absurd h hP
    ·have:=h _ (ae2 a0);omega
   generalize gt P (P.length-1)=z at *;have c1:=Pc (((Qg i L)[0] / k:Nat):Int) (((Qg i L)[0]%k:Nat):Int) ((z / k:Nat):Int) ((z%k:Nat):Int);have o1:=(XC (k:=k) (c:=(Qg i L)[0]) (d:=z) WX).1;rw[decide_eq_false Zm] at o1;have w0:IntKind.i64.wrap (((P.length:Nat):Int)-1)=((P.length-1:Nat):Int):=Zq (by omega) (by omega);simp only[go_sem,QA,q0,q3,NB,d0,qb,b0,bp,r0,rp,c1,o1,w0,ad4];refine hk _ _ (fun t h1=>?_) (Xf hR (by omega));simp only[go_sem,ZQ t h1];exact hold t h1
 |succ q =>
  have d0:decide (((P.length+(q+1):Nat):Int)>=1)=true:=decide_eq_true (by omega);have a1:q+1<L'.length:=by omega
  have a0:q<L'.length:=by omega
  have b1:P.length+(q+1)<n:=by omega
  have b2:P.length+q<n:=by omega
  have r1:=YW k (P:=P) (M:=L') (S:=S) a1;have r2:=YW k (P:=P) (M:=L') (S:=S) a0;have c1:=Pc ((L'[q+1] / k:Nat):Int) ((L'[q+1]%k:Nat):Int) ((L'[q] / k:Nat):Int) ((L'[q]%k:Nat):Int);have o1:=(XC (k:=k) (c:=L'[q+1]) (d:=L'[q]) WX).1;have w0:IntKind.i64.wrap (((P.length+(q+1):Nat):Int)-1)=((P.length+q:Nat):Int):=Zq (by omega) (by omega);have y1:=VB k (P:=P) (M:=L') (S:=S) (i:=q+1) L'[q] a1;have y2:=VB k (P:=P) (M:=L'.set (q+1) L'[q]) (S:=S) (i:=q) L'[q+1] (by simpa using a0);rw[Qg,ZJ a1,ZJ a0] at Zp
  cases hc:decide (L'[q+1]<L'[q]) with
  |true =>
   rw[hc] at o1 Zp;rw[cond_true] at Zp;simp only[go_sem,QA,q0,q3,NB,d0,qb,b1,b2,r1,r2,c1,o1,w0,y1,y2,ad4];refine IH q _ _ (by omega) ⟨by omega,fun t h1=>?_,?_,(L'.set (q+1) L'[q]).set q L'[q+1],by simp[Hy],by rw[XI a1 a0];exact (XA a1 a0).trans hp,XE (Xf hR (by omega)) hb (by rw[Z_];omega),Zp⟩
   ·simp only[go_sem,ZQ t h1];exact hold t h1
   ·simp only[go_sem]
  |false =>
   rw[hc] at o1 Zp;rw[cond_false] at Zp;subst Zp;simp only[go_sem,QA,q0,q3,NB,d0,qb,b1,b2,r1,r2,c1,o1,w0,ad4];refine hk _ _ (fun t h1=>?_) (Xf hR (by omega));simp only[go_sem,ZQ t h1];exact hold t h1
theorem eo {β:Type}{fin:Fl->β}{ks:List K}{ZV:β->Prop}{k n b i:Nat}{cap:Option Nat}{P L S:List Nat}(WX:0<k)(hL:P.length+L.length+S.length=n)(hn:n<=2^20)(lO:i<L.length){s0:St}(hb:b<s0.next)
  {e:Env}{s:St}(g0:Env.get e 0=.sl b 0 n cap 2)(g2:Env.get e 2=.int .i64 (P.length+L.length:Nat))(g3:Env.get e 3=.fn (.func 91) [] [])(OT:Env.get e 12=.int .i64 (P.length+(i+1):Nat))(rA:Y4 k b s0 (P++L++S) s)
  (hk:∀e' s' L',(∀t:Nat,t<11->Env.get e' t=Env.get e t)->L'.length=L.length->L'.Perm L->(∀x,x<i->gt L' x=gt L x)->Y4 k b s0 (P++L'++S) s'->ZV (goN U fin ks e' s')) :
  ZV (Vx U fin (.bk 6::ks) OS e s):=by
 refine ZC (σ:=Nat) (fun q=>L.length-q) (fun q e' s'=>i<=q/\q<L.length/\(∀t:Nat,t<11->Env.get e' t=Env.get e t)/\Env.get e' 12=.int .i64 (P.length+(q+1):Nat) /\
   ∃L',L'.length=L.length/\L'.Perm L/\(∀x,x<i->gt L' x=gt L x)/\Y4 k b s0 (P++L'++S) s') i ?_
  ⟨aba _,lO,fun _ _=>rfl,OT,L,rfl,List.Perm.refl _,fun _ _=>rfl,rA⟩
 rintro Lp q e' s' ⟨fW,hq,hold,RR,L',Hy,hp,w9,hR⟩ IH;obtain⟨qb,hs,XY,YM⟩:=id hR;have q0:=(hold 0 (by omega)).trans g0;have q2:=(hold 2 (by omega)).trans g2;have q3:=(hold 3 (by omega)).trans g3;have ZQ:∀t:Nat,t<11->∀k:Nat,11<=k->(k=t)=False:=fun t h1 k hk=>by simp;omega
 by_cases hd:q+1<L.length
 ·have Wy:P.length+(q+1)<P.length+L.length:=by omega
  have a1:q+1<L'.length:=by omega
  have a0:q<L'.length:=by omega
  have b1:P.length+(q+1)<n:=by omega
  have b2:P.length+q<n:=by omega
  have r1:=YW k (P:=P) (M:=L') (S:=S) a1;have r2:=YW k (P:=P) (M:=L') (S:=S) a0;have c1:=Pc ((L'[q+1] / k:Nat):Int) ((L'[q+1]%k:Nat):Int) ((L'[q] / k:Nat):Int) ((L'[q]%k:Nat):Int);have o1:=(XC (k:=k) (c:=L'[q+1]) (d:=L'[q]) WX).1;have w0:IntKind.i64.wrap (((P.length+(q+1):Nat):Int)-1)=((P.length+q:Nat):Int):=Zq (by omega) (by omega);have w1:IntKind.i64.wrap (((P.length+(q+1):Nat):Int)+1)=((P.length+(q+1+1):Nat):Int):=Zq (by omega) (by omega);have y1:=VB k (P:=P) (M:=L') (S:=S) (i:=q+1) L'[q] a1;have y2:=VB k (P:=P) (M:=L'.set (q+1) L'[q]) (S:=S) (i:=q) L'[q+1] (by simpa using a0);have g:=fun x=>PL (M:=L') (i:=q+1) (j:=q) (x:=x) a1 a0
  cases hc:decide (L'[q+1]<L'[q]) with
  |true =>
   rw[hc] at o1;simp only[go_sem,OS,q0,q2,q3,RR,Z8,Wy,qb,b1,b2,r1,r2,c1,o1,w0,w1,y1,y2,ad4];refine IH (q+1) _ _ (by omega) ⟨by omega,by omega,fun t h1=>?_,?_,(L'.set (q+1) L'[q]).set q L'[q+1],by simp[Hy],by rw[XI a1 a0];exact (XA a1 a0).trans hp,fun x hx=>?_,XE (Xf hR (by omega)) hb (by rw[Z_];omega)⟩
   ·simp only[go_sem,ZQ t h1];exact hold t h1
   ·simp only[go_sem]
   ·rw[XI a1 a0,g x,if_neg (by omega),if_neg (by omega)];exact w9 x hx
  |false =>
   rw[hc] at o1;simp only[go_sem,OS,q0,q2,q3,RR,Z8,Wy,qb,b1,b2,r1,r2,c1,o1,w0,ad4];refine hk _ _ L' (fun t h1=>?_) Hy hp w9 (Xf hR (by omega));simp only[go_sem,ZQ t h1];exact hold t h1
 ·have Wy:¬P.length+(q+1)<P.length+L.length:=by omega
  simp only[go_sem,OS,q2,RR,Z8,Wy];refine hk _ _ L' (fun t h1=>?_) Hy hp w9 hR;simp only[go_sem,ZQ t h1];exact hold t h1
theorem nX {L:List Nat}{r:Nat}(hr:r+1<L.length)(hs:rB L (r+1)):rB (Qg r (UB L (r+1) r)) (r+1)/\(Qg r (UB L (r+1) r)).Perm L/\(Qg r (UB L (r+1) r)).length=L.length:=by
 have h0:r<L.length:=by omega
 have g:=fun x=>PL (M:=L) (i:=r+1) (j:=r) (x:=x) hr h0
 have hl:=Vj L (r+1) r;obtain⟨L1,hL1⟩:∃L1,L1=UB L (r+1) r:=⟨_,rfl⟩;rw[<-hL1] at g hl ⊢;have xT:r<L1.length:=by omega
 have sD:L1=L1.take r++L1[r]::L1.drop (r+1):=by
  rw[<-aeY xT,List.take_append_drop]
 have hA:(L1.take r).Pairwise (·<=·):=by
  rw[afS];intro i j hi hj Ul;rw[afH] at hi hj;rw[List.getElem_take,List.getElem_take,<-ZJ,<-ZJ,g i,g j,if_neg (by omega),if_neg (by omega),if_neg (by omega),if_neg (by omega)];exact hs i j Ul (by omega)
 obtain⟨A2,b1,b2,b3⟩:=K8 r (L1.take r) (L1.drop (r+1)) L1[r] (by rw[afH];omega) hA;rw[<-sD] at b1;have hA2:A2.length=r+1:=by
  have:=b2.length_eq;rw[aeW,afH,aff] at this;omega
 refine⟨fun x y Ge hy=>?_,?_,by rw[HK];exact hl⟩
 ·rw[b1];have e:∀z,z<r+1->∃h:z<A2.length,gt (A2++L1.drop (r+1)) z=A2[z]:=fun z hz=>by
   refine⟨by omega,?_⟩;rw[ZJ (by rw[aeW];omega),afv (by omega)]
  obtain⟨h1,e1⟩:=e x (by omega);obtain⟨h2,e2⟩:=e y hy;rw[e1,e2];exact afS.1 b3 x y h1 h2 Ge
 ·have h1:(Qg r L1).Perm L1:=by
   rw[b1];have:=b2.append_right (L1.drop (r+1));rw[aft] at this;refine this.trans ?_;rw[List.singleton_append,<-sD]
  exact h1.trans (by rw[hL1];exact XA hr h0)
theorem rB.pair {L:List Nat}(h:rB L L.length):L.Pairwise (·<=·):=by
 rw[afS];intro i j hi hj Ul;have:=h i j Ul hj
 rwa [ZJ hi,ZJ hj] at this
theorem ac' {k n b:Nat}{cap:Option Nat}{P M S:List Nat}(WX:0<k)(hL:P.length+M.length+S.length=n)(hn:n<=2^20)(hM:1<=M.length)(DZ:OV P M){s:St}(gb:s.get b=some (.cells (WT k (P++M++S)) 55 false 0 0))(hb:b<s.next)(fr:Fr s) :
  ∃s' M' fl,WW U 202 [.sl b 0 n cap 2,.int .i64 (P.length:Nat),.int .i64 (P.length+M.length:Nat),.fn (.func 91) [] []] s=some (.bool fl,s')/\Y4 k b s (P++M'++S) s'/\M'.Perm M/\(fl=true->M'.Pairwise (·<=·)):=by
 suffices TK:∃x M' fl,go U (XZ U [.tmp 8]) [] gD (ZM 0 [.sl b 0 n cap 2,.int .i64 (P.length:Nat),.int .i64 (P.length+M.length:Nat),.fn (.func 91) [] []] .nil) s=some x/\x.1=.bool fl/\Y4 k b s (P++M'++S) x.2/\M'.Perm M/\(fl=true->M'.Pairwise (·<=·)) by
  obtain⟨⟨v,s'⟩,M',fl,h1,h2,h3⟩:=TK;simp only at h2;subst h2;exact⟨s',M',fl,Y3 aee (by kernel_rfl) h1,h3⟩
 obtain⟨ZV,mu⟩:∃ZV:Option (AV×St)->Prop,ZV=fun o=>∃x M' fl,o=some x/\x.1=.bool fl/\Y4 k b s (P++M'++S) x.2/\M'.Perm M/\(fl=true->M'.Pairwise (·<=·)):=⟨_,rfl⟩
 have abd:∀o,ZV o->∃x M' fl,o=some x/\x.1=.bool fl/\Y4 k b s (P++M'++S) x.2/\M'.Perm M/\(fl=true->M'.Pairwise (·<=·)):=fun o h=>by rw[mu] at h;exact h
 have mk:∀(M':List Nat) (fl:Bool) (s':St),Y4 k b s (P++M'++S) s'->M'.Perm M->(fl=true->M'.Pairwise (·<=·))->ZV (some (.bool fl,s')):=fun M' fl s' h1 h2 h3=>by rw[mu];exact⟨_,M',fl,rfl,rfl,h1,h2,h3⟩
 refine abd _ ?_;have w1:IntKind.i64.wrap (((P.length:Nat):Int)+1)=((P.length+1:Nat):Int):=Zq (by omega) (by omega);simp only[go_sem,gD,w1];refine ZC (ZV:=ZV) (σ:=Nat×Nat) (fun p=>5-p.1) (fun p e' s'=>p.1<=5/\1<=p.2/\p.2<=M.length/\Env.get e' 0=.sl b 0 n cap 2/\Env.get e' 1=.int .i64 (P.length:Nat)/\Env.get e' 2=.int .i64 (P.length+M.length:Nat)/\Env.get e' 3=.fn (.func 91) [] []/\Env.get e' 9=.int .i64 (P.length+p.2:Nat)/\Env.get e' 10=.int .i64 (p.1:Nat) /\
   ∃L',L'.length=M.length/\L'.Perm M/\rB L' p.2/\Y4 k b s (P++L'++S) s') (0,1) ?_
  ⟨ae5 _,aba _,hM,?_,?_,?_,?_,?_,?_,M,rfl,List.Perm.refl _,fun x y h1 h2=>by simp only at h2;omega,⟨gb,fun _ _ _=>rfl,aba _,fr⟩⟩
 ·rintro Lp ⟨c,i⟩ e1 s1 ⟨hc5,fD,lO,q0,q1,q2,q3,q9,Um,L,hl,hp,MD,hR⟩ IH;simp only at hc5 fD lO q9 Um MD;have nW:decide (((c:Nat):Int)<5)=decide (c<5):=by
   have:((c:Nat):Int)<5<->c<5:=by omega
   exact decide_eq_decide.2 this
  cases hc:decide (c<5) with
  |false =>
   rw[hc] at nW;simp only[go_sem,Gu,Um,nW];exact mk L false _ hR hp fun h=>by cases h
  |true =>
   rw[hc] at nW;have hc:=of_decide_eq_true hc;obtain⟨qb,_,_,Kr⟩:=id hR;simp only[go_sem,Gu,Um,nW];refine er (ZV:=ZV) WX (P:=P) (L:=L) (S:=S) (n:=n) (i:=i) (m:=0) (b:=b) (cap:=cap) (by omega) hn fD (by omega) MD ?_ ?_ ?_ ?_ qb Kr fun e2 s2 i2 Vy p9 v1 v2 v3 v4 WC NA TC=>?_
   case refine_5 =>
    have TB:=Rj hR WC NA TC;have E2:∀t:Nat,t<11->t≠9->Env.get e2 t=Env.get e1 t:=fun t ht h9=>by
     rw[Vy t (by omega) h9];have ZQ:∀k:Nat,11<=k->(k=t)=False:=fun k hk=>by simp;omega
     simp only[go_sem,ZQ]
    have p0:=(E2 0 (by omega) (by omega)).trans q0;have p1:=(E2 1 (by omega) (by omega)).trans q1;have p2:=(E2 2 (by omega) (by omega)).trans q2;have p3:=(E2 3 (by omega) (by omega)).trans q3;have G5:=(E2 10 (by omega) (by omega)).trans Um;by_cases hm:i2=M.length
    ·have heq:(((P.length+i2:Nat):Int)==((P.length+M.length:Nat):Int))=true:=by rw[hm];simp
     simp only[go_sem,p2,p9,heq];exact mk L true _ TB hp fun _=>rB.pair (by rw[hl,<-hm];exact v3)
    ·have heq:(((P.length+i2:Nat):Int)==((P.length+M.length:Nat):Int))=false:=beq_eq_false_iff_ne.2 (by omega);have wm:IntKind.i64.wrap (((P.length+M.length:Nat):Int)-((P.length:Nat):Int))=((M.length:Nat):Int):=Zq (by omega) (by omega)
     cases h50:decide (((M.length:Nat):Int)<50) with
     |true =>
      simp only[go_sem,p1,p2,p9,heq,wm,h50];exact mk L false _ TB hp fun h=>by cases h
     |false =>
      obtain⟨r,rfl⟩:∃r,i2=r+1:=⟨i2-1,by omega⟩;have a1:r+1<L.length:=by omega
      have a0:r<L.length:=by omega
      have b1:P.length+(r+1)<n:=by omega
      have b2:P.length+r<n:=by omega
      have r1:=YW k (P:=P) (M:=L) (S:=S) a1;have r2:=YW k (P:=P) (M:=L) (S:=S) a0;have y1:=VB k (P:=P) (M:=L) (S:=S) (i:=r+1) L[r] a1;have y2:=VB k (P:=P) (M:=L.set (r+1) L[r]) (S:=S) (i:=r) L[r+1] (by simpa using a0);have w2:IntKind.i64.wrap (((P.length+(r+1):Nat):Int)-1)=((P.length+r:Nat):Int):=Zq (by omega) (by omega);have w3:IntKind.i64.wrap (((P.length+(r+1):Nat):Int)-((P.length:Nat):Int))=((r+1:Nat):Int):=Zq (by omega) (by omega);have w4:IntKind.i64.wrap (((P.length+M.length:Nat):Int)-((P.length+(r+1):Nat):Int))=((M.length-(r+1):Nat):Int):=Zq (by omega) (by omega);have w5:IntKind.i64.wrap (((P.length+(r+1):Nat):Int)+1)=((P.length+(r+1+1):Nat):Int):=Zq (by omega) (by omega);have w6:IntKind.i64.wrap (((c:Nat):Int)+1)=((c+1:Nat):Int):=Zq (by omega) (by omega);obtain⟨z1,z2,z3⟩:=nX a1 v3;have xl:=XI a1 a0;have E8:=Vj L (r+1) r;have aek:=XA a1 a0;have left:∀(e3:Env) (s3:St),Env.get e3 0=.sl b 0 n cap 2->Env.get e3 1=.int .i64 (P.length:Nat)->Env.get e3 2=.int .i64 (P.length+M.length:Nat)->Env.get e3 3=.fn (.func 91) [] []->Env.get e3 9=.int .i64 (P.length+(r+1):Nat)->Env.get e3 10=.int .i64 (c:Nat)->Y4 k b s (P++Qg r (UB L (r+1) r)++S) s3 ->
        ZV (go U (XZ U [.tmp 8]) [.bk 1,.sq (.ops [o 17 (.Z1 (.t 10)),o 18 (.bin .add 3 true (.t 17) (.v (.int .i64 1))),o 10 (.Z1 (.t 18))]),.lp Lp,.bk 0,.sq (.seq (.ops [o 8 (.Z1 (.v (.bool false)))]) .ret)] Gv e3 s3):=by
       intro e3 s3 t0 t1 t2 t3 t9 t10 JC
       cases SY:decide (((M.length-(r+1):Nat):Int)>=2) with
       |true =>
        simp only[go_sem,Gv,t2,t9,w4,SY,w5];refine eo (ZV:=ZV) WX (P:=P) (L:=Qg r (UB L (r+1) r)) (S:=S) (n:=n) (i:=r+1) (b:=b) (cap:=cap) (by omega) hn (by omega) (s0:=s) hb ?_ ?_ ?_ ?_ JC fun e4 s4 L4 h4a hl4 fS sC nL=>?_
        case refine_5 =>
         have E4:∀t:Nat,t<11->Env.get e4 t=Env.get e3 t:=fun t ht=>by
          rw[h4a t ht];have ZQ:∀k:Nat,11<=k->(k=t)=False:=fun k hk=>by simp;omega
          simp only[go_sem,ZQ]
         have m0:=(E4 0 (by omega)).trans t0;have m1:=(E4 1 (by omega)).trans t1;have m2:=(E4 2 (by omega)).trans t2;have m3:=(E4 3 (by omega)).trans t3;have m9:=(E4 9 (by omega)).trans t9;have m10:=(E4 10 (by omega)).trans t10;simp only[go_sem,m10,w6];refine IH (c+1,r+1) _ _ (by simp only;omega) ⟨by simp only;omega,by simp only;omega,by simp only;omega,?_,?_,?_,?_,?_,?_,L4,by omega,(fS.trans z2).trans hp,fun x y Ge hy=>by simp only at hy;rw[sC x (by omega),sC y hy];exact z1 x y Ge hy,nL⟩
         all_goals simp only[go_sem,m0,m1,m2,m3,m9]
        case refine_2 =>
         rw[z3,hl];simp only[go_sem,t2]
        all_goals simp only[go_sem,t0,t3]
       |false =>
        simp only[go_sem,Gv,t2,t9,t10,w4,SY,w6];refine IH (c+1,r+1) _ _ (by simp only;omega) ⟨by simp only;omega,by simp only;omega,by simp only;omega,?_,?_,?_,?_,?_,?_,Qg r (UB L (r+1) r),by omega,z2.trans hp,z1,JC⟩
        all_goals simp only[go_sem,t0,t1,t2,t3,t9]
      cases SY:decide (((r+1:Nat):Int)>=2) with
      |true =>
       have xQ:1<=r:=by have:=of_decide_eq_true SY;omega
       simp only[go_sem,p0,p1,p2,p9,heq,wm,h50,TB.1,b1,b2,r1,r2,y1,y2,w2,w3,SY,ad4];have JC:Y4 k b s (P++UB L (r+1) r++S) (((s2.upto (s2.next+18)).put b (.cells (WT k (P++L.set (r+1) L[r]++S)) 55 false 0 0)).put b (.cells (WT k (P++(L.set (r+1) L[r]).set r L[r+1]++S)) 55 false 0 0)):=by rw[xl];exact XE TB hb (by omega)
       refine ep (ZV:=ZV) WX (P:=P) (L:=UB L (r+1) r) (S:=S) (n:=n) (i:=r) (b:=b) (cap:=cap) (by omega) hn (by omega) (DZ.perm (aek.trans hp)) (s0:=s) hb ?_ ?_ ?_ JC fun e3 s3 QG nL=>?_
       case refine_4 =>
        have E3:∀t:Nat,t<11->Env.get e3 t=Env.get e2 t:=fun t ht=>by
         rw[QG t ht];have ZQ:∀k:Nat,11<=k->(k=t)=False:=fun k hk=>by simp;omega
         simp only[go_sem,ZQ]
        simp only[go_sem];exact left e3 s3 ((E3 0 (by omega)).trans p0) ((E3 1 (by omega)).trans p1) ((E3 2 (by omega)).trans p2) ((E3 3 (by omega)).trans p3) ((E3 9 (by omega)).trans p9) ((E3 10 (by omega)).trans G5) nL
       all_goals simp only[go_sem,p0,p3]
      |false =>
       have nh:r=0:=by have:=of_decide_eq_false SY;omega
       simp only[go_sem,p0,p1,p2,p9,heq,wm,h50,TB.1,b1,b2,r1,r2,y1,y2,w2,w3,SY,ad4];have JC:Y4 k b s (P++Qg r (UB L (r+1) r)++S) (((s2.upto (s2.next+18)).put b (.cells (WT k (P++L.set (r+1) L[r]++S)) 55 false 0 0)).put b (.cells (WT k (P++(L.set (r+1) L[r]).set r L[r+1]++S)) 55 false 0 0)):=by
        have e:Qg r (UB L (r+1) r)=UB L (r+1) r:=by subst nh;rfl
        rw[e,xl];exact XE TB hb (by omega)
       refine left _ _ ?_ ?_ ?_ ?_ ?_ ?_ JC
       all_goals simp only[go_sem,p0,p1,p2,p3,p9,G5]
   all_goals simp only[go_sem,q0,q2,q3,q9,hl]
 all_goals simp only[go_sem]
 all_goals rfl
def tM (w:Nat)(s s':St):Prop:=(∃c:Int,s'.get w=some (.cells [.int .i64 c] 3 false 0 0))/\(∀q,q<s.next->q≠w->s'.get q=s.get q)/\s.next<=s'.next/\Fr s'
theorem tM.trans {w:Nat}{s s1 s2:St}(h:tM w s s1)(h':tM w s1 s2):tM w s s2 :=
 ⟨h'.1,fun q h1 h2=>(h'.2.1 q (by have:=h.2.2.1;omega) h2).trans (h.2.1 q h1 h2),by have:=h.2.2.1;have:=h'.2.2.1;omega,h'.2.2.2⟩
theorem aaw (args:List AV)(s:St):YX U (Zv U 258 args) 258 args s=WW U 258 args s:=(Zu ..).symm
theorem JX (args:List AV)(s:St):YX U (Zv U 230 args) 230 args s=WW U 230 args s:=(Zu ..).symm
theorem tL (args:List AV)(s:St):YX U (Zv U 229 args) 229 args s=WW U 229 args s:=(Zu ..).symm
theorem iA {k n b w i j:Nat}{cap:Option Nat}{P M S:List Nat}(WX:0<k)(hL:P.length+M.length+S.length=n)(hi:i<M.length)(hj:j<M.length){c:Int}{s:St}(gb:s.get b=some (.cells (WT k (P++M++S)) 55 false 0 0))(gw:s.get w=some (.cells [.int .i64 c] 3 false 0 0))(hw:w<s.next)(fr:Fr s) :
  ∃x y s',WW U 258 [.sl b 0 n cap 2,.int .i64 (P.length+i:Nat),.int .i64 (P.length+j:Nat),.ptr w 0,.fn (.func 91) [] []] s=some (.X' [.int .i64 (P.length+x:Nat),.int .i64 (P.length+y:Nat)],s')/\(x=i/\y=j\/x=j/\y=i)/\tM w s s':=by
 suffices TK:∃o x y,go U (XZ U [.tmp 10,.tmp 11]) [] oU (ZM 0 [.sl b 0 n cap 2,.int .i64 (P.length+i:Nat),.int .i64 (P.length+j:Nat),.ptr w 0,.fn (.func 91) [] []] .nil) s=some o/\o.1=.X' [.int .i64 (P.length+x:Nat),.int .i64 (P.length+y:Nat)]/\(x=i/\y=j\/x=j/\y=i)/\tM w s o.2 by
  obtain⟨⟨v,s'⟩,x,y,h1,h2,h3⟩:=TK;simp only at h2;subst h2;exact⟨x,y,s',Y3 adJ (by kernel_rfl) h1,h3⟩
 have bi:P.length+i<n:=by omega
 have bj:P.length+j<n:=by omega
 have ri:=YW k (P:=P) (M:=M) (S:=S) hi;have rj:=YW k (P:=P) (M:=M) (S:=S) hj;have c1:=Pc ((M[j] / k:Nat):Int) ((M[j]%k:Nat):Int) ((M[i] / k:Nat):Int) ((M[i]%k:Nat):Int);have o1:=(XC (k:=k) (c:=M[j]) (d:=M[i]) WX).1
 cases hc:decide (M[j]<M[i]) with
 |true =>
  rw[hc] at o1;simp only[go_sem,oU,gb,gw,bi,bj,ri,rj,c1,o1,ad4];refine⟨_,j,i,rfl,rfl,.inr ⟨rfl,rfl⟩,⟨_,by rw[Z7,if_pos rfl]⟩,fun q h1 h2=>?_,?_,?_⟩
  ·rw[Z7,if_neg h2.symm,Z0]
  ·simp only[Z9,Z_];omega
  ·exact (fr.upto (by omega)).put (by rw[Z_];omega) _
 |false =>
  rw[hc] at o1;simp only[go_sem,oU,gb,gw,bi,bj,ri,rj,c1,o1,ad4];exact⟨_,i,j,rfl,rfl,.inl ⟨rfl,rfl⟩,⟨c,by rw[Z0];exact gw⟩,fun q h1 h2=>by rw[Z0],by rw[Z_];omega,fr.upto (by omega)⟩
theorem iz {k n b w i j l:Nat}{cap:Option Nat}{P M S:List Nat}(WX:0<k)(hL:P.length+M.length+S.length=n)(hi:i<M.length)(hj:j<M.length)(hl:l<M.length){c:Int}{s:St}(gb:s.get b=some (.cells (WT k (P++M++S)) 55 false 0 0))(gw:s.get w=some (.cells [.int .i64 c] 3 false 0 0))(hb:b<s.next)(hw:w<s.next)(fr:Fr s) :
  ∃x s',WW U 230 [.sl b 0 n cap 2,.int .i64 (P.length+i:Nat),.int .i64 (P.length+j:Nat),.int .i64 (P.length+l:Nat),.ptr w 0,.fn (.func 91) [] []] s=some (.int .i64 (P.length+x:Nat),s')/\(x=i\/x=j\/x=l)/\tM w s s':=by
 have LO:b≠w:=YY gb gw (by decide)
 suffices TK:∃o x,go U (XZ U [.tmp 12]) [] iy (ZM 0 [.sl b 0 n cap 2,.int .i64 (P.length+i:Nat),.int .i64 (P.length+j:Nat),.int .i64 (P.length+l:Nat),.ptr w 0,.fn (.func 91) [] []] .nil) s=some o/\o.1=.int .i64 (P.length+x:Nat)/\(x=i\/x=j\/x=l)/\tM w s o.2 by
  obtain⟨⟨v,s'⟩,x,h1,h2,h3⟩:=TK;simp only at h2;subst h2;exact⟨x,s',Y3 adK (by kernel_rfl) h1,h3⟩
 obtain⟨x1,y1,s1,e1,d1,R1⟩:=iA (cap:=cap) WX hL hi hj gb gw hw fr;obtain⟨⟨c1,g1⟩,m1,n1,f1⟩:=id R1;obtain⟨x2,y2,s2,e2,d2,R2⟩:=iA (cap:=cap) (i:=y1) (j:=l) WX hL (by omega) hl ((m1 b hb LO).trans gb) g1 (by omega) f1;obtain⟨⟨c2,g2⟩,m2,n2,f2⟩:=id R2;obtain⟨x3,y3,s3,e3,d3,R3⟩:=iA (cap:=cap) (i:=x1) (j:=x2) WX hL (by omega) (by omega) ((m2 b (by omega) LO).trans ((m1 b hb LO).trans gb)) g2 (by omega) f2;simp only[go_sem,iy,aaw,e1,e2,e3];exact⟨_,y3,rfl,rfl,by omega,(R1.trans R2).trans R3⟩
theorem iw {k n b w i:Nat}{cap:Option Nat}{P M S:List Nat}(WX:0<k)(hL:P.length+M.length+S.length=n)(hn:n<=2^20)(hi:i+1<M.length)(fD:1<=i){c:Int}{s:St}(gb:s.get b=some (.cells (WT k (P++M++S)) 55 false 0 0))(gw:s.get w=some (.cells [.int .i64 c] 3 false 0 0))(hb:b<s.next)(hw:w<s.next)(fr:Fr s) :
  ∃x s',WW U 229 [.sl b 0 n cap 2,.int .i64 (P.length+i:Nat),.ptr w 0,.fn (.func 91) [] []] s=some (.int .i64 (P.length+x:Nat),s')/\x<M.length/\tM w s s':=by
 suffices TK:∃o x,go U (XZ U [.tmp 8]) [] iu (ZM 0 [.sl b 0 n cap 2,.int .i64 (P.length+i:Nat),.ptr w 0,.fn (.func 91) [] []] .nil) s=some o/\o.1=.int .i64 (P.length+x:Nat)/\x<M.length/\tM w s o.2 by
  obtain⟨⟨v,s'⟩,x,h1,h2,h3⟩:=TK;simp only at h2;subst h2;exact⟨x,s',Y3 adL (by kernel_rfl) h1,h3⟩
 have w1:IntKind.i64.wrap (((P.length+i:Nat):Int)-1)=((P.length+(i-1):Nat):Int):=Zq (by omega) (by omega);have w2:IntKind.i64.wrap (((P.length+i:Nat):Int)+1)=((P.length+(i+1):Nat):Int):=Zq (by omega) (by omega);obtain⟨x,s',e,d,R⟩:=iz (cap:=cap) (i:=i-1) (j:=i) (l:=i+1) WX hL (by omega) (by omega) hi gb gw hb hw fr;simp only[go_sem,iu,w1,w2,JX,e];exact⟨_,x,rfl,rfl,by omega,R⟩
theorem acN {k n b:Nat}{cap:Option Nat}{P M S:List Nat}(WX:0<k)(hL:P.length+M.length+S.length=n)(hn:n<=2^20)(hM:8<=M.length){s:St}(gb:s.get b=some (.cells (WT k (P++M++S)) 55 false 0 0))(hb:b<s.next)(fr:Fr s) :
  ∃x h s',WW U 200 [.sl b 0 n cap 2,.int .i64 (P.length:Nat),.int .i64 (P.length+M.length:Nat),.fn (.func 91) [] []] s=some (.X' [.int .i64 (P.length+x:Nat),.int .i64 h],s')/\x<M.length/\(h=0\/h=1\/h=2)/\Y4 k b s (P++M++S) s':=by
 suffices TK:∃o x h,go U (XZ U [.tmp 8,.tmp 9]) [] Ey (ZM 0 [.sl b 0 n cap 2,.int .i64 (P.length:Nat),.int .i64 (P.length+M.length:Nat),.fn (.func 91) [] []] .nil) s=some o/\o.1=.X' [.int .i64 (P.length+x:Nat),.int .i64 h]/\x<M.length/\(h=0\/h=1\/h=2)/\Y4 k b s (P++M++S) o.2 by
  obtain⟨⟨v,s'⟩,x,h,h1,h2,h3⟩:=TK;simp only at h2;subst h2;exact⟨x,h,s',Y3 adM (by kernel_rfl) h1,h3⟩
 have w1:IntKind.i64.wrap (((P.length+M.length:Nat):Int)-((P.length:Nat):Int))=((M.length:Nat):Int):=Zq (by omega) (by omega);have qd:X_ U .quo 3 true (.int .i64 ((M.length:Nat):Int)) (.int .i64 4)=some (.int .i64 ((M.length / 4:Nat):Int)):=O7 U 3 true (d:=4) (by omega) (by omega);have hq4:4*(M.length / 4)<=M.length:=Nat.mul_div_le M.length 4;have iq:2<=M.length / 4:=by omega
 have v1:IntKind.i64.wrap (((M.length / 4:Nat):Int)*1)=((M.length / 4*1:Nat):Int):=Zq (by omega) (by omega);have v2:IntKind.i64.wrap (((M.length / 4:Nat):Int)*2)=((M.length / 4*2:Nat):Int):=Zq (by omega) (by omega);have v3:IntKind.i64.wrap (((M.length / 4:Nat):Int)*3)=((M.length / 4*3:Nat):Int):=Zq (by omega) (by omega);generalize M.length / 4=Q at *;have u1:IntKind.i64.wrap (((P.length:Nat):Int)+((Q*1:Nat):Int))=((P.length+Q*1:Nat):Int):=Zq (by omega) (by omega);have u2:IntKind.i64.wrap (((P.length:Nat):Int)+((Q*2:Nat):Int))=((P.length+Q*2:Nat):Int):=Zq (by omega) (by omega);have u3:IntKind.i64.wrap (((P.length:Nat):Int)+((Q*3:Nat):Int))=((P.length+Q*3:Nat):Int):=Zq (by omega) (by omega);have h8:decide (((M.length:Nat):Int)>=8)=true:=decide_eq_true (by omega);obtain⟨S0,KY⟩:∃S0,S0=s.new (.cells [.int .i64 0] 3 false 0 0):=⟨_,rfl⟩;have aeN:S0.next=s.next+1:=by rw[KY,Z']
 have fB:S0.get b=some (.cells (WT k (P++M++S)) 55 false 0 0):=by rw[KY,ZZ,if_neg (by omega)];exact gb
 have gw0:S0.get s.next=some (.cells [.int .i64 0] 3 false 0 0):=by rw[KY,ZZ,if_pos rfl]
 have k0:∀j,j<s.next->S0.get j=s.get j:=fun j h=>by rw[KY,ZZ,if_neg (by omega)]
 have fr0:Fr S0:=by rw[KY];exact fr.new _
 have LO:b≠s.next:=by omega
 have done:∀s',tM s.next S0 s'->Y4 k b s (P++M++S) s':=fun s' h =>
  ⟨(h.2.1 b (by omega) LO).trans fB,fun j h1 h2=>(h.2.1 j (by omega) (by omega)).trans (k0 j h1),by have:=h.2.2.1;omega,h.2.2.2⟩
 cases h50:decide (((M.length:Nat):Int)>=50) with
 |false =>
  obtain⟨x,s',e,d,R⟩:=iz (cap:=cap) (i:=Q*1) (j:=Q*2) (l:=Q*3) WX hL (by omega) (by omega) (by omega) fB gw0 (by omega) (by omega) fr0;obtain⟨⟨c',g'⟩,_,_,_⟩:=id R;have hd:=done s' R;rw[KY] at e
  cases z0:c'==0 with
  |true =>
   simp only[go_sem,Ey,w1,qd,v1,v2,v3,u1,u2,u3,h8,h50,JX,e,g',z0];exact⟨_,x,1,rfl,rfl,by omega,.inr (.inl rfl),hd⟩
  |false =>
   cases z1:c'==12 with
   |true =>
    simp only[go_sem,Ey,w1,qd,v1,v2,v3,u1,u2,u3,h8,h50,JX,e,g',z0,z1];exact⟨_,x,2,rfl,rfl,by omega,.inr (.inr rfl),hd⟩
   |false =>
    simp only[go_sem,Ey,w1,qd,v1,v2,v3,u1,u2,u3,h8,h50,JX,e,g',z0,z1];exact⟨_,x,0,rfl,rfl,by omega,.inl rfl,hd⟩
 |true =>
  obtain⟨x1,s1,e1,d1,R1⟩:=iw (cap:=cap) (i:=Q*1) WX hL hn (by omega) (by omega) fB gw0 (by omega) (by omega) fr0;obtain⟨⟨c1,g1⟩,m1,n1,f1⟩:=id R1;obtain⟨x2,s2,e2,d2,R2⟩:=iw (cap:=cap) (i:=Q*2) WX hL hn (by omega) (by omega) ((m1 b (by omega) LO).trans fB) g1 (by omega) (by omega) f1;obtain⟨⟨c2,g2⟩,m2,n2,f2⟩:=id R2;obtain⟨x3,s3,e3,d3,R3⟩:=iw (cap:=cap) (i:=Q*3) WX hL hn (by omega) (by omega) ((m2 b (by omega) LO).trans ((m1 b (by omega) LO).trans fB)) g2 (by omega) (by omega) f2;obtain⟨⟨c3,g3⟩,m3,n3,f3⟩:=id R3;obtain⟨x,s',e,d,R⟩:=iz (cap:=cap) (i:=x1) (j:=x2) (l:=x3) WX hL d1 d2 d3 ((m3 b (by omega) LO).trans ((m2 b (by omega) LO).trans ((m1 b (by omega) LO).trans fB))) g3 (by omega) (by omega) f3;obtain⟨⟨c',g'⟩,_,_,_⟩:=id R;have hd:=done s' (((R1.trans R2).trans R3).trans R);have hx:x<M.length:=by rcases d with h|h|h <;> omega
  rw[KY] at e1
  cases z0:c'==0 with
  |true =>
   simp only[go_sem,Ey,w1,qd,v1,v2,v3,u1,u2,u3,h8,h50,tL,JX,e1,e2,e3,e,g',z0];exact⟨_,x,1,rfl,rfl,hx,.inr (.inl rfl),hd⟩
  |false =>
   cases z1:c'==12 with
   |true =>
    simp only[go_sem,Ey,w1,qd,v1,v2,v3,u1,u2,u3,h8,h50,tL,JX,e1,e2,e3,e,g',z0,z1];exact⟨_,x,2,rfl,rfl,hx,.inr (.inr rfl),hd⟩
   |false =>
    simp only[go_sem,Ey,w1,qd,v1,v2,v3,u1,u2,u3,h8,h50,tL,JX,e1,e2,e3,e,g',z0,z1];exact⟨_,x,0,rfl,rfl,hx,.inl rfl,hd⟩
theorem wrap_u64 (n:Int):IntKind.u64.wrap n=n%18446744073709551616:=by simp[IntKind.wrap,IntKind.bits,IntKind.signed]
def tD (n:Nat)(v:Option AV):Bool:=match v with
 |some (.int .u64 m)=>(List.range 8).any fun j=>decide (m=((2^j:Nat):Int))&&decide (n<2^j)&&decide (2^j<=2*n)
 |_=>false
theorem tC:(List.range 65).all (fun n=>decide (n<8)||tD n (YV U (exec U 1000) 227 [.int .i64 (n:Int)] true))=true:=by kernel_rfl
theorem adS {n:Nat}(h8:8<=n)(h:n<=64):∃j,Zv U 227 [.int .i64 (n:Int)]=some (.int .u64 ((2^j:Nat):Int))/\n<2^j/\2^j<=2*n:=by
 have h1:=ae9.1 tC n (afh.2 (by omega));have h2:decide (n<8)=false:=decide_eq_false (by omega);rw[h2,afV] at h1
 cases hv:YV U (exec U 1000) 227 [.int .i64 (n:Int)] true with
 |none=>rw[hv] at h1;cases h1
 |some v =>
  rw[hv] at h1;unfold tD at h1
  split at h1
  ·rename_i m hm
   cases hm
   obtain⟨j,_,hj⟩:=List.any_eq_true.1 h1;simp only[aab,decide_eq_true_iff] at hj;obtain⟨⟨rfl,h4⟩,h5⟩:=hj;exact⟨j,Wn (by kernel_rfl) rfl (Zo U hv),h4,h5⟩
  ·cases h1
def mJ (v:Option AV):Bool:=match v with
 |some (.int .i64 _)=>true
 |_=>false
theorem oQ:(List.range 65).all (fun n=>mJ (YV U (exec U 1000) 151 [.int .u64 (n:Int)] true))=true:=by kernel_rfl
theorem acX {n:Nat}(h:n<=64):∃v:Int,Zv U 151 [.int .u64 (n:Int)]=some (.int .i64 v):=by
 have h1:=ae9.1 oQ n (afh.2 (by omega))
 cases hv:YV U (exec U 1000) 151 [.int .u64 (n:Int)] true with
 |none=>rw[hv] at h1;cases h1
 |some v =>
  rw[hv] at h1;unfold mJ at h1
  split at h1
  ·rename_i m hm
   cases hm
   exact⟨m,Wn (by kernel_rfl) rfl (Zo U hv)⟩
  ·cases h1
theorem mI (args:List AV)(s:St):YX U (Zv U 228 args) 228 args s=WW U 228 args s:=(Zu ..).symm
theorem mH (x y:Int)(hy:¬y<0):∃z:Int,X_ U .shl 293 true (.int .u64 x) (.int .u64 y)=some (.int .u64 z):=⟨_,by simp only[X_,PE,if_neg hy];rfl⟩
theorem aaD (x y:Int)(hy:¬y<0):∃z:Int,X_ U .shr 293 true (.int .u64 x) (.int .u64 y)=some (.int .u64 z):=⟨_,by simp only[X_,PE,if_neg hy];rfl⟩
theorem tB (x y:Int):∃z:Int,X_ U .xor 293 false (.int .u64 x) (.int .u64 y)=some (.int .u64 z):=⟨_,by simp only[X_,RH,if_true];rfl⟩
theorem adT {w:Nat}{c:Int}{s:St}(gw:s.get w=some (.cells [.int .u64 c] 293 false 0 0))(hw:w<s.next)(fr:Fr s) :
  ∃(c':Int) (s':St),WW U 228 [.ptr w 0] s=some (.int .u64 c',s')/\s'.get w=some (.cells [.int .u64 c'] 293 false 0 0)/\(∀q,q<s.next->q≠w->s'.get q=s.get q)/\s.next<=s'.next/\Fr s':=by
 suffices TK:∃(x:AV×St) (c':Int),go U (XZ U [.tmp 2]) [] ie (ZM 0 [.ptr w 0] .nil) s=some x/\x.1=.int .u64 c'/\x.2.get w=some (.cells [.int .u64 c'] 293 false 0 0)/\(∀q,q<s.next->q≠w->x.2.get q=s.get q)/\s.next<=x.2.next/\Fr x.2 by
  obtain⟨⟨v,s'⟩,c',h1,h2,h3⟩:=TK;simp only at h2;subst h2;exact⟨c',s',Y3 adU (by kernel_rfl) h1,h3⟩
 obtain⟨a1,h1⟩:=mH c 13 (by decide);obtain⟨a2,h2⟩:=tB c a1;obtain⟨a3,h3⟩:=aaD a2 7 (by decide);obtain⟨a4,h4⟩:=tB a2 a3;obtain⟨a5,h5⟩:=mH a4 17 (by decide);obtain⟨a6,h6⟩:=tB a4 a5;simp only[go_sem,ie,gw,h1,h2,h3,h4,h5,h6];refine⟨_,a6,rfl,rfl,by rw[Z7,if_pos rfl],fun q h1 h2=>?_,?_,?_⟩
 ·rw[Z7,if_neg (fun e=>h2 e.symm),Z0,Z7,if_neg (fun e=>h2 e.symm),Z0,Z7,if_neg (fun e=>h2 e.symm),Z0]
 ·simp only[Z9,Z_];omega
 ·repeat first|exact fr|apply Fr.new|apply Fr.put|apply Fr.upto
  all_goals try simp only[Z9,Z',Z_]
  all_goals omega
theorem aaE {j:Nat}(hj:j<=62)(x:Int):∃r:Nat,r<2^j/\X_ U .and 236 false (.int .u64 x) (.int .u64 ((2^j-1:Nat):Int))=some (.int .u64 ((r:Nat):Int)):=by
 have hp:2^j<=2^62:=Nat.pow_le_pow_right (by omega) hj;have bQ:0<2^j:=Nat.two_pow_pos j;have hb:(BitVec.ofInt 64 ((2^j-1:Nat):Int)).toNat=2^j-1:=by
  rw[BitVec.ofInt_natCast,BitVec.toNat_ofNat,Nat.mod_eq_of_lt (by omega)]
 have hle:(BitVec.ofInt 64 x &&& BitVec.ofInt 64 ((2^j-1:Nat):Int)).toNat<=2^j-1:=by
  rw[BitVec.toNat_and,hb];exact Nat.and_le_right
 refine⟨(BitVec.ofInt 64 x &&& BitVec.ofInt 64 ((2^j-1:Nat):Int)).toNat,by omega,?_⟩;simp only[X_,RH,if_true];have hw:∀m:Nat,m<2^64->IntKind.u64.wrap ((m:Nat):Int)=(m:Int):=fun m hm=>by
  rw[wrap_u64];omega
 show some (AV.int .u64 (IntKind.u64.wrap (((BitVec.ofInt 64 x &&& BitVec.ofInt 64 ((2^j-1:Nat):Int)).toNat:Nat):Int)))=_;rw[hw _ (by omega)]
theorem oK:U.Zt 293=some (.int .u64):=by kernel_rfl
theorem vt {a:Int}{n:Nat}(h:a=(n:Int))(hn:n<2^62):IntKind.u64.wrap a=(n:Int):=by
 subst h;rw[wrap_u64];omega
theorem acT {k n b:Nat}{cap:Option Nat}{P M S:List Nat}(hL:P.length+M.length+S.length=n)(hn:n<=2^20)(hM:8<=M.length)(hM2:M.length<=64){fn:AV}{s:St}(gb:s.get b=some (.cells (WT k (P++M++S)) 55 false 0 0))(hb:b<s.next)(fr:Fr s) :
  ∃v s' M',WW U 199 [.sl b 0 n cap 2,.int .i64 (P.length:Nat),.int .i64 (P.length+M.length:Nat),fn] s=some (v,s')/\Y4 k b s (P++M'++S) s'/\M'.Perm M:=by
 suffices TK:∃x M',go U (XZ U []) [] ib (ZM 0 [.sl b 0 n cap 2,.int .i64 (P.length:Nat),.int .i64 (P.length+M.length:Nat),fn] .nil) s=some x/\Y4 k b s (P++M'++S) x.2/\M'.Perm M by
  obtain⟨x,M',h1,h2⟩:=TK;exact⟨x.1,x.2,M',Y3 adX (by kernel_rfl) h1,h2⟩
 have w1:IntKind.i64.wrap (((P.length+M.length:Nat):Int)-((P.length:Nat):Int))=((M.length:Nat):Int):=Zq (by omega) (by omega);have h8:decide (((M.length:Nat):Int)>=8)=true:=decide_eq_true (by omega);have wu:IntKind.u64.wrap ((M.length:Nat):Int)=((M.length:Nat):Int):=vt rfl (by omega);obtain⟨j,cj,j1,j2⟩:=adS (n:=M.length) hM hM2;have adY:j<=62:=by
  rcases Nat.lt_or_ge 62 j with h|h
  ·have:2^63<=2^j:=Nat.pow_le_pow_right (by omega) h;omega
  ·exact h
 have wj:IntKind.u64.wrap (((2^j:Nat):Int)-1)=((2^j-1:Nat):Int):=vt (by omega) (by omega);have qd:X_ U .quo 3 true (.int .i64 ((M.length:Nat):Int)) (.int .i64 4)=some (.int .i64 ((M.length / 4:Nat):Int)):=O7 U 3 true (d:=4) (by omega) (by omega);have hq4:4*(M.length / 4)<=M.length:=Nat.mul_div_le M.length 4;have iq:2<=M.length / 4:=by omega
 have v2:IntKind.i64.wrap (((M.length / 4:Nat):Int)*2)=((M.length / 4*2:Nat):Int):=Zq (by omega) (by omega);generalize M.length / 4=Q at *;have u2:IntKind.i64.wrap (((P.length:Nat):Int)+((Q*2:Nat):Int))=((P.length+Q*2:Nat):Int):=Zq (by omega) (by omega);have u3:IntKind.i64.wrap (((P.length+Q*2:Nat):Int)-1)=((P.length+(Q*2-1):Nat):Int):=Zq (by omega) (by omega);have u4:IntKind.i64.wrap (((P.length+Q*2:Nat):Int)+1)=((P.length+(Q*2+1):Nat):Int):=Zq (by omega) (by omega);simp only[go_sem,ib,w1,h8,oK,wu,cj,qd,v2,u2,u3];refine ZC (ZV:=fun (o:Option (AV×St))=>∃x M',o=some x/\Y4 k b s (P++M'++S) x.2/\M'.Perm M) (σ:=Nat) (fun i=>Q*2+2-i) (fun i e' s'=>i<=Q*2+2/\Env.get e' 0=.sl b 0 n cap 2/\Env.get e' 1=.int .i64 (P.length:Nat)/\Env.get e' 8=.int .i64 (M.length:Nat)/\Env.get e' 9=.ptr s.next 0/\Env.get e' 10=.int .u64 ((2^j:Nat):Int)/\Env.get e' 11=.int .i64 (P.length+i:Nat) /\
   ∃L' c,L'.length=M.length/\L'.Perm M/\Y4 k b s (P++L'++S) s'/\s'.get s.next=some (.cells [.int .u64 c] 293 false 0 0)/\s.next<s'.next) (Q*2-1) ?_
  ⟨by omega,?_,?_,?_,?_,?_,?_,M,((M.length:Nat):Int),rfl,List.Perm.refl _,⟨?_,fun q h1 h2=>?_,?_,?_⟩,?_,?_⟩
 ·rintro Lp i e1 s1 ⟨hi,q0,q1,q8,q9,Um,NB,L,c,hl,hp,hR,hw,hwn⟩ IH;obtain⟨qb,Ur,nj,Kr⟩:=id hR;by_cases hd:i<=Q*2+1
  ·have hle:decide (((P.length+i:Nat):Int)<=((P.length+(Q*2+1):Nat):Int))=true:=decide_eq_true (by omega);obtain⟨c',s2,h255,g2,m2,n2,f2⟩:=adT hw hwn Kr;obtain⟨r,hr,hand⟩:=aaE adY c';have wr:IntKind.i64.wrap ((r:Nat):Int)=((r:Nat):Int):=Zq rfl (by omega);have nM:s2.get b=some (.cells (WT k (P++L++S)) 55 false 0 0):=(m2 b (by omega) (by omega)).trans qb;have TB:Y4 k b s (P++L++S) s2:=⟨nM,fun q h1 h2=>(m2 q (by omega) (by omega)).trans (Ur q h1 h2),by omega,f2⟩;have w5:IntKind.i64.wrap (((P.length+i:Nat):Int)+1)=((P.length+(i+1):Nat):Int):=Zq (by omega) (by omega);have ai:i<L.length:=by omega
   have key:∀(q:Nat),q<M.length->∀(E:Env),Env.get E 0=.sl b 0 n cap 2->Env.get E 1=.int .i64 (P.length:Nat)->True:=fun _ _ _ _ _=>trivial
   by_cases SY:M.length<=r
   ·have dge:decide (((r:Nat):Int)>=((M.length:Nat):Int))=true:=decide_eq_true (by omega);have ws:IntKind.i64.wrap (((r:Nat):Int)-((M.length:Nat):Int))=((r-M.length:Nat):Int):=Zq (by omega) (by omega);have aq:r-M.length<L.length:=by omega
    generalize r-M.length=q at *;have wq:IntKind.i64.wrap (((P.length:Nat):Int)+((q:Nat):Int))=((P.length+q:Nat):Int):=Zq (by omega) (by omega);have bi:P.length+i<n:=by omega
    have bq:P.length+q<n:=by omega
    have ri:=YW k (P:=P) (M:=L) (S:=S) ai;have rq:=YW k (P:=P) (M:=L) (S:=S) aq;have y0:=VB k (P:=P) (M:=L) (S:=S) (i:=i) L[q] ai;have y1:=VB k (P:=P) (M:=L.set i L[q]) (S:=S) (i:=q) L[i] (by simpa using aq);simp only[go_sem,Lb,q0,q1,q8,q9,Um,NB,qd,v2,u2,u4,hle,mI,h255,wj,hand,wr,dge,ws,wq,nM,bi,bq,ri,rq,y0,y1,w5,ad4];refine IH (i+1) _ _ (by omega) ⟨by omega,?_,?_,?_,?_,?_,?_,(L.set i L[q]).set q L[i],c',by simp[hl],by rw[XI ai aq];exact (XA ai aq).trans hp,XE TB hb (by omega),?_,?_⟩
    case refine_7=>rw[Z7,if_neg (by omega),Z7,if_neg (by omega),Z0];exact g2
    case refine_8=>simp only[Z9,Z_];omega
    all_goals simp only[go_sem,q0,q1,q8,q9,Um]
   ·have dge:decide (((r:Nat):Int)>=((M.length:Nat):Int))=false:=decide_eq_false (by omega);have aq:r<L.length:=by omega
    have wq:IntKind.i64.wrap (((P.length:Nat):Int)+((r:Nat):Int))=((P.length+r:Nat):Int):=Zq (by omega) (by omega);have bi:P.length+i<n:=by omega
    have bq:P.length+r<n:=by omega
    have ri:=YW k (P:=P) (M:=L) (S:=S) ai;have rq:=YW k (P:=P) (M:=L) (S:=S) aq;have y0:=VB k (P:=P) (M:=L) (S:=S) (i:=i) L[r] ai;have y1:=VB k (P:=P) (M:=L.set i L[r]) (S:=S) (i:=r) L[i] (by simpa using aq);simp only[go_sem,Lb,q0,q1,q8,q9,Um,NB,qd,v2,u2,u4,hle,mI,h255,wj,hand,wr,dge,wq,nM,bi,bq,ri,rq,y0,y1,w5,ad4];refine IH (i+1) _ _ (by omega) ⟨by omega,?_,?_,?_,?_,?_,?_,(L.set i L[r]).set r L[i],c',by simp[hl],by rw[XI ai aq];exact (XA ai aq).trans hp,XE TB hb (by omega),?_,?_⟩
    case refine_7=>rw[Z7,if_neg (by omega),Z7,if_neg (by omega),Z0];exact g2
    case refine_8=>simp only[Z9,Z_];omega
    all_goals simp only[go_sem,q0,q1,q8,q9,Um]
  ·have hle:decide (((P.length+i:Nat):Int)<=((P.length+(Q*2+1):Nat):Int))=false:=decide_eq_false (by omega);simp only[go_sem,Lb,q1,q8,NB,qd,v2,u2,u4,hle];exact⟨_,L,rfl,hR,hp⟩
 case refine_8=>rw[Z7,if_neg (by omega),ZZ,if_neg (by omega)];exact gb
 case refine_9=>rw[Z7,if_neg (by omega),ZZ,if_neg (by omega)]
 case refine_10=>rw[Z9,Z'];omega
 case refine_11=>exact (fr.new _).put (by rw[Z'];omega) _
 case refine_12=>rw[Z7,if_pos rfl]
 case refine_13=>rw[Z9,Z'];omega
 all_goals simp only[go_sem]
theorem ni (args:List AV)(s:St):YX U (Zv U 150 args) 150 args s=WW U 150 args s:=(Zu ..).symm
structure S_ (k b:Nat)(s0:St)(P M S A N B:List Nat)(s:St):Prop where
 perm:(A++N++B).Perm M
 nd:M.Nodup
 sA:A.Pairwise (·<=·)
 sB:B.Pairwise (·<=·)
 lA:∀a∈A,∀x∈N++B,a<x
 lN:∀x∈N,∀y∈B,x<y
 ab:OV P M
 mem:Y4 k b s0 ((P++A)++N++(B++S)) s
def Kq (k b:Nat)(s0:St)(P M S:List Nat)(o:Option (AV×St)):Prop:=∃x M',o=some x/\Y4 k b s0 (P++M'++S) x.2/\M'.Perm M/\M'.Pairwise (·<=·)
theorem S_.len {k b:Nat}{s0 s:St}{P M S A N B:List Nat}(h:S_ k b s0 P M S A N B s):A.length+N.length+B.length=M.length:=by
 have:=h.perm.length_eq;rw[aeW,aeW] at this;omega
theorem S_.ndN {k b:Nat}{s0 s:St}{P M S A N B:List Nat}(h:S_ k b s0 P M S A N B s):N.Nodup:=by
 have:=h.perm.nodup_iff.2 h.nd;exact (afR.1 (afR.1 this).1).2.1
theorem S_.vS {k b:Nat}{s0 s:St}{P M S A N B:List Nat}(h:S_ k b s0 P M S A N B s):OV (P++A) N:=by
 by_cases hA:A.length=0
 ·have bU:A=[]:=afq.1 hA;subst bU;rw[List.append_nil];rcases h.ab with h1|h1
  ·exact .inl h1
  ·exact .inr fun x hx=>h1 x (h.perm.mem_iff.1 (by simp[hx]))
 ·right
  intro x hx;have hl:(P++A).length-1<(P++A).length:=by rw[aeW];omega
  rw[ZJ hl];have hm:(P++A)[(P++A).length-1]∈A:=by
   rw[afy (by rw[aeW];omega)];exact ae2 _
  exact h.lA _ hm x (by simp[hx])
theorem S_.swap {k b:Nat}{s0 s s':St}{P M S A N N' B:List Nat}(h:S_ k b s0 P M S A N B s)(hp:N'.Perm N)(hR:Y4 k b s ((P++A)++N'++(B++S)) s'):S_ k b s0 P M S A N' B s':=by
 refine⟨?_,h.nd,h.sA,h.sB,fun a ha x hx=>?_,fun x hx=>h.lN x (hp.mem_iff.1 hx),h.ab,h.mem.trans hR⟩
 ·exact ((hp.append_left A).append_right B).trans h.perm
 ·refine h.lA a ha x ?_;rcases afb.1 hx with hx|hx
  ·exact afb.2 (.inl (hp.mem_iff.1 hx))
  ·exact afb.2 (.inr hx)
theorem S_.done {k b:Nat}{s0 s s':St}{P M S A N N' B:List Nat}(h:S_ k b s0 P M S A N B s)(hp:N'.Perm N)(hs:N'.Pairwise (·<=·))(hR:Y4 k b s ((P++A)++N'++(B++S)) s')(v:AV):Kq k b s0 P M S (some (v,s')):=by
 have h':=h.swap hp hR;refine⟨_,A++N'++B,rfl,?_,h'.perm,?_⟩
 ·have:=h'.mem;have e:(P++A)++N'++(B++S)=P++(A++N'++B)++S:=by simp[aft]
  rwa [e] at this
 ·rw[afM,afM];refine⟨⟨h'.sA,hs,fun a ha x hx=>?_⟩,h'.sB,fun a ha x hx=>?_⟩
  ·have:=h'.lA a ha x (afb.2 (.inl hx));omega
  ·rcases afb.1 ha with ha|ha
   ·have:=h'.lA a ha x (afb.2 (.inr hx));omega
   ·have:=h'.lN a ha x hx;omega
theorem UM.split {N:List Nat}{q:Nat}(h:UM N q)(hn:N.Nodup):∃N1 p N2,N=N1++p::N2/\N1.length=q/\(∀x∈N1,x<p)/\(∀x∈N2,p<x):=by
 obtain⟨h1,h2,h3⟩:=h;have e:N=N.take q++N[q]::N.drop (q+1):=by rw[<-aeY h1,List.take_append_drop]
 refine⟨N.take q,N[q],N.drop (q+1),e,by rw[afH];omega,fun x hx=>?_,fun x hx=>?_⟩
 ·obtain⟨i,hi,rfl⟩:=List.mem_take_iff_getElem.1 hx;have:=h2 i (by omega)
  rwa [ZJ (by omega),ZJ h1] at this
 ·obtain⟨i,hi,rfl⟩:=ae8.1 hx;rw[afQ] at hi;rw[List.getElem_drop];have h4:=h3 (q+1+i) (by omega) (by omega);rw[ZJ (by omega),ZJ h1] at h4;have h5:N[q+1+i]≠N[q]:=fun e=>by
   have:=(List.getElem_inj hn).1 e;omega
  omega
theorem bS {k n b m:Nat}{cap:Option Nat}{P M S A N B:List Nat}(WX:0<k)(hL:P.length+M.length+S.length=n)(hn:n<=2^20){s0:St}(hb:b<s0.next){Lp:RC}{q:Nat}
  (rcs:∀(P' N' S':List Nat) (TI:Int) (s:St),N'.length<N.length->N'.Nodup->OV P' N'->P'.length+N'.length+S'.length=n->s.get b=some (.cells (WT k (P'++N'++S')) 55 false 0 0)->b<s.next->Fr s->∃v s' N2,WW U 150 [.sl b 0 n cap 2,.int .i64 (P'.length:Nat),.int .i64 (P'.length+N'.length:Nat),.int .i64 TI,.fn (.func 91) [] []] s=some (v,s')/\Y4 k b s (P'++N2++S') s'/\N2.Perm N'/\N2.Pairwise (·<=·))
  (IH:∀(A' N' B':List Nat) (e:Env) (s:St) (TI:Int) (f1 f2:Bool),N'.length<N.length->S_ k b s0 P M S A' N' B' s->Env.get e 0=.sl b 0 n cap 2->Env.get e 1=.int .i64 (P.length+A'.length:Nat)->Env.get e 2=.int .i64 (P.length+A'.length+N'.length:Nat)->Env.get e 3=.int .i64 TI->Env.get e 4=.fn (.func 91) [] []->Env.get e 10=.bool f1->Env.get e 11=.bool f2->Kq k b s0 P M S (Vx U (XZ U []) [.bk 0] Lp e s))
  {e:Env}{s:St}{TI:Int}{f2:Bool}(hI:S_ k b s0 P M S A N B s)(hq:UM N q)(g0:Env.get e 0=.sl b 0 n cap 2)(g1:Env.get e 1=.int .i64 (P.length+A.length:Nat))(g2:Env.get e 2=.int .i64 (P.length+A.length+N.length:Nat))(g3:Env.get e 3=.int .i64 TI)(g4:Env.get e 4=.fn (.func 91) [] [])(Ga:Env.get e 11=.bool f2)(OT:Env.get e 12=.int .i64 (N.length:Nat))(g16:Env.get e 16=.int .i64 (P.length+A.length+q:Nat)) :
  Kq k b s0 P M S (go U (XZ U []) [.bk 1,.lp Lp,.bk 0] Kp e s):=by
 have hlen:=hI.len;have DZ:=hI.vS;obtain⟨N1,p,N2,hN,TJ,Zm,Jy⟩:=hq.split hI.ndN;have hNl:N.length=q+1+N2.length:=by rw[hN,<-TJ];simp;omega
 have LX:(N1++p::N2).Nodup:=by rw[<-hN];exact hI.ndN
 have w1:IntKind.i64.wrap (((P.length+A.length+q:Nat):Int)-((P.length+A.length:Nat):Int))=((q:Nat):Int):=Zq (by omega) (by omega);have w2:IntKind.i64.wrap (((P.length+A.length+N.length:Nat):Int)-((P.length+A.length+q:Nat):Int))=((N.length-q:Nat):Int):=Zq (by omega) (by omega);have w3:IntKind.i64.wrap (((P.length+A.length+q:Nat):Int)+1)=((P.length+A.length+q+1:Nat):Int):=Zq (by omega) (by omega);have qd:X_ U .quo 3 true (.int .i64 ((N.length:Nat):Int)) (.int .i64 8)=some (.int .i64 ((N.length / 8:Nat):Int)):=O7 U 3 true (d:=8) (by omega) (by omega);generalize N.length / 8=T at *;obtain⟨VU,hs,XY,fr⟩:=id hI.mem;by_cases hd:q<N.length-q
 ·
  have em:P++A++N++(B++S)=(P++A)++N1++(p::N2++B++S):=by rw[hN];simp[aft]
  obtain⟨v,s2,fO,XF,TB,Pn,WC⟩:=rcs (P++A) N1 (p::N2++B++S) TI s (by omega) (afR.1 LX).1 (by
   rcases DZ with h|h
   ·exact .inl h
   ·exact .inr fun x hx=>h x (by rw[hN];simp[hx])) (by simp;omega) (by rw[<-em];exact VU) (by omega) fr
  rw[aeW,TJ] at XF;simp only[go_sem,Kp,g0,g1,g2,g3,g4,OT,g16,w1,w2,qd,Z8,hd,ni,XF,w3];have Ae:fO.length=q:=by rw[Pn.length_eq,TJ]
  have Gl:(A++fO++[p]).length=A.length+q+1:=by simp[Ae];omega
  refine IH (A++fO++[p]) N2 B _ _ TI (decide (((q:Nat):Int)>=((T:Nat):Int))) f2 (by omega) ?_ ?_ ?_ ?_ ?_ ?_ ?_ ?_
  case refine_1 =>
   refine⟨?_,hI.nd,?_,hI.sB,fun a ha x hx=>?_,fun x hx=>hI.lN x (by rw[hN];simp[hx]),hI.ab,hI.mem.trans ?_⟩
   ·have h1:(A++fO++[p]++N2++B).Perm (A++(N1++p::N2)++B):=by
     have h2:=((Pn.append_left A).append_right (p::N2)).append_right B
     simpa[aft] using h2
    rw[<-hN] at h1;exact h1.trans hI.perm
   ·rw[afM,afM];refine⟨⟨hI.sA,WC,fun a ha x hx=>?_⟩,by simp,fun a ha x hx=>?_⟩
    ·have:=hI.lA a ha x (by rw[hN];simp[Pn.mem_iff.1 hx]);omega
    ·rw[ae0.1 hx];rcases afb.1 ha with ha|ha
     ·have:=hI.lA a ha p (by rw[hN];simp);omega
     ·have:=Zm a (Pn.mem_iff.1 ha);omega
   ·have PH:x∈N++B:=by
     rcases afb.1 hx with h|h
     ·rw[hN];simp[h]
     ·simp[h]
    rcases afb.1 ha with ha|ha
    ·rcases afb.1 ha with ha|ha
     ·exact hI.lA a ha x PH
     ·have h1:=Pn.mem_iff.1 ha;rcases afb.1 hx with h|h
      ·have:=Zm a h1;have:=Jy x h;omega
      ·exact hI.lN a (by rw[hN];simp[h1]) x h
    ·rw[ae0.1 ha];rcases afb.1 hx with h|h
     ·exact Jy x h
     ·exact hI.lN p (by rw[hN];simp) x h
   ·have e2:(P++A)++fO++(p::N2++B++S)=P++(A++fO++[p])++N2++(B++S):=by simp[aft]
    rw[<-e2];exact TB
  case refine_3 =>
   rw[Gl,show P.length+(A.length+q+1)=P.length+A.length+q+1 by omega];simp only[go_sem]
  case refine_4 =>
   rw[Gl,show P.length+(A.length+q+1)+N2.length=P.length+A.length+N.length by omega];simp only[go_sem,g2]
  all_goals simp only[go_sem,g0,g3,g4,Ga]
 ·
  have em:P++A++N++(B++S)=(P++A++N1++[p])++N2++(B++S):=by rw[hN];simp[aft]
  have fN:(P++A++N1++[p]).length=P.length+A.length+q+1:=by simp[TJ];omega
  obtain⟨v,s2,bR,XF,TB,Pn,WC⟩:=rcs (P++A++N1++[p]) N2 (B++S) TI s (by omega) (afI.1 (afR.1 LX).2.1).2 (.inr fun x hx=>by
   rw[ZJ (by rw[fN];omega)];have:(P++A++N1++[p])[(P++A++N1++[p]).length-1]'(by rw[fN];omega)=p:=by
    rw[afy (by simp;omega)];simp
   rw[this];exact Jy x hx) (by rw[fN];simp;omega) (by rw[<-em];exact VU) (by omega) fr
  rw[fN,show P.length+A.length+q+1+N2.length=P.length+A.length+N.length by omega] at XF;simp only[go_sem,Kp,g0,g1,g2,g3,g4,OT,g16,w1,w2,qd,Z8,hd,ni,XF,w3];have FY:bR.length=N2.length:=Pn.length_eq;refine IH A N1 (p::bR++B) _ _ TI (decide (((N.length-q:Nat):Int)>=((T:Nat):Int))) f2 (by omega) ?_ ?_ ?_ ?_ ?_ ?_ ?_ ?_
  case refine_1 =>
   refine⟨?_,hI.nd,hI.sA,?_,fun a ha x hx=>?_,fun x hx y hy=>?_,hI.ab,hI.mem.trans ?_⟩
   ·have h1:(A++N1++(p::bR++B)).Perm (A++(N1++p::N2)++B):=by
     have h2:=((Pn.cons p).append_left (A++N1)).append_right B
     simpa[aft] using h2
    rw[<-hN] at h1;exact h1.trans hI.perm
   ·rw[List.cons_append,List.pairwise_cons,afM];refine⟨fun x hx=>?_,WC,hI.sB,fun a ha x hx=>?_⟩
    ·rcases afb.1 hx with h|h
     ·have:=Jy x (Pn.mem_iff.1 h);omega
     ·have:=hI.lN p (by rw[hN];simp) x h;omega
    ·have:=hI.lN a (by rw[hN];simp[Pn.mem_iff.1 ha]) x hx;omega
   ·refine hI.lA a ha x ?_;rw[hN];rcases afb.1 hx with h|h
    ·simp[h]
    ·rcases afb.1 h with h|h
     ·rcases afa.1 h with h|h
      ·simp[h]
      ·simp[Pn.mem_iff.1 h]
     ·simp[h]
   ·rcases afb.1 hy with h|h
    ·rcases afa.1 h with h|h
     ·rw[h];exact Zm x hx
     ·have h1:=Zm x hx;have h2:=Jy y (Pn.mem_iff.1 h);omega
    ·exact hI.lN x (by rw[hN];simp[hx]) y h
   ·have e2:(P++A++N1++[p])++bR++(B++S)=P++A++N1++(p::bR++B++S):=by simp[aft]
    rw[<-e2];exact TB
  case refine_4 =>
   rw[TJ];simp only[go_sem]
  all_goals simp only[go_sem,g0,g1,g3,g4,Ga]
theorem mQ (args:List AV)(s:St):YX U (Zv U 204 args) 204 args s=WW U 204 args s:=(Zu ..).symm
theorem mP (args:List AV)(s:St):YX U (Zv U 202 args) 202 args s=WW U 202 args s:=(Zu ..).symm
theorem aQ (args:List AV)(s:St):YX U (Zv U 201 args) 201 args s=WW U 201 args s:=(Zu ..).symm
theorem m_ (args:List AV)(s:St):YX U (Zv U 200 args) 200 args s=WW U 200 args s:=(Zu ..).symm
theorem aO (args:List AV)(s:St):YX U (Zv U 199 args) 199 args s=WW U 199 args s:=(Zu ..).symm
theorem aP (args:List AV)(s:St):YX U (Zv U 198 args) 198 args s=WW U 198 args s:=(Zu ..).symm
def vu (k n b m:Nat)(cap:Option Nat):Prop:=∀(P' N' S':List Nat) (TI:Int) (s:St),N'.length<m->N'.Nodup->OV P' N'->P'.length+N'.length+S'.length=n->s.get b=some (.cells (WT k (P'++N'++S')) 55 false 0 0)->b<s.next->Fr s->∃v s' N2,WW U 150 [.sl b 0 n cap 2,.int .i64 (P'.length:Nat),.int .i64 (P'.length+N'.length:Nat),.int .i64 TI,.fn (.func 91) [] []] s=some (v,s')/\Y4 k b s (P'++N2++S') s'/\N2.Perm N'/\N2.Pairwise (·<=·)
def AL (k n b m:Nat)(cap:Option Nat)(s0:St)(P M S:List Nat)(Lp:RC):Prop:=∀(A' N' B':List Nat) (e:Env) (s:St) (TI:Int) (f1 f2:Bool),N'.length<m->S_ k b s0 P M S A' N' B' s->Env.get e 0=.sl b 0 n cap 2->Env.get e 1=.int .i64 (P.length+A'.length:Nat)->Env.get e 2=.int .i64 (P.length+A'.length+N'.length:Nat)->Env.get e 3=.int .i64 TI->Env.get e 4=.fn (.func 91) [] []->Env.get e 10=.bool f1->Env.get e 11=.bool f2->Kq k b s0 P M S (Vx U (XZ U []) [.bk 0] Lp e s)
theorem mO {k n b:Nat}{cap:Option Nat}{P M S A N B:List Nat}(WX:0<k)(hL:P.length+M.length+S.length=n)(hn:n<=2^20){s0:St}(hb:b<s0.next){Lp:RC}{x:Nat}(rcs:vu k n b N.length cap)(IH:AL k n b N.length cap s0 P M S Lp)
  {e:Env}{s:St}{TI:Int}(hI:S_ k b s0 P M S A N B s)(hx:x<N.length)(g0:Env.get e 0=.sl b 0 n cap 2)(g1:Env.get e 1=.int .i64 (P.length+A.length:Nat))(g2:Env.get e 2=.int .i64 (P.length+A.length+N.length:Nat))(g3:Env.get e 3=.int .i64 TI)(g4:Env.get e 4=.fn (.func 91) [] [])(OT:Env.get e 12=.int .i64 (N.length:Nat))(LV:Env.get e 13=.int .i64 (P.length+A.length+x:Nat)) :
  Kq k b s0 P M S (go U (XZ U []) [.bk 1,.lp Lp,.bk 0] Kb e s):=by
 have hlen:=hI.len;have DZ:=hI.vS;have Sf:(P++A).length=P.length+A.length:=aeW;obtain⟨VU,hs,XY,fr⟩:=id hI.mem;have next:∀(E:Env) (s1:St),(∀t:Nat,t<15->Env.get E t=Env.get e t)->Y4 k b s (P++A++N++(B++S)) s1->∃(s2:St) (N':List Nat) (q:Nat) (fl:Bool),WW U 204 [.sl b 0 n cap 2,.int .i64 (P.length+A.length:Nat),.int .i64 (P.length+A.length+N.length:Nat),.int .i64 (P.length+A.length+x:Nat),.fn (.func 91) [] []] s1=some (.X' [.int .i64 (P.length+A.length+q:Nat),.bool fl],s2)/\S_ k b s0 P M S A N' B s2/\UM N' q/\N'.length=N.length:=by
  intro E s1 hE qu;obtain⟨s2,N',q,fl,XF,TB,hp,hq⟩:=abR (cap:=cap) (P:=P++A) (M:=N) (S:=B++S) (n:=n) WX (by rw[Sf,aeW];omega) hn hx qu.1 (by have:=qu.2.2.1;omega) qu.2.2.2;rw[Sf] at XF;exact⟨s2,N',q,fl,XF,hI.swap hp (qu.trans TB),hq,hp.length_eq⟩
 have fin:∀(E:Env) (s2:St) (N':List Nat) (q:Nat) (fl:Bool),S_ k b s0 P M S A N' B s2->UM N' q->N'.length=N.length->Env.get E 0=.sl b 0 n cap 2->Env.get E 1=.int .i64 (P.length+A.length:Nat)->Env.get E 2=.int .i64 (P.length+A.length+N.length:Nat)->Env.get E 3=.int .i64 TI->Env.get E 4=.fn (.func 91) [] []->Env.get E 11=.bool fl->Env.get E 12=.int .i64 (N.length:Nat)->Env.get E 16=.int .i64 (P.length+A.length+q:Nat)->Kq k b s0 P M S (go U (XZ U []) [.bk 1,.lp Lp,.bk 0] Kp E s2):=by
  intro E s2 N' q fl ay hq hl p0 p1 p2 p3 p4 DU L0 p16;refine bS (m:=0) WX hL hn hb (A:=A) (N:=N') (B:=B) ?_ ?_ ay hq p0 p1 (by rw[hl];exact p2) p3 p4 DU (by rw[hl];exact L0) p16
  ·rw[hl];exact rcs
  ·rw[hl];exact IH
 by_cases hz:P.length+A.length=0
 ·have d0:decide (((P.length+A.length:Nat):Int)>0)=false:=decide_eq_false (by omega);obtain⟨s2,N',q,fl,XF,ay,hq,hl⟩:=next e (s.upto (s.next+17)) (fun _ _=>rfl) (Xf ⟨VU,fun _ _ _=>rfl,aba _,fr⟩ (by omega))
  simp only[go_sem,Kb,g0,g1,g2,g4,LV,d0,mQ,XF];refine fin _ _ N' q fl ay hq hl ?_ ?_ ?_ ?_ ?_ ?_ ?_ ?_
  all_goals simp only[go_sem,g0,g1,g2,g3,g4,OT]
 ·have d0:decide (((P.length+A.length:Nat):Int)>0)=true:=decide_eq_true (by omega);have w1:IntKind.i64.wrap (((P.length+A.length:Nat):Int)-1)=((P.length+A.length-1:Nat):Int):=Zq (by omega) (by omega);have Zm:gt (P++A) (P.length+A.length-1)<N[x]:=by
   rcases DZ with h|h
   ·omega
   ·have:=h _ (ae2 hx)
    rwa [Sf] at this
  have r0:=nH k (P:=P++A) (M:=N) (S:=B++S) (by omega);have rx:=YW k (P:=P++A) (M:=N) (S:=B++S) hx;rw[Sf] at r0 rx;generalize gt (P++A) (P.length+A.length-1)=z at *;have c1:=Pc ((z / k:Nat):Int) ((z%k:Nat):Int) ((N[x] / k:Nat):Int) ((N[x]%k:Nat):Int);have o1:=(XC (k:=k) (c:=z) (d:=N[x]) WX).1;rw[decide_eq_true Zm] at o1;have b0:P.length+A.length-1<n:=by omega
  have bx:P.length+A.length+x<n:=by omega
  obtain⟨s2,N',q,fl,XF,ay,hq,hl⟩:=next e (s.upto (s.next+17)) (fun _ _=>rfl) (Xf ⟨VU,fun _ _ _=>rfl,aba _,fr⟩ (by omega))
  simp only[go_sem,Kb,g0,g1,g2,g4,LV,d0,w1,VU,r0,rx,c1,o1,b0,bx,ad4,mQ,XF];refine fin _ _ N' q fl ay hq hl ?_ ?_ ?_ ?_ ?_ ?_ ?_ ?_
  all_goals simp only[go_sem,g0,g1,g2,g3,g4,OT]
theorem m8 {k n b:Nat}{cap:Option Nat}{P M S A N B:List Nat}(WX:0<k)(hL:P.length+M.length+S.length=n)(hn:n<=2^20){s0:St}(hb:b<s0.next){Lp:RC}{x:Nat}(rcs:vu k n b N.length cap)(IH:AL k n b N.length cap s0 P M S Lp)
  {e:Env}{s:St}{TI h:Int}{f1 f2:Bool}(hI:S_ k b s0 P M S A N B s)(hx:x<N.length)(g0:Env.get e 0=.sl b 0 n cap 2)(g1:Env.get e 1=.int .i64 (P.length+A.length:Nat))(g2:Env.get e 2=.int .i64 (P.length+A.length+N.length:Nat))(g3:Env.get e 3=.int .i64 TI)(g4:Env.get e 4=.fn (.func 91) [] [])(Gp:Env.get e 10=.bool f1)(Ga:Env.get e 11=.bool f2)(OT:Env.get e 12=.int .i64 (N.length:Nat))(LV:Env.get e 13=.int .i64 (P.length+A.length+x:Nat))(i_:Env.get e 14=.int .i64 h) :
  Kq k b s0 P M S (go U (XZ U []) [.bk 1,.lp Lp,.bk 0] Pz e s):=by
 have Sf:(P++A).length=P.length+A.length:=aeW;have hlen:=hI.len;obtain⟨VU,hs,XY,fr⟩:=id hI.mem;have skip:∀E:Env,(∀t:Nat,t<15->Env.get E t=Env.get e t)->Kq k b s0 P M S (go U (XZ U []) [.bk 1,.lp Lp,.bk 0] Kb E s):=fun E hE =>
  mO WX hL hn hb rcs IH hI hx ((hE 0 (by omega)).trans g0) ((hE 1 (by omega)).trans g1) ((hE 2 (by omega)).trans g2) ((hE 3 (by omega)).trans g3) ((hE 4 (by omega)).trans g4) ((hE 12 (by omega)).trans OT) ((hE 13 (by omega)).trans LV)
 have ZQ:∀t:Nat,t<15->∀k:Nat,15<=k->(k=t)=False:=fun t h1 k hk=>by simp;omega
 cases f1 with
 |false =>
  simp only[go_sem,Pz,Gp,Ga,i_];exact skip _ fun t ht=>by simp only[go_sem,ZQ t ht]
 |true =>
 cases f2 with
 |false =>
  simp only[go_sem,Pz,Gp,Ga,i_];exact skip _ fun t ht=>by simp only[go_sem,ZQ t ht]
 |true =>
 cases hh:h==1 with
 |false =>
  simp only[go_sem,Pz,Gp,Ga,i_,hh];exact skip _ fun t ht=>by simp only[go_sem,ZQ t ht]
 |true =>
  obtain⟨s2,N',fl,XF,TB,hp,ac_⟩:=ac' (cap:=cap) (P:=P++A) (M:=N) (S:=B++S) (n:=n) WX (by rw[Sf,aeW];omega) hn (by omega) hI.vS VU (by omega) fr;rw[Sf] at XF
  cases fl with
  |true =>
   simp only[go_sem,Pz,g0,g1,g2,g4,Gp,Ga,i_,hh,mP,XF];exact hI.done hp (ac_ rfl) TB _
  |false =>
   simp only[go_sem,Pz,g0,g1,g2,g4,Gp,Ga,i_,hh,mP,XF];have hl:=hp.length_eq;refine mO WX hL hn hb (N:=N') (x:=x) (TI:=TI) (by rw[hl];exact rcs) (by rw[hl];exact IH) (hI.swap hp TB) (by omega) ?_ ?_ ?_ ?_ ?_ ?_ ?_
   all_goals simp only[go_sem,g0,g1,g2,g3,g4,OT,LV,hl]
theorem nc {k n b:Nat}{cap:Option Nat}{P M S A N B:List Nat}(WX:0<k)(hL:P.length+M.length+S.length=n)(hn:n<=2^20){s0:St}(hb:b<s0.next){Lp:RC}(rcs:vu k n b N.length cap)(IH:AL k n b N.length cap s0 P M S Lp)(h8:8<=N.length)
  {e:Env}{s:St}{TI:Int}{f1 f2:Bool}(hI:S_ k b s0 P M S A N B s)(g0:Env.get e 0=.sl b 0 n cap 2)(g1:Env.get e 1=.int .i64 (P.length+A.length:Nat))(g2:Env.get e 2=.int .i64 (P.length+A.length+N.length:Nat))(g3:Env.get e 3=.int .i64 TI)(g4:Env.get e 4=.fn (.func 91) [] [])(Gp:Env.get e 10=.bool f1)(Ga:Env.get e 11=.bool f2)(OT:Env.get e 12=.int .i64 (N.length:Nat)) :
  Kq k b s0 P M S (go U (XZ U []) [.bk 1,.lp Lp,.bk 0] GR e s):=by
 have Sf:(P++A).length=P.length+A.length:=aeW;have hlen:=hI.len;obtain⟨VU,hs,XY,fr⟩:=id hI.mem;obtain⟨x,h,s1,XF,hx,hh,qu⟩:=acN (cap:=cap) (P:=P++A) (M:=N) (S:=B++S) (n:=n) WX (by rw[Sf,aeW];omega) hn h8 VU (by omega) fr;rw[Sf] at XF;have aR:S_ k b s0 P M S A N B s1:=hI.swap (List.Perm.refl _) qu
 cases h2:h==2 with
 |false =>
  simp only[go_sem,GR,g0,g1,g2,g4,m_,XF,h2];refine m8 WX hL hn hb (x:=x) (TI:=TI) (h:=h) (f1:=f1) (f2:=f2) rcs IH aR hx ?_ ?_ ?_ ?_ ?_ ?_ ?_ ?_ ?_ ?_
  all_goals simp only[go_sem,g0,g1,g2,g3,g4,Gp,Ga,OT]
 |true =>
  obtain⟨v,s2,N',mZ,TB,hp⟩:=acO (k:=k) (cap:=cap) (P:=P++A) (M:=N) (S:=B++S) (n:=n) (fn:=.fn (.func 91) [] []) (by rw[Sf,aeW];omega) hn (by omega) aR.mem.1 (by have:=aR.mem.2.2.1;omega) aR.mem.2.2.2;rw[Sf] at mZ;have hl:=hp.length_eq;have w1:IntKind.i64.wrap (((P.length+A.length+N.length:Nat):Int)-1)=((P.length+A.length+(N.length-1):Nat):Int):=Zq (by omega) (by omega);have w2:IntKind.i64.wrap (((P.length+A.length+x:Nat):Int)-((P.length+A.length:Nat):Int))=((x:Nat):Int):=Zq (by omega) (by omega);have w3:IntKind.i64.wrap (((P.length+A.length+(N.length-1):Nat):Int)-((x:Nat):Int))=((P.length+A.length+(N.length-1-x):Nat):Int):=Zq (by omega) (by omega);simp only[go_sem,GR,g0,g1,g2,g4,m_,aQ,XF,mZ,h2,w1,w2,w3];refine m8 WX hL hn hb (N:=N') (x:=N.length-1-x) (TI:=TI) (h:=1) (f1:=f1) (f2:=f2) (by rw[hl];exact rcs) (by rw[hl];exact IH) (aR.swap hp TB) (by omega) ?_ ?_ ?_ ?_ ?_ ?_ ?_ ?_ ?_ ?_
  all_goals simp only[go_sem,g0,g1,g2,g3,g4,Gp,Ga,OT,hl]
theorem acP {k n b:Nat}{cap:Option Nat}(WX:0<k)(hn:n<=2^20):∀m,m<=65->vu k n b m cap:=by
 intro m
 induction m with
 |zero=>intro _ P N S TI s h;omega
 |succ m ih =>
  intro hm P M S TI s Zm LX DZ hL gb hb fr;by_cases jS:M.length<m
  ·exact ih (by omega) P M S TI s jS LX DZ hL gb hb fr
  have hMm:M.length=m:=by omega
  have acQ:=ih (by omega)
  suffices TK:Kq k b s P M S (go U (XZ U []) [] jR (ZM 0 [.sl b 0 n cap 2,.int .i64 (P.length:Nat),.int .i64 (P.length+M.length:Nat),.int .i64 TI,.fn (.func 91) [] []] .nil) s) by
   obtain⟨x,M',h1,h2,h3,h4⟩:=TK;exact⟨x.1,x.2,M',Y3 acR (by kernel_rfl) h1,h2,h3,h4⟩
  simp only[go_sem,jR];refine ZC (ZV:=Kq k b s P M S) (σ:=Nat) (fun l=>l) (fun l e' s'=>∃A N B TI f1 f2,N.length=l/\S_ k b s P M S A N B s'/\Env.get e' 0=.sl b 0 n cap 2/\Env.get e' 1=.int .i64 (P.length+A.length:Nat)/\Env.get e' 2=.int .i64 (P.length+A.length+N.length:Nat)/\Env.get e' 3=.int .i64 TI/\Env.get e' 4=.fn (.func 91) [] []/\Env.get e' 10=.bool f1/\Env.get e' 11=.bool f2) M.length ?_
   ⟨[],M,[],TI,true,true,rfl,⟨by simp,LX,by simp,by simp,by simp,by simp,DZ,by simp only[List.append_nil,afP];exact⟨gb,fun _ _ _=>rfl,aba _,fr⟩⟩,?_,?_,?_,?_,?_,?_,?_⟩
  ·rintro Lp l e1 s1 ⟨A,N,B,TI,f1,f2,hNl,hI,q0,q1,q2,q3,q4,Um,NB⟩ IH0;have hlen:=hI.len;have Sf:(P++A).length=P.length+A.length:=aeW;obtain⟨VU,hs,XY,Kr⟩:=id hI.mem;have rcs:vu k n b N.length cap:=fun P' N' S' TI s h1=>acQ P' N' S' TI s (by omega)
   have IH:AL k n b N.length cap s P M S Lp:=fun A' N' B' e s' TI f1 f2 h1 h2 p0 p1 p2 p3 p4 G5 DU=>IH0 N'.length _ _ (by omega) ⟨A',N',B',TI,f1,f2,rfl,h2,p0,p1,p2,p3,p4,G5,DU⟩
   have w1:IntKind.i64.wrap (((P.length+A.length+N.length:Nat):Int)-((P.length+A.length:Nat):Int))=((N.length:Nat):Int):=Zq (by omega) (by omega)
   cases h12:decide (((N.length:Nat):Int)<=12) with
   |true =>
    obtain⟨v,s2,XF,TB⟩:=acS (cap:=cap) (P:=P++A) (M:=N) (S:=B++S) (n:=n) WX (by rw[Sf,aeW];omega) hn VU (by omega) Kr;rw[Sf] at XF;simp only[go_sem,N6,q0,q1,q2,q4,w1,h12,cG,XF];exact hI.done (Wp N).1 (Wp N).2 TB _
   |false =>
    have aeG:13<=N.length:=by have:=of_decide_eq_false h12;omega
    cases h0:TI==0 with
    |true =>
     obtain⟨v,s2,XF,TB⟩:=abl (cap:=cap) (P:=P++A) (M:=N) (S:=B++S) (n:=n) WX (by rw[Sf,aeW];omega) hn (by omega) VU (by omega) Kr;rw[Sf] at XF;simp only[go_sem,N6,q0,q1,q2,q3,q4,w1,h12,h0,aP,XF];exact hI.done (Kg N).1 (Kg N).2 TB _
    |false =>
     cases f1 with
     |true =>
      simp only[go_sem,N6,q0,q1,q2,q3,q4,Um,w1,h12,h0];refine nc WX hL hn hb (TI:=TI) (f1:=true) (f2:=f2) rcs IH (by omega) hI ?_ ?_ ?_ ?_ ?_ ?_ ?_ ?_
      all_goals simp only[go_sem,q0,q1,q2,q3,q4,Um,NB]
     |false =>
      obtain⟨v,s2,N',XF,TB,hp⟩:=acT (k:=k) (cap:=cap) (P:=P++A) (M:=N) (S:=B++S) (n:=n) (fn:=.fn (.func 91) [] []) (by rw[Sf,aeW];omega) hn (by omega) (by omega) VU (by omega) Kr;rw[Sf] at XF;have hl:=hp.length_eq;simp only[go_sem,N6,q0,q1,q2,q3,q4,Um,w1,h12,h0,aO,XF];refine nc WX hL hn hb (N:=N') (TI:=IntKind.i64.wrap (TI-1)) (f1:=false) (f2:=f2) (by rw[hl];exact rcs) (by rw[hl];exact IH) (by omega) (hI.swap hp TB) ?_ ?_ ?_ ?_ ?_ ?_ ?_ ?_
      all_goals simp only[go_sem,q0,q1,q2,q3,q4,Um,NB,hl]
  all_goals simp only[go_sem,List.length_nil,afD]
theorem aN (args:List AV)(s:St):YX U (Zv U 150 args) 150 args s=WW U 150 args s:=(Zu ..).symm
theorem acU {k n b:Nat}{cap:Option Nat}{L:List Nat}(WX:0<k)(hL:L.length=n)(hn:n<=64)(LX:L.Nodup){s:St}(gb:s.get b=some (.cells (WT k L) 55 false 0 0))(hb:b<s.next)(fr:Fr s) :
  ∃v s' L',WW U 90 [.sl b 0 n cap 2,.fn (.func 91) [] []] s=some (v,s')/\Y4 k b s L' s'/\L'.Perm L/\L'.Pairwise (·<=·):=by
 suffices TK:∃x L',go U (XZ U []) [] jQ (ZM 0 [.sl b 0 n cap 2,.fn (.func 91) [] []] .nil) s=some x/\Y4 k b s L' x.2/\L'.Perm L/\L'.Pairwise (·<=·) by
  obtain⟨x,L',h1,h2⟩:=TK;exact⟨x.1,x.2,L',Y3 acV (by kernel_rfl) h1,h2⟩
 have wu:IntKind.u64.wrap ((n:Nat):Int)=((n:Nat):Int):=vt rfl (by omega);obtain⟨TI,acW⟩:=acX (n:=n) hn;obtain⟨v,s',L',XF,hR,hp,hs⟩:=acP (k:=k) (n:=n) (b:=b) (cap:=cap) WX (by omega) 65 (aba _) [] L [] TI s (by omega) LX (.inl rfl) (by simp;exact hL) (by simpa using gb) hb fr;rw[List.length_nil,ad4,hL] at XF;have XF:WW U 150 [.sl b 0 n cap 2,.int .i64 0,.int .i64 (n:Nat),.int .i64 TI,.fn (.func 91) [] []] s=some (v,s'):=XF;rw[afP,List.append_nil] at hR;simp only[go_sem,jQ,wu,acW,aN,XF];exact⟨_,L',rfl,hR,hp,hs⟩
theorem acG (x y:Int):Zv U 89 [.agg [.int .i64 x,.int .i64 y]]=some (.agg [.int .i64 x,.int .i64 y]):=by
 refine Za acY (by kernel_rfl) rfl ?_;simp only[go_sem,aM]
theorem Jb (k:Nat){L:List Nat}{i:Nat}(h:i<L.length):WT k (L.take (i+1))=WT k (L.take i)++[.int .i64 ((L[i] / k:Nat):Int),.int .i64 ((L[i]%k:Nat):Int)]:=by
 rw[afC h,AO]
theorem acE {k N:Nat}{L:List Nat}{pv:AV}(hn:L.length<=2^20)(h0:L≠[]){s:St}(hp:Nx s N 164 L.length (WT k L) pv)(fr:Fr s) :
  ∃s' b,WW U 88 [pv,.fn (.func 89) [] []] s=some (.sl b 0 L.length none 2,s')/\s'.get b=some (.cells (WT k L) 55 false 0 0)/\s.next<=b/\b<s'.next/\(∀j,j<s.next->s'.get j=s.get j)/\s.next<=s'.next/\Fr s':=by
 suffices TK:∃x b,go U (XZ U [.tmp 4]) [] j7 (ZM 0 [pv,.fn (.func 89) [] []] .nil) s=some x/\x.1=.sl b 0 L.length none 2/\x.2.get b=some (.cells (WT k L) 55 false 0 0)/\s.next<=b/\b<x.2.next/\(∀j,j<s.next->x.2.get j=s.get j)/\s.next<=x.2.next/\Fr x.2 by
  obtain⟨⟨v,s'⟩,b,h1,h2,h3⟩:=TK;simp only at h2;subst h2;exact⟨s',b,Y3 acF (by kernel_rfl) h1,h3⟩
 obtain⟨bp,cap,rfl,h2,h3,h4,h5,h6⟩:=hp;simp only[go_sem,j7];refine ZC (ZV:=fun (o:Option (AV×St))=>∃x b,o=some x/\x.1=.sl b 0 L.length none 2/\x.2.get b=some (.cells (WT k L) 55 false 0 0)/\s.next<=b/\b<x.2.next/\(∀j,j<s.next->x.2.get j=s.get j)/\s.next<=x.2.next/\Fr x.2) (σ:=Nat) (fun i=>L.length-i) (fun i e' s'=>i<=L.length/\Env.get e' 1=.fn (.func 89) [] []/\Env.get e' 8=.sl bp 0 L.length cap 2/\Env.get e' 9=.int .i64 (L.length:Nat)/\Env.get e' 10=.int .i64 (i:Nat)/\(∀j,j<s.next->s'.get j=s.get j)/\s.next<=s'.next/\Fr s' /\
   ∃v,Env.get e' 5=v/\Zi s' s.next 55 2 i (WT k (L.take i)) v) 0 ?_
  ⟨ae5 _,?_,?_,?_,?_,fun _ _=>rfl,aba _,fr,.ZR,?_,Zi.nil _ _ _ _⟩
 ·rintro Lp i e1 s1 ⟨hi,q1,q8,q9,Um,hs,XY,Kr,v,q5,hv⟩ IH;have ub:=(hs bp h6).trans h3;by_cases hd:i<L.length
  ·have hw:=ZI hd (by omega);have gr:=Rz k L i hd;unfold Zc at gr;have c:=acG ((L[i] / k:Nat):Int) ((L[i]%k:Nat):Int);have hl:=hv.WK;have RQ:(i+1)*16<=1099511627776:=by omega
   have TG:i+1<=1099511627776:=by omega
   simp only[go_sem,GV,q1,q5,q8,q9,Um,Z8,hd,ub,gr,c,hl,ae3,afu,ZD,Nat.reducePow,RQ,TG,ad4];obtain⟨S2,r5⟩:∃S2,S2=((s1.new (.cells [.int .i64 0,.int .i64 0] 164 false 0 0)).put s1.next (.cells [.int .i64 ((L[i] / k:Nat):Int),.int .i64 ((L[i]%k:Nat):Int)] 164 false 0 0)).new (.cells [.int .i64 ((L[i] / k:Nat):Int),.int .i64 ((L[i]%k:Nat):Int)] 55 false 0 0):=⟨_,rfl⟩;rw[<-r5];have rN:S2.next=s1.next+2:=by rw[r5,Z',Z9,Z']
   have kS:∀j,j<s1.next->S2.get j=s1.get j:=fun j h=>by rw[r5,ZZ,Z9,Z',if_neg (by omega),Z7,if_neg (by omega),ZZ,if_neg (by omega)]
   have He:Fr S2:=by rw[r5];exact ((Kr.new _).put (by rw[Z'];omega) _).new _
   have LR:Zi S2 s.next 55 2 i (WT k (L.take i)) v:=by
    rcases hv with h|⟨a0,a1,c,a2,a3,a4,a5⟩
    ·exact .inl h
    ·exact .inr ⟨a0,a1,c,a2,by omega,a4,by rw[kS c a3];exact a5⟩
   obtain⟨s4,d1,d2,d3,d4,d5⟩:=LR.kd (by omega) (m:=1) (new:=[.int .i64 ((L[i] / k:Nat):Int),.int .i64 ((L[i]%k:Nat):Int)]) (by omega) rfl rfl;rw[d1];simp only[go_sem,Um,hw];refine IH (i+1) _ _ (by omega) ⟨by omega,?_,?_,?_,?_,fun j h=>?_,by omega,d5 He,.sl S2.next 0 (i+1) none 2,?_,by rw[Jb k hd];exact d3⟩
   case refine_5=>rw[d4 j (by omega) (LR.far (.inr h)),kS j (by omega)];exact hs j h
   all_goals simp only[go_sem,q1,q8,q9]
  ·have DX:i=L.length:=by omega
   subst DX;simp only[go_sem,GV,q9,Um,Z8,afg,q5];rcases hv with⟨h,_⟩|⟨_,_,b,a1,a2,a3,a4⟩
   ·exact absurd (afq.1 h) h0
   ·rw[List.take_length] at a4;exact⟨_,b,rfl,a3,a4,a1,a2,hs,XY,Kr⟩
 all_goals simp only[go_sem]
 all_goals rfl
end Go.Am
