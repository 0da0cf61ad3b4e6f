/- A part of the proof of a statement of this seat: the machine on which the program is read, and what it computes; for every input. -/
import Derived.Test.YtikiipfbkfgmbaaGreatDoorG04
set_option linter.all false
namespace Go.Am
open Go
variable [MaxLen]
set_option maxRecDepth 100000
set_option maxHeartbeats 8000000
theorem k253' (args:List AV)(s:St):callK U (calV U 253 args) 253 args s=cal U 253 args s:=(callK_eq ..).symm
theorem bin_quoN (X:Cx)(t:TypeId)(c:Bool){n d:Nat}(h:n<2^62)(hd:0<d):binA X .quo t c (.int .i64 (n:Int)) (.int .i64 (d:Int))=some (.int .i64 ((n / d:Nat):Int)):=by
 have hle:n / d≤n:=Nat.div_le_self n d
 have e:((n:Int).tdiv (d:Int))=((n / d:Nat):Int):=rfl
 have hd0:¬(d:Int)=0:=by omega
 simp only[binA,intA,e,if_true]
 rw[if_neg hd0,wrapN rfl (by exact Nat.lt_of_le_of_lt hle h)]
theorem c223 {k n b:Nat}{cap:Option Nat}{P M S:List Nat}(hk0:0<k)(hL:P.length+M.length+S.length=n)(hn:n≤2^20)(hM:1≤M.length){s:St}(gb:s.get b=some (.cells (pcs k (P++M++S)) 116 false 0 0))(hb:b<s.next)(fr:Fr s) :
  ∃v s',cal U 223 [.sl b 0 n cap 2,.int .i64 (P.length:Nat),.int .i64 (P.length+M.length:Nat),.fn (.func 142) [] []] s=some (v,s')∧SrtR k b s (P++hsort M++S) s':=by
 suffices hgo:PSrt k b s (P++hsort M++S) (go U (finB U []) [] r223 (bindArgs 0 [.sl b 0 n cap 2,.int .i64 (P.length:Nat),.int .i64 (P.length+M.length:Nat),.fn (.func 142) [] []] .nil) s) by
  obtain⟨x,h1,h2⟩:=hgo
  exact⟨x.1,x.2,kept_go k223 (by kernel_rfl) h1,h2⟩
 have w1:IntKind.i64.wrap (((P.length+M.length:Nat):Int)-((P.length:Nat):Int))=((M.length:Nat):Int):=wrapN (by omega) (by omega)
 have w2:IntKind.i64.wrap (((M.length:Nat):Int)-1)=((M.length-1:Nat):Int):=wrapN (by omega) (by omega)
 have w3:binA U .quo 3 true (.int .i64 ((M.length-1:Nat):Int)) (.int .i64 2)=some (.int .i64 (((M.length-1) / 2:Nat):Int)):=bin_quoN U 3 true (d:=2) (by omega) (by omega)
 simp (maxSteps:=2000000) +contextual only[go_sem,↓reduceIte,r223,w1,w2,w3]
 have dneg:decide ((-1:Int)≥0)=false:=rfl
 refine loop_ex (Post:=PSrt k b s (P++hsort M++S)) (σ:=Nat) (fun c=>c) (fun c e' s'=>c≤M.length∧Env.get e' 0=.sl b 0 n cap 2∧Env.get e' 3=.fn (.func 142) [] []∧Env.get e' 8=.int .i64 (P.length:Nat)∧Env.get e' 9=.int .i64 0∧Env.get e' 10=.int .i64 (M.length:Nat)∧Env.get e' 11=.int .i64 ((c:Int)-1) ∧
   ∃L',L'.length=M.length∧SrtR k b s (P++L'++S) s'∧hbuild c M.length L'=hbuild ((M.length-1) / 2+1) M.length M) ((M.length-1) / 2+1) ?_
  ⟨by omega,?_,?_,?_,?_,?_,?_,M,rfl,⟨gb,fun _ _ _=>rfl,Nat.le_refl _,fr⟩,rfl⟩
 ·rintro Lp c e' s' ⟨hcM,q0,q3,q8,q9,q10,q11,L',hL',hR,hrun⟩ IH
  obtain⟨qb,hs,hnx,fr'⟩:=id hR
  cases c with
  |succ i =>
   have e1:(((i+1:Nat):Int)-1)=((i:Nat):Int):=by omega
   rw[e1] at q11
   have hge:decide (((i:Nat):Int)≥0)=true:=decide_eq_true (by omega)
   have wi:IntKind.i64.wrap (((i:Nat):Int)-1)=((i:Nat):Int)-1:=by rw[wrap_i64] <;> omega
   rw[hbuild] at hrun
   obtain⟨v,s2,hcal,hR2⟩:=c253 (cap:=cap) hk0 (P:=P) (M:=L') (S:=S) (n:=n) (by omega) hn qb (by omega) fr' (f:=M.length) (r:=i) (hi:=M.length) (by omega) (by omega) (by omega)
   simp (maxSteps:=2000000) +contextual only[go_sem,↓reduceIte,r223_l0,q0,q3,q8,q10,q11,hge,k253',hcal,wi]
   refine IH i _ _ (by omega) ⟨by omega,?_,?_,?_,?_,?_,?_,sift M.length i M.length L',by rw[sift_len];exact hL',hR.trans hR2,hrun⟩
   all_goals simp +contextual only[go_sem,↓reduceIte,q0,q3,q8,q9,q10]
  |zero =>
   have q11:Env.get e' 11=.int .i64 (-1):=q11
   rw[hbuild] at hrun
   simp (maxSteps:=2000000) +contextual only[go_sem,↓reduceIte,r223_l0,q10,q11,dneg,w2]
   have hfin:hsort M=hpop M.length L':=by unfold hsort;rw[←hrun]
   rw[hfin]
   refine loop_ex (Post:=PSrt k b s (P++hpop M.length L'++S)) (σ:=Nat) (fun c=>c) (fun c e' s'=>c≤M.length∧Env.get e' 0=.sl b 0 n cap 2∧Env.get e' 3=.fn (.func 142) [] []∧Env.get e' 8=.int .i64 (P.length:Nat)∧Env.get e' 9=.int .i64 0∧Env.get e' 12=.int .i64 ((c:Int)-1) ∧
     ∃L2,L2.length=M.length∧SrtR k b s (P++L2++S) s'∧hpop c L2=hpop M.length L') M.length ?_
    ⟨Nat.le_refl _,?_,?_,?_,?_,?_,L',hL',hR,rfl⟩
   ·rintro Lq c e2 s2 ⟨hcM2,p0,p3,p8,p9,p12,L2,hL2,hR2,hrun2⟩ IH2
    obtain⟨qb2,hs2,hnx2,fr2⟩:=id hR2
    cases c with
    |succ i =>
     have e1:(((i+1:Nat):Int)-1)=((i:Nat):Int):=by omega
     rw[e1] at p12
     have hge:decide (((i:Nat):Int)≥0)=true:=decide_eq_true (by omega)
     have wi:IntKind.i64.wrap (((i:Nat):Int)-1)=((i:Nat):Int)-1:=by rw[wrap_i64] <;> omega
     have wa:IntKind.i64.wrap (((P.length:Nat):Int)+((i:Nat):Int))=((P.length+i:Nat):Int):=wrapN (by omega) (by omega)
     have h0:0<L2.length:=by omega
     have hi:i<L2.length:=by omega
     have b0:P.length<n:=by omega
     have bi:P.length+i<n:=by omega
     have r0:=grabM k (P:=P) (M:=L2) (S:=S) h0
     have ri:=grabM k (P:=P) (M:=L2) (S:=S) hi
     have y0:=layM k (P:=P) (M:=L2) (S:=S) (i:=0) L2[i] h0
     have y1:=layM k (P:=P) (M:=L2.set 0 L2[i]) (S:=S) (i:=i) L2[0] (by simpa using hi)
     rw[Nat.add_zero] at r0 y0
     have hsw:swp L2 0 i=(L2.set 0 L2[i]).set i L2[0]:=by unfold swp;rw[gt_get h0,gt_get hi]
     rw[hpop,hsw] at hrun2
     obtain⟨S3,hS3⟩:∃S3,S3=((s2.upto (s2.next+20)).put b (.cells (pcs k (P++L2.set 0 L2[i]++S)) 116 false 0 0)).put b (.cells (pcs k (P++(L2.set 0 L2[i]).set i L2[0]++S)) 116 false 0 0):=⟨_,rfl⟩
     have hR3:SrtR k b s (P++(L2.set 0 L2[i]).set i L2[0]++S) S3:=by rw[hS3];exact srt_put2 hR2 hb (by omega)
     obtain⟨v,s4,hcal,hR4⟩:=c253 (cap:=cap) hk0 (P:=P) (M:=(L2.set 0 L2[i]).set i L2[0]) (S:=S) (n:=n) (by simp;omega) hn hR3.1 (by have:=hR3.2.2.1;omega) hR3.2.2.2 (f:=i) (r:=0) (hi:=i) (by simp;omega) (by omega) (by omega)
     have hcal:cal U 253 [.sl b 0 n cap 2,.int .i64 0,.int .i64 (i:Nat),.int .i64 (P.length:Nat),.fn (.func 142) [] []] S3=some (v,s4):=hcal
     rw[hS3] at hcal
     simp (maxSteps:=2000000) +contextual only[go_sem,↓reduceIte,r223_l1,p0,p3,p8,p9,p12,hge,qb2,wa,b0,bi,r0,ri,y0,y1,Nat.zero_add,k253',hcal,wi]
     refine IH2 i _ _ (by omega) ⟨by omega,?_,?_,?_,?_,?_,sift i 0 i ((L2.set 0 L2[i]).set i L2[0]),by rw[sift_len];simp[hL2],hR3.trans hR4,hrun2⟩
     all_goals simp +contextual only[go_sem,↓reduceIte,p0,p3,p8,p9]
    |zero =>
     have p12:Env.get e2 12=.int .i64 (-1):=p12
     rw[hpop] at hrun2
     subst hrun2
     simp (maxSteps:=2000000) +contextual only[go_sem,↓reduceIte,r223_l1,p12,dneg]
     exact⟨_,rfl,hR2⟩
   all_goals simp +contextual only[go_sem,↓reduceIte,q0,q3,q8,q9]
   all_goals first|rfl|(congr 1;omega)
 all_goals simp +contextual only[go_sem,↓reduceIte]
 all_goals first|rfl|(congr 1;omega)
theorem swp_set {M:List Nat}{i j:Nat}(hi:i<M.length)(hj:j<M.length):(M.set i M[j]).set j M[i]=swp M i j:=by
 unfold swp;rw[gt_get hi,gt_get hj]
theorem c226 {k n b:Nat}{cap:Option Nat}{P M S:List Nat}(hL:P.length+M.length+S.length=n)(hn:n≤2^20)(hM:1≤M.length){fn:AV}{s:St}(gb:s.get b=some (.cells (pcs k (P++M++S)) 116 false 0 0))(hb:b<s.next)(fr:Fr s) :
  ∃v s' M',cal U 226 [.sl b 0 n cap 2,.int .i64 (P.length:Nat),.int .i64 (P.length+M.length:Nat),fn] s=some (v,s')∧SrtR k b s (P++M'++S) s'∧M'.Perm M:=by
 suffices hgo:∃x M',go U (finB U []) [] r226 (bindArgs 0 [.sl b 0 n cap 2,.int .i64 (P.length:Nat),.int .i64 (P.length+M.length:Nat),fn] .nil) s=some x∧SrtR k b s (P++M'++S) x.2∧M'.Perm M by
  obtain⟨x,M',h1,h2⟩:=hgo
  exact⟨x.1,x.2,M',kept_go k226 (by kernel_rfl) h1,h2⟩
 have w1:IntKind.i64.wrap (((P.length+M.length:Nat):Int)-1)=((P.length+(M.length-1):Nat):Int):=wrapN (by omega) (by omega)
 simp (maxSteps:=2000000) +contextual only[go_sem,↓reduceIte,r226,w1]
 refine loop_ex (Post:=fun (o:Option (AV×St))=>∃x M',o=some x∧SrtR k b s (P++M'++S) x.2∧M'.Perm M) (σ:=Nat×Nat) (fun p=>p.2) (fun p e' s'=>p.2<M.length∧Env.get e' 0=.sl b 0 n cap 2∧Env.get e' 8=.int .i64 (P.length+p.1:Nat)∧Env.get e' 9=.int .i64 (P.length+p.2:Nat)∧p.1≤M.length ∧
   ∃L',L'.length=M.length∧SrtR k b s (P++L'++S) s'∧L'.Perm M) (0,M.length-1) ?_
  ⟨by simp only;omega,?_,?_,?_,Nat.zero_le _,M,rfl,⟨gb,fun _ _ _=>rfl,Nat.le_refl _,fr⟩,List.Perm.refl _⟩
 ·rintro Lp ⟨i,j⟩ e' s' ⟨hj,q0,q8,q9,hi',L',hL',hR,hp⟩ IH
  simp only at hj q8 q9 hi'
  obtain⟨qb,hs,hnx,fr'⟩:=id hR
  by_cases hd:i<j
  ·have hd':P.length+i<P.length+j:=by omega
   have ai:i<L'.length:=by omega
   have aj:j<L'.length:=by omega
   have bi:P.length+i<n:=by omega
   have bj:P.length+j<n:=by omega
   have ri:=grabM k (P:=P) (M:=L') (S:=S) ai
   have rj:=grabM k (P:=P) (M:=L') (S:=S) aj
   have y0:=layM k (P:=P) (M:=L') (S:=S) (i:=i) L'[j] ai
   have y1:=layM k (P:=P) (M:=L'.set i L'[j]) (S:=S) (i:=j) L'[i] (by simpa using aj)
   have w2:IntKind.i64.wrap (((P.length+i:Nat):Int)+1)=((P.length+(i+1):Nat):Int):=wrapN (by omega) (by omega)
   have w3:IntKind.i64.wrap (((P.length+j:Nat):Int)-1)=((P.length+(j-1):Nat):Int):=wrapN (by omega) (by omega)
   simp (maxSteps:=2000000) +contextual only[go_sem,↓reduceIte,r226_l0,q0,q8,q9,nat_lt_dec,hd',qb,bi,bj,ri,rj,y0,y1,w2,w3,Nat.zero_add]
   refine IH (i+1,j-1) _ _ (by simp only;omega) ⟨by simp only;omega,?_,?_,?_,by simp only;omega,(L'.set i L'[j]).set j L'[i],by simp[hL'],srt_put2 hR hb (by omega),by rw[swp_set ai aj];exact (swp_perm ai aj).trans hp⟩
   all_goals simp +contextual only[go_sem,↓reduceIte,q0]
  ·have hd':¬P.length+i<P.length+j:=by omega
   simp (maxSteps:=2000000) +contextual only[go_sem,↓reduceIte,r226_l0,q8,q9,nat_lt_dec,hd']
   exact⟨_,L',rfl,hR,hp⟩
 all_goals simp +contextual only[go_sem,↓reduceIte]
 all_goals rfl
theorem l229u {β:Type}{fin:Fl→β}{ks:List K}{Post:β→Prop}{k n b i j:Nat}{cap:Option Nat}{P L S:List Nat}(hk0:0<k)(hL:P.length+L.length+S.length=n)(hn:n≤2^20)(hi:1≤i)(hij:i≤j+1)(hj:j<L.length)
  {e:Env}{s:St}(g0:Env.get e 0=.sl b 0 n cap 2)(g1:Env.get e 1=.int .i64 (P.length:Nat))(g4:Env.get e 4=.fn (.func 142) [] [])(g12:Env.get e 12=.int .i64 (P.length+i:Nat))(g13:Env.get e 13=.int .i64 (P.length+j:Nat))(gb:s.get b=some (.cells (pcs k (P++L++S)) 116 false 0 0))(fr:Fr s)
  (hk:∀e' s' i',(∀t:Nat,t<32→t≠12→Env.get e' t=Env.get e t)→Env.get e' 12=.int .i64 (P.length+i':Nat)→i≤i'→i'≤j+1→(∀x,i≤x→x<i'→gt L x<gt L 0)→(i'=j+1∨¬gt L i'<gt L 0)→(∀j,s'.get j=s.get j)→s.next≤s'.next→Fr s'→Post (goN U fin ks e' s')) :
  Post (goL U fin (.bk 0::ks) r229_l0 e s):=by
 refine loop_ex (σ:=Nat) (fun q=>j+1-q) (fun q e' s'=>i≤q∧q≤j+1∧(∀t:Nat,t<32→t≠12→Env.get e' t=Env.get e t)∧Env.get e' 12=.int .i64 (P.length+q:Nat)∧(∀x,i≤x→x<q→gt L x<gt L 0)∧(∀j,s'.get j=s.get j)∧s.next≤s'.next∧Fr s') i ?_
  ⟨Nat.le_refl _,hij,fun _ _ _=>rfl,g12,fun x h1 h2=>by omega,fun _=>rfl,Nat.le_refl _,fr⟩
 rintro Lp q e' s' ⟨h1,h2,hold,q12,hlt,hs,hnx,fr'⟩ IH
 have q0:=(hold 0 (by omega) (by omega)).trans g0
 have q1:=(hold 1 (by omega) (by omega)).trans g1
 have q4:=(hold 4 (by omega) (by omega)).trans g4
 have q13:=(hold 13 (by omega) (by omega)).trans g13
 have qb:=(hs b).trans gb
 have hne:∀t:Nat,t<32→t≠12→(12=t)=False∧∀k:Nat,32≤k→(k=t)=False:=fun t h1 h2=>⟨by simp;omega,fun k hk=>by simp;omega⟩
 by_cases hd:q≤j
 ·have d0:decide (((P.length+q:Nat):Int)≤((P.length+j:Nat):Int))=true:=decide_eq_true (by omega)
  have aq:q<L.length:=by omega
  have a0:0<L.length:=by omega
  have bq:P.length+q<n:=by omega
  have b0:P.length<n:=by omega
  have rq:=grabM k (P:=P) (M:=L) (S:=S) aq
  have r0:=grabM k (P:=P) (M:=L) (S:=S) a0
  rw[Nat.add_zero] at r0
  have c1:=c142 ((L[q] / k:Nat):Int) ((L[q]%k:Nat):Int) ((L[0] / k:Nat):Int) ((L[0]%k:Nat):Int)
  have o1:=(ord_code (k:=k) (c:=L[q]) (d:=L[0]) hk0).1
  have w1:IntKind.i64.wrap (((P.length+q:Nat):Int)+1)=((P.length+(q+1):Nat):Int):=wrapN (by omega) (by omega)
  cases hc:decide (L[q]<L[0]) with
  |true =>
   rw[hc] at o1
   have hc:=of_decide_eq_true hc
   simp (maxSteps:=2000000) +contextual only[go_sem,↓reduceIte,r229_l0,q0,q1,q4,q12,q13,d0,qb,bq,b0,rq,r0,c1,o1,w1,Nat.zero_add]
   refine IH (q+1) _ _ (by omega) ⟨by omega,by omega,fun t h3 h4=>?_,?_,fun x h3 h4=>?_,fun j=>by rw[upto_get];exact hs j,by rw[upto_next];omega,fr'.upto (by omega)⟩
   ·obtain⟨n12,hne⟩:=hne t h3 h4
    simp +contextual only[go_sem,↓reduceIte,n12,hne]
    exact hold t h3 h4
   ·simp +contextual only[go_sem,↓reduceIte]
   ·by_cases hx:x=q
    ·subst hx;rw[gt_get aq,gt_get a0];exact hc
    ·exact hlt x h3 (by omega)
  |false =>
   rw[hc] at o1
   have hc:=of_decide_eq_false hc
   simp (maxSteps:=2000000) +contextual only[go_sem,↓reduceIte,r229_l0,q0,q1,q4,q12,q13,d0,qb,bq,b0,rq,r0,c1,o1,w1,Nat.zero_add]
   refine hk _ _ q (fun t h3 h4=>?_) ?_ h1 h2 hlt (.inr (by rw[gt_get aq,gt_get a0];exact hc)) (fun j=>by rw[upto_get];exact hs j) (by rw[upto_next];omega) (fr'.upto (by omega))
   ·obtain⟨n12,hne⟩:=hne t h3 h4
    simp +contextual only[go_sem,↓reduceIte,hne]
    exact hold t h3 h4
   ·simp +contextual only[go_sem,↓reduceIte,q12]
 ·have d0:decide (((P.length+q:Nat):Int)≤((P.length+j:Nat):Int))=false:=decide_eq_false (by omega)
  simp (maxSteps:=2000000) +contextual only[go_sem,↓reduceIte,r229_l0,q0,q1,q4,q12,q13,d0]
  refine hk _ _ q (fun t h3 h4=>?_) ?_ h1 h2 hlt (.inl (by omega)) (fun j=>by rw[upto_get];exact hs j) (by rw[upto_next];omega) (fr'.upto (by omega))
  ·obtain⟨n12,hne⟩:=hne t h3 h4
   simp +contextual only[go_sem,↓reduceIte,hne]
   exact hold t h3 h4
  ·simp +contextual only[go_sem,↓reduceIte,q12]
theorem l229d {β:Type}{fin:Fl→β}{ks:List K}{Post:β→Prop}{k n b i j:Nat}{cap:Option Nat}{P L S:List Nat}(hk0:0<k)(hL:P.length+L.length+S.length=n)(hn:n≤2^20)(hi:1≤i)(hij:i≤j+1)(hj:j<L.length)
  {e:Env}{s:St}(g0:Env.get e 0=.sl b 0 n cap 2)(g1:Env.get e 1=.int .i64 (P.length:Nat))(g4:Env.get e 4=.fn (.func 142) [] [])(g12:Env.get e 12=.int .i64 (P.length+i:Nat))(g13:Env.get e 13=.int .i64 (P.length+j:Nat))(gb:s.get b=some (.cells (pcs k (P++L++S)) 116 false 0 0))(fr:Fr s)
  (hk:∀e' s' j',(∀t:Nat,t<32→t≠13→Env.get e' t=Env.get e t)→Env.get e' 13=.int .i64 (P.length+j':Nat)→j'≤j→i≤j'+1→(∀x,j'<x→x≤j→¬gt L x<gt L 0)→(i=j'+1∨gt L j'<gt L 0)→(∀j,s'.get j=s.get j)→s.next≤s'.next→Fr s'→Post (goN U fin ks e' s')) :
  Post (goL U fin (.bk 2::ks) r229_l1 e s):=by
 refine loop_ex (σ:=Nat) (fun q=>q) (fun q e' s'=>q≤j∧i≤q+1∧(∀t:Nat,t<32→t≠13→Env.get e' t=Env.get e t)∧Env.get e' 13=.int .i64 (P.length+q:Nat)∧(∀x,q<x→x≤j→¬gt L x<gt L 0)∧(∀j,s'.get j=s.get j)∧s.next≤s'.next∧Fr s') j ?_
  ⟨Nat.le_refl _,hij,fun _ _ _=>rfl,g13,fun x h1 h2=>by omega,fun _=>rfl,Nat.le_refl _,fr⟩
 rintro Lp q e' s' ⟨h1,h2,hold,q13,hlt,hs,hnx,fr'⟩ IH
 have q0:=(hold 0 (by omega) (by omega)).trans g0
 have q1:=(hold 1 (by omega) (by omega)).trans g1
 have q4:=(hold 4 (by omega) (by omega)).trans g4
 have q12:=(hold 12 (by omega) (by omega)).trans g12
 have qb:=(hs b).trans gb
 have hne:∀t:Nat,t<32→t≠13→(13=t)=False∧∀k:Nat,32≤k→(k=t)=False:=fun t h1 h2=>⟨by simp;omega,fun k hk=>by simp;omega⟩
 by_cases hd:i≤q
 ·have d0:decide (((P.length+i:Nat):Int)≤((P.length+q:Nat):Int))=true:=decide_eq_true (by omega)
  have aq:q<L.length:=by omega
  have a0:0<L.length:=by omega
  have bq:P.length+q<n:=by omega
  have b0:P.length<n:=by omega
  have rq:=grabM k (P:=P) (M:=L) (S:=S) aq
  have r0:=grabM k (P:=P) (M:=L) (S:=S) a0
  rw[Nat.add_zero] at r0
  have c1:=c142 ((L[q] / k:Nat):Int) ((L[q]%k:Nat):Int) ((L[0] / k:Nat):Int) ((L[0]%k:Nat):Int)
  have o1:=(ord_code (k:=k) (c:=L[q]) (d:=L[0]) hk0).1
  have w1:IntKind.i64.wrap (((P.length+q:Nat):Int)-1)=((P.length+(q-1):Nat):Int):=wrapN (by omega) (by omega)
  cases hc:decide (L[q]<L[0]) with
  |false =>
   rw[hc] at o1
   have hc:=of_decide_eq_false hc
   simp (maxSteps:=2000000) +contextual only[go_sem,↓reduceIte,r229_l1,q0,q1,q4,q12,q13,d0,qb,bq,b0,rq,r0,c1,o1,w1,Nat.zero_add]
   refine IH (q-1) _ _ (by omega) ⟨by omega,by omega,fun t h3 h4=>?_,?_,fun x h3 h4=>?_,fun j=>by rw[upto_get];exact hs j,by rw[upto_next];omega,fr'.upto (by omega)⟩
   ·obtain⟨n13,hne⟩:=hne t h3 h4
    simp +contextual only[go_sem,↓reduceIte,n13,hne]
    exact hold t h3 h4
   ·simp +contextual only[go_sem,↓reduceIte]
   ·by_cases hx:x=q
    ·subst hx;rw[gt_get aq,gt_get a0];exact hc
    ·exact hlt x (by omega) h4
  |true =>
   rw[hc] at o1
   have hc:=of_decide_eq_true hc
   simp (maxSteps:=2000000) +contextual only[go_sem,↓reduceIte,r229_l1,q0,q1,q4,q12,q13,d0,qb,bq,b0,rq,r0,c1,o1,w1,Nat.zero_add]
   refine hk _ _ q (fun t h3 h4=>?_) ?_ h1 h2 hlt (.inr (by rw[gt_get aq,gt_get a0];exact hc)) (fun j=>by rw[upto_get];exact hs j) (by rw[upto_next];omega) (fr'.upto (by omega))
   ·obtain⟨n13,hne⟩:=hne t h3 h4
    simp +contextual only[go_sem,↓reduceIte,hne]
    exact hold t h3 h4
   ·simp +contextual only[go_sem,↓reduceIte,q13]
 ·have d0:decide (((P.length+i:Nat):Int)≤((P.length+q:Nat):Int))=false:=decide_eq_false (by omega)
  simp (maxSteps:=2000000) +contextual only[go_sem,↓reduceIte,r229_l1,q0,q1,q4,q12,q13,d0]
  refine hk _ _ q (fun t h3 h4=>?_) ?_ h1 h2 hlt (.inl (by omega)) (fun j=>by rw[upto_get];exact hs j) (by rw[upto_next];omega) (fr'.upto (by omega))
  ·obtain⟨n13,hne⟩:=hne t h3 h4
   simp +contextual only[go_sem,↓reduceIte,hne]
   exact hold t h3 h4
  ·simp +contextual only[go_sem,↓reduceIte,q13]
theorem l229u2 {β:Type}{fin:Fl→β}{ks:List K}{Post:β→Prop}{k n b i j:Nat}{cap:Option Nat}{P L S:List Nat}(hk0:0<k)(hL:P.length+L.length+S.length=n)(hn:n≤2^20)(hi:1≤i)(hij:i≤j+1)(hj:j<L.length)
  {e:Env}{s:St}(g0:Env.get e 0=.sl b 0 n cap 2)(g1:Env.get e 1=.int .i64 (P.length:Nat))(g4:Env.get e 4=.fn (.func 142) [] [])(g12:Env.get e 12=.int .i64 (P.length+i:Nat))(g13:Env.get e 13=.int .i64 (P.length+j:Nat))(gb:s.get b=some (.cells (pcs k (P++L++S)) 116 false 0 0))(fr:Fr s)
  (hk:∀e' s' i',(∀t:Nat,t<32→t≠12→Env.get e' t=Env.get e t)→Env.get e' 12=.int .i64 (P.length+i':Nat)→i≤i'→i'≤j+1→(∀x,i≤x→x<i'→gt L x<gt L 0)→(i'=j+1∨¬gt L i'<gt L 0)→(∀j,s'.get j=s.get j)→s.next≤s'.next→Fr s'→Post (goN U fin ks e' s')) :
  Post (goL U fin (.bk 6::ks) r229_l2 e s):=by
 refine loop_ex (σ:=Nat) (fun q=>j+1-q) (fun q e' s'=>i≤q∧q≤j+1∧(∀t:Nat,t<32→t≠12→Env.get e' t=Env.get e t)∧Env.get e' 12=.int .i64 (P.length+q:Nat)∧(∀x,i≤x→x<q→gt L x<gt L 0)∧(∀j,s'.get j=s.get j)∧s.next≤s'.next∧Fr s') i ?_
  ⟨Nat.le_refl _,hij,fun _ _ _=>rfl,g12,fun x h1 h2=>by omega,fun _=>rfl,Nat.le_refl _,fr⟩
 rintro Lp q e' s' ⟨h1,h2,hold,q12,hlt,hs,hnx,fr'⟩ IH
 have q0:=(hold 0 (by omega) (by omega)).trans g0
 have q1:=(hold 1 (by omega) (by omega)).trans g1
 have q4:=(hold 4 (by omega) (by omega)).trans g4
 have q13:=(hold 13 (by omega) (by omega)).trans g13
 have qb:=(hs b).trans gb
 have hne:∀t:Nat,t<32→t≠12→(12=t)=False∧∀k:Nat,32≤k→(k=t)=False:=fun t h1 h2=>⟨by simp;omega,fun k hk=>by simp;omega⟩
 by_cases hd:q≤j
 ·have d0:decide (((P.length+q:Nat):Int)≤((P.length+j:Nat):Int))=true:=decide_eq_true (by omega)
  have aq:q<L.length:=by omega
  have a0:0<L.length:=by omega
  have bq:P.length+q<n:=by omega
  have b0:P.length<n:=by omega
  have rq:=grabM k (P:=P) (M:=L) (S:=S) aq
  have r0:=grabM k (P:=P) (M:=L) (S:=S) a0
  rw[Nat.add_zero] at r0
  have c1:=c142 ((L[q] / k:Nat):Int) ((L[q]%k:Nat):Int) ((L[0] / k:Nat):Int) ((L[0]%k:Nat):Int)
  have o1:=(ord_code (k:=k) (c:=L[q]) (d:=L[0]) hk0).1
  have w1:IntKind.i64.wrap (((P.length+q:Nat):Int)+1)=((P.length+(q+1):Nat):Int):=wrapN (by omega) (by omega)
  cases hc:decide (L[q]<L[0]) with
  |true =>
   rw[hc] at o1
   have hc:=of_decide_eq_true hc
   simp (maxSteps:=2000000) +contextual only[go_sem,↓reduceIte,r229_l2,q0,q1,q4,q12,q13,d0,qb,bq,b0,rq,r0,c1,o1,w1,Nat.zero_add]
   refine IH (q+1) _ _ (by omega) ⟨by omega,by omega,fun t h3 h4=>?_,?_,fun x h3 h4=>?_,fun j=>by rw[upto_get];exact hs j,by rw[upto_next];omega,fr'.upto (by omega)⟩
   ·obtain⟨n12,hne⟩:=hne t h3 h4
    simp +contextual only[go_sem,↓reduceIte,n12,hne]
    exact hold t h3 h4
   ·simp +contextual only[go_sem,↓reduceIte]
   ·by_cases hx:x=q
    ·subst hx;rw[gt_get aq,gt_get a0];exact hc
    ·exact hlt x h3 (by omega)
  |false =>
   rw[hc] at o1
   have hc:=of_decide_eq_false hc
   simp (maxSteps:=2000000) +contextual only[go_sem,↓reduceIte,r229_l2,q0,q1,q4,q12,q13,d0,qb,bq,b0,rq,r0,c1,o1,w1,Nat.zero_add]
   refine hk _ _ q (fun t h3 h4=>?_) ?_ h1 h2 hlt (.inr (by rw[gt_get aq,gt_get a0];exact hc)) (fun j=>by rw[upto_get];exact hs j) (by rw[upto_next];omega) (fr'.upto (by omega))
   ·obtain⟨n12,hne⟩:=hne t h3 h4
    simp +contextual only[go_sem,↓reduceIte,hne]
    exact hold t h3 h4
   ·simp +contextual only[go_sem,↓reduceIte,q12]
 ·have d0:decide (((P.length+q:Nat):Int)≤((P.length+j:Nat):Int))=false:=decide_eq_false (by omega)
  simp (maxSteps:=2000000) +contextual only[go_sem,↓reduceIte,r229_l2,q0,q1,q4,q12,q13,d0]
  refine hk _ _ q (fun t h3 h4=>?_) ?_ h1 h2 hlt (.inl (by omega)) (fun j=>by rw[upto_get];exact hs j) (by rw[upto_next];omega) (fr'.upto (by omega))
  ·obtain⟨n12,hne⟩:=hne t h3 h4
   simp +contextual only[go_sem,↓reduceIte,hne]
   exact hold t h3 h4
  ·simp +contextual only[go_sem,↓reduceIte,q12]
theorem l229d2 {β:Type}{fin:Fl→β}{ks:List K}{Post:β→Prop}{k n b i j:Nat}{cap:Option Nat}{P L S:List Nat}(hk0:0<k)(hL:P.length+L.length+S.length=n)(hn:n≤2^20)(hi:1≤i)(hij:i≤j+1)(hj:j<L.length)
  {e:Env}{s:St}(g0:Env.get e 0=.sl b 0 n cap 2)(g1:Env.get e 1=.int .i64 (P.length:Nat))(g4:Env.get e 4=.fn (.func 142) [] [])(g12:Env.get e 12=.int .i64 (P.length+i:Nat))(g13:Env.get e 13=.int .i64 (P.length+j:Nat))(gb:s.get b=some (.cells (pcs k (P++L++S)) 116 false 0 0))(fr:Fr s)
  (hk:∀e' s' j',(∀t:Nat,t<32→t≠13→Env.get e' t=Env.get e t)→Env.get e' 13=.int .i64 (P.length+j':Nat)→j'≤j→i≤j'+1→(∀x,j'<x→x≤j→¬gt L x<gt L 0)→(i=j'+1∨gt L j'<gt L 0)→(∀j,s'.get j=s.get j)→s.next≤s'.next→Fr s'→Post (goN U fin ks e' s')) :
  Post (goL U fin (.bk 8::ks) r229_l3 e s):=by
 refine loop_ex (σ:=Nat) (fun q=>q) (fun q e' s'=>q≤j∧i≤q+1∧(∀t:Nat,t<32→t≠13→Env.get e' t=Env.get e t)∧Env.get e' 13=.int .i64 (P.length+q:Nat)∧(∀x,q<x→x≤j→¬gt L x<gt L 0)∧(∀j,s'.get j=s.get j)∧s.next≤s'.next∧Fr s') j ?_
  ⟨Nat.le_refl _,hij,fun _ _ _=>rfl,g13,fun x h1 h2=>by omega,fun _=>rfl,Nat.le_refl _,fr⟩
 rintro Lp q e' s' ⟨h1,h2,hold,q13,hlt,hs,hnx,fr'⟩ IH
 have q0:=(hold 0 (by omega) (by omega)).trans g0
 have q1:=(hold 1 (by omega) (by omega)).trans g1
 have q4:=(hold 4 (by omega) (by omega)).trans g4
 have q12:=(hold 12 (by omega) (by omega)).trans g12
 have qb:=(hs b).trans gb
 have hne:∀t:Nat,t<32→t≠13→(13=t)=False∧∀k:Nat,32≤k→(k=t)=False:=fun t h1 h2=>⟨by simp;omega,fun k hk=>by simp;omega⟩
 by_cases hd:i≤q
 ·have d0:decide (((P.length+i:Nat):Int)≤((P.length+q:Nat):Int))=true:=decide_eq_true (by omega)
  have aq:q<L.length:=by omega
  have a0:0<L.length:=by omega
  have bq:P.length+q<n:=by omega
  have b0:P.length<n:=by omega
  have rq:=grabM k (P:=P) (M:=L) (S:=S) aq
  have r0:=grabM k (P:=P) (M:=L) (S:=S) a0
  rw[Nat.add_zero] at r0
  have c1:=c142 ((L[q] / k:Nat):Int) ((L[q]%k:Nat):Int) ((L[0] / k:Nat):Int) ((L[0]%k:Nat):Int)
  have o1:=(ord_code (k:=k) (c:=L[q]) (d:=L[0]) hk0).1
  have w1:IntKind.i64.wrap (((P.length+q:Nat):Int)-1)=((P.length+(q-1):Nat):Int):=wrapN (by omega) (by omega)
  cases hc:decide (L[q]<L[0]) with
  |false =>
   rw[hc] at o1
   have hc:=of_decide_eq_false hc
   simp (maxSteps:=2000000) +contextual only[go_sem,↓reduceIte,r229_l3,q0,q1,q4,q12,q13,d0,qb,bq,b0,rq,r0,c1,o1,w1,Nat.zero_add]
   refine IH (q-1) _ _ (by omega) ⟨by omega,by omega,fun t h3 h4=>?_,?_,fun x h3 h4=>?_,fun j=>by rw[upto_get];exact hs j,by rw[upto_next];omega,fr'.upto (by omega)⟩
   ·obtain⟨n13,hne⟩:=hne t h3 h4
    simp +contextual only[go_sem,↓reduceIte,n13,hne]
    exact hold t h3 h4
   ·simp +contextual only[go_sem,↓reduceIte]
   ·by_cases hx:x=q
    ·subst hx;rw[gt_get aq,gt_get a0];exact hc
    ·exact hlt x (by omega) h4
  |true =>
   rw[hc] at o1
   have hc:=of_decide_eq_true hc
   simp (maxSteps:=2000000) +contextual only[go_sem,↓reduceIte,r229_l3,q0,q1,q4,q12,q13,d0,qb,bq,b0,rq,r0,c1,o1,w1,Nat.zero_add]
   refine hk _ _ q (fun t h3 h4=>?_) ?_ h1 h2 hlt (.inr (by rw[gt_get aq,gt_get a0];exact hc)) (fun j=>by rw[upto_get];exact hs j) (by rw[upto_next];omega) (fr'.upto (by omega))
   ·obtain⟨n13,hne⟩:=hne t h3 h4
    simp +contextual only[go_sem,↓reduceIte,hne]
    exact hold t h3 h4
   ·simp +contextual only[go_sem,↓reduceIte,q13]
 ·have d0:decide (((P.length+i:Nat):Int)≤((P.length+q:Nat):Int))=false:=decide_eq_false (by omega)
  simp (maxSteps:=2000000) +contextual only[go_sem,↓reduceIte,r229_l3,q0,q1,q4,q12,q13,d0]
  refine hk _ _ q (fun t h3 h4=>?_) ?_ h1 h2 hlt (.inl (by omega)) (fun j=>by rw[upto_get];exact hs j) (by rw[upto_next];omega) (fr'.upto (by omega))
  ·obtain⟨n13,hne⟩:=hne t h3 h4
   simp +contextual only[go_sem,↓reduceIte,hne]
   exact hold t h3 h4
  ·simp +contextual only[go_sem,↓reduceIte,q13]
theorem k222' (args:List AV)(s:St):callK U (calV U 222 args) 222 args s=cal U 222 args s:=(callK_eq ..).symm
theorem srt_same {k b:Nat}{s s' s2:St}{L:List Nat}(hR:SrtR k b s L s')(h:∀j,s2.get j=s'.get j)(hn:s'.next≤s2.next)(fr:Fr s2):SrtR k b s L s2 :=
 ⟨(h b).trans hR.1,fun j h1 h2=>(h j).trans (hR.2.1 j h1 h2),by have:=hR.2.2.1;omega,fr⟩
theorem l229r {β:Type}{fin:Fl→β}{ks:List K}{Post:β→Prop}{k n b i j:Nat}{cap:Option Nat}{P L S:List Nat}(hk0:0<k)(hL:P.length+L.length+S.length=n)(hn:n≤2^20)(hi:1≤i)(hij:i≤j+1)(hj:j<L.length){s0:St}(hb:b<s0.next)
  (hlo:∀x,1≤x→x<i→gt L x<gt L 0)(hhi:∀x,j<x→x<L.length→¬gt L x<gt L 0)
  {e:Env}{s:St}(g0:Env.get e 0=.sl b 0 n cap 2)(g1:Env.get e 1=.int .i64 (P.length:Nat))(g4:Env.get e 4=.fn (.func 142) [] [])(g12:Env.get e 12=.int .i64 (P.length+i:Nat))(g13:Env.get e 13=.int .i64 (P.length+j:Nat))(hR0:SrtR k b s0 (P++L++S) s)
  (hk:∀e' s' L' i' j',Env.get e' 0=.sl b 0 n cap 2→Env.get e' 1=.int .i64 (P.length:Nat)→Env.get e' 13=.int .i64 (P.length+j':Nat)→L'.Perm L→L'.length=L.length→i'=j'+1→1≤i'→j'<L.length→(∀x,1≤x→x<i'→gt L' x<gt L' 0)→(∀x,j'<x→x<L'.length→¬gt L' x<gt L' 0)→SrtR k b s0 (P++L'++S) s'→Post (goN U fin ks e' s')) :
  Post (goL U fin (.bk 4::ks) r229_l4 e s):=by
 refine loop_ex (σ:=Nat×Nat) (fun p=>p.2+1-p.1) (fun p e' s'=>1≤p.1∧p.1≤p.2+1∧p.2<L.length∧Env.get e' 0=.sl b 0 n cap 2∧Env.get e' 1=.int .i64 (P.length:Nat)∧Env.get e' 4=.fn (.func 142) [] []∧Env.get e' 12=.int .i64 (P.length+p.1:Nat)∧Env.get e' 13=.int .i64 (P.length+p.2:Nat) ∧
   ∃L',L'.length=L.length∧L'.Perm L∧(∀x,1≤x→x<p.1→gt L' x<gt L' 0)∧(∀x,p.2<x→x<L'.length→¬gt L' x<gt L' 0)∧SrtR k b s0 (P++L'++S) s') (i,j) ?_
  ⟨hi,hij,hj,g0,g1,g4,g12,g13,L,rfl,List.Perm.refl _,hlo,hhi,hR0⟩
 rintro Lp ⟨i1,j1⟩ e1 s1 ⟨h1,h2,h3,q0,q1,q4,q12,q13,L1,hl1,hp1,hlo1,hhi1,hR1⟩ IH
 simp only at h1 h2 h3 q12 q13 hlo1 hhi1
 obtain⟨qb,hs1,hnx1,fr1⟩:=id hR1
 simp (maxSteps:=2000000) +contextual only[go_sem,↓reduceIte,r229_l4]
 refine l229u2 (Post:=Post) hk0 (P:=P) (L:=L1) (S:=S) (n:=n) (i:=i1) (j:=j1) (cap:=cap) (by omega) hn h1 h2 (by omega) q0 q1 q4 q12 q13 qb fr1 fun e2 s2 i2 h2a p12 a1 a2 a3 a4 hs2 hn2 fr2=>?_
 have hR2:=srt_same hR1 hs2 hn2 fr2
 simp (maxSteps:=2000000) +contextual only[go_sem,↓reduceIte]
 refine l229d2 (Post:=Post) hk0 (P:=P) (L:=L1) (S:=S) (n:=n) (i:=i2) (j:=j1) (cap:=cap) (by omega) hn (by omega) (by omega) (by omega) ((h2a 0 (by omega) (by omega)).trans q0) ((h2a 1 (by omega) (by omega)).trans q1) ((h2a 4 (by omega) (by omega)).trans q4) p12 ((h2a 13 (by omega) (by omega)).trans q13) hR2.1 fr2 fun e3 s3 j3 h3a p13 b1 b2 b3 b4 hs3 hn3 fr3=>?_
 have hR3:=srt_same hR2 hs3 hn3 fr3
 have r0:=(h3a 0 (by omega) (by omega)).trans ((h2a 0 (by omega) (by omega)).trans q0)
 have r1:=(h3a 1 (by omega) (by omega)).trans ((h2a 1 (by omega) (by omega)).trans q1)
 have r4:=(h3a 4 (by omega) (by omega)).trans ((h2a 4 (by omega) (by omega)).trans q4)
 have r12:=(h3a 12 (by omega) (by omega)).trans p12
 have lo:∀x,1≤x→x<i2→gt L1 x<gt L1 0:=fun x c1 c2=>by
  by_cases hx:x<i1
  ·exact hlo1 x c1 hx
  ·exact a3 x (by omega) c2
 have hi3:∀x,j3<x→x<L1.length→¬gt L1 x<gt L1 0:=fun x c1 c2=>by
  by_cases hx:x≤j1
  ·exact b3 x c1 hx
  ·exact hhi1 x (by omega) c2
 by_cases hd:i2≤j3
 ·have hlt:i2<j3:=by
   have x1:¬gt L1 i2<gt L1 0:=by rcases a4 with h|h;omega;exact h
   have x2:gt L1 j3<gt L1 0:=by rcases b4 with h|h;omega;exact h
   rcases Nat.lt_or_ge i2 j3 with h|h
   ·exact h
   ·have:i2=j3:=by omega
    subst this;exact absurd x2 x1
  have x1:¬gt L1 i2<gt L1 0:=by rcases a4 with h|h;omega;exact h
  have x2:gt L1 j3<gt L1 0:=by rcases b4 with h|h;omega;exact h
  have dg:decide (((P.length+i2:Nat):Int)>((P.length+j3:Nat):Int))=false:=decide_eq_false (by omega)
  have ai:i2<L1.length:=by omega
  have aj:j3<L1.length:=by omega
  have bi:P.length+i2<n:=by omega
  have bj:P.length+j3<n:=by omega
  have ri:=grabM k (P:=P) (M:=L1) (S:=S) ai
  have rj:=grabM k (P:=P) (M:=L1) (S:=S) aj
  have y0:=layM k (P:=P) (M:=L1) (S:=S) (i:=i2) L1[j3] ai
  have y1:=layM k (P:=P) (M:=L1.set i2 L1[j3]) (S:=S) (i:=j3) L1[i2] (by simpa using aj)
  have w2:IntKind.i64.wrap (((P.length+i2:Nat):Int)+1)=((P.length+(i2+1):Nat):Int):=wrapN (by omega) (by omega)
  have w3:IntKind.i64.wrap (((P.length+j3:Nat):Int)-1)=((P.length+(j3-1):Nat):Int):=wrapN (by omega) (by omega)
  simp (maxSteps:=2000000) +contextual only[go_sem,↓reduceIte,r0,r1,r12,p13,dg,hR3.1,bi,bj,ri,rj,y0,y1,w2,w3,Nat.zero_add]
  have g:=fun x=>gt_swp (M:=L1) (i:=i2) (j:=j3) (x:=x) ai aj
  refine IH (i2+1,j3-1) _ _ (by simp only;omega) ⟨by simp only;omega,by simp only;omega,by simp only;omega,?_,?_,?_,?_,?_,(L1.set i2 L1[j3]).set j3 L1[i2],by simp[hl1],by rw[swp_set ai aj];exact (swp_perm ai aj).trans hp1,?_,?_,srt_put2 hR3 hb (by omega)⟩
  ·simp +contextual only[go_sem,↓reduceIte,r0]
  ·simp +contextual only[go_sem,↓reduceIte,r1]
  ·simp +contextual only[go_sem,↓reduceIte,r4]
  ·simp +contextual only[go_sem,↓reduceIte]
  ·simp +contextual only[go_sem,↓reduceIte]
  ·intro x c1 c2
   simp only at c2
   rw[swp_set ai aj,g x,g 0,if_neg (by omega:¬x=j3),if_neg (by omega:¬(0:Nat)=j3),if_neg (by omega:¬(0:Nat)=i2)]
   by_cases hx:x=i2
   ·rw[if_pos hx];exact x2
   ·rw[if_neg hx];exact lo x c1 (by omega)
  ·intro x c1 c2
   simp only at c1
   rw[List.length_set,List.length_set] at c2
   rw[swp_set ai aj,g x,g 0,if_neg (by omega:¬(0:Nat)=j3),if_neg (by omega:¬(0:Nat)=i2)]
   by_cases hx:x=j3
   ·rw[if_pos hx];exact x1
   ·rw[if_neg hx,if_neg (by omega:¬x=i2)];exact hi3 x (by omega) c2
 ·have dg:decide (((P.length+i2:Nat):Int)>((P.length+j3:Nat):Int))=true:=decide_eq_true (by omega)
  simp (maxSteps:=2000000) +contextual only[go_sem,↓reduceIte,r0,r1,r12,p13,dg]
  refine hk _ _ L1 i2 j3 ?_ ?_ ?_ hp1 hl1 (by omega) (by omega) (by omega) lo hi3 hR3
  all_goals simp +contextual only[go_sem,↓reduceIte,r0,r1,p13]
def Parted (M:List Nat)(q:Nat):Prop:=q<M.length∧(∀x,x<q→gt M x<gt M q)∧∀x,q<x→x<M.length→¬gt M x<gt M q
theorem part_fin {L:List Nat}{j:Nat}(hj:j<L.length)(hlo:∀x,1≤x→x<j+1→gt L x<gt L 0)(hhi:∀x,j<x→x<L.length→¬gt L x<gt L 0):Parted (swp L j 0) j:=by
 have h0:0<L.length:=by omega
 have g:=fun x=>gt_swp (M:=L) (i:=j) (j:=0) (x:=x) hj h0
 have gj:gt (swp L j 0) j=gt L 0:=by
  rw[g j]
  by_cases h:j=0
  ·subst h;rfl
  ·rw[if_neg h,if_pos rfl]
 refine⟨by rw[swp_len];exact hj,fun x hx=>?_,fun x hx hxl=>?_⟩
 ·rw[gj,g x]
  by_cases h:x=0
  ·rw[if_pos h];exact hlo j (by omega) (by omega)
  ·rw[if_neg h,if_neg (by omega)];exact hlo x (by omega) (by omega)
 ·rw[swp_len] at hxl
  rw[gj,g x,if_neg (by omega),if_neg (by omega)]
  exact hhi x hx hxl
theorem c229 {k n b pv:Nat}{cap:Option Nat}{P M S:List Nat}(hk0:0<k)(hL:P.length+M.length+S.length=n)(hn:n≤2^20)(hpv:pv<M.length){s:St}(gb:s.get b=some (.cells (pcs k (P++M++S)) 116 false 0 0))(hb:b<s.next)(fr:Fr s) :
  ∃s' M' q fl,cal U 229 [.sl b 0 n cap 2,.int .i64 (P.length:Nat),.int .i64 (P.length+M.length:Nat),.int .i64 (P.length+pv:Nat),.fn (.func 142) [] []] s=some (.tup [.int .i64 (P.length+q:Nat),.bool fl],s')∧SrtR k b s (P++M'++S) s'∧M'.Perm M∧Parted M' q:=by
 suffices hgo:∃x M' q fl,go U (finB U [.tmp 10,.tmp 11]) [] r229 (bindArgs 0 [.sl b 0 n cap 2,.int .i64 (P.length:Nat),.int .i64 (P.length+M.length:Nat),.int .i64 (P.length+pv:Nat),.fn (.func 142) [] []] .nil) s=some x∧x.1=.tup [.int .i64 (P.length+q:Nat),.bool fl]∧SrtR k b s (P++M'++S) x.2∧M'.Perm M∧Parted M' q by
  obtain⟨⟨v,s'⟩,M',q,fl,h1,h2,h3⟩:=hgo
  simp only at h2
  subst h2
  exact⟨s',M',q,fl,kept_go k229 (by kernel_rfl) h1,h3⟩
 have a0:0<M.length:=by omega
 have b0:P.length<n:=by omega
 have bp:P.length+pv<n:=by omega
 have r0:=grabM k (P:=P) (M:=M) (S:=S) a0
 have rp:=grabM k (P:=P) (M:=M) (S:=S) hpv
 have y0:=layM k (P:=P) (M:=M) (S:=S) (i:=0) M[pv] a0
 have y1:=layM k (P:=P) (M:=M.set 0 M[pv]) (S:=S) (i:=pv) M[0] (by simpa using hpv)
 rw[Nat.add_zero] at r0 y0
 have w1:IntKind.i64.wrap (((P.length:Nat):Int)+1)=((P.length+1:Nat):Int):=wrapN (by omega) (by omega)
 have w2:IntKind.i64.wrap (((P.length+M.length:Nat):Int)-1)=((P.length+(M.length-1):Nat):Int):=wrapN (by omega) (by omega)
 simp (maxSteps:=2000000) +contextual only[go_sem,↓reduceIte,r229,gb,b0,bp,r0,rp,y0,y1,w1,w2,Nat.zero_add]
 obtain⟨L,hLd⟩:∃L,L=(M.set 0 M[pv]).set pv M[0]:=⟨_,rfl⟩
 have hLl:L.length=M.length:=by rw[hLd];simp
 have hLp:L.Perm M:=by rw[hLd,swp_set a0 hpv];exact swp_perm a0 hpv
 have hR0:SrtR k b s (P++L++S) (((s.upto (s.next+16)).put b (.cells (pcs k (P++M.set 0 M[pv]++S)) 116 false 0 0)).put b (.cells (pcs k (P++L++S)) 116 false 0 0)):=srt_put2 (L:=P++M++S) ⟨gb,fun _ _ _=>rfl,Nat.le_refl _,fr⟩ hb (by omega)
 rw[←hLd]
 generalize ((s.upto (s.next+16)).put b (.cells (pcs k (P++M.set 0 M[pv]++S)) 116 false 0 0)).put b (.cells (pcs k (P++L++S)) 116 false 0 0)=S0 at *
 refine l229u (Post:=fun (o:Option (AV×St))=>∃x M' q fl,o=some x∧x.1=.tup [.int .i64 (P.length+q:Nat),.bool fl]∧SrtR k b s (P++M'++S) x.2∧M'.Perm M∧Parted M' q) hk0 (P:=P) (L:=L) (S:=S) (n:=n) (i:=1) (j:=M.length-1) (b:=b) (cap:=cap) (by omega) hn (by omega) (by omega) (by omega) ?_ ?_ ?_ ?_ ?_ hR0.1 hR0.2.2.2 fun e2 s2 i2 h2a p12 u1 u2 u3 u4 hs2 hn2 fr2=>?_
 case refine_6 =>
  have hR2:=srt_same hR0 hs2 hn2 fr2
  have E2:∀t:Nat,t<5∨t=13→Env.get e2 t=(if t=0 then .sl b 0 n cap 2 else if t=1 then .int .i64 (P.length:Nat) else if t=4 then .fn (.func 142) [] [] else Env.get e2 t)∨True:=fun _ _=>.inr trivial
  have p0:Env.get e2 0=.sl b 0 n cap 2:=by rw[h2a 0 (by omega) (by omega)];simp +contextual only[go_sem,↓reduceIte]
  have p1:Env.get e2 1=.int .i64 (P.length:Nat):=by rw[h2a 1 (by omega) (by omega)];simp +contextual only[go_sem,↓reduceIte]
  have p4:Env.get e2 4=.fn (.func 142) [] []:=by rw[h2a 4 (by omega) (by omega)];simp +contextual only[go_sem,↓reduceIte]
  have p13:Env.get e2 13=.int .i64 (P.length+(M.length-1):Nat):=by rw[h2a 13 (by omega) (by omega)];simp +contextual only[go_sem,↓reduceIte]
  simp (maxSteps:=2000000) +contextual only[go_sem,↓reduceIte]
  refine l229d (Post:=fun (o:Option (AV×St))=>∃x M' q fl,o=some x∧x.1=.tup [.int .i64 (P.length+q:Nat),.bool fl]∧SrtR k b s (P++M'++S) x.2∧M'.Perm M∧Parted M' q) hk0 (P:=P) (L:=L) (S:=S) (n:=n) (i:=i2) (j:=M.length-1) (b:=b) (cap:=cap) (by omega) hn (by omega) (by omega) (by omega) p0 p1 p4 p12 p13 hR2.1 fr2 fun e3 s3 j3 h3a p13' v1 v2 v3 v4 hs3 hn3 fr3=>?_
  have hR3:=srt_same hR2 hs3 hn3 fr3
  have r0:=(h3a 0 (by omega) (by omega)).trans p0
  have r1:=(h3a 1 (by omega) (by omega)).trans p1
  have r4:=(h3a 4 (by omega) (by omega)).trans p4
  have r12:=(h3a 12 (by omega) (by omega)).trans p12
  have h0:0<L.length:=by omega
  have lo:∀x,1≤x→x<i2→gt L x<gt L 0:=u3
  have hi3:∀x,j3<x→x<L.length→¬gt L x<gt L 0:=fun x c1 c2=>v3 x c1 (by omega)
  have fin:∀(L':List Nat) (j:Nat) (fl:Bool) (s4:St) (X:Blk) (m:Nat),s4.next≤m→L'.length=M.length→L'.Perm M→j<M.length→(∀x,1≤x→x<j+1→gt L' x<gt L' 0)→(∀x,j<x→x<L'.length→¬gt L' x<gt L' 0)→SrtR k b s (P++L'++S) s4 →
    ∃x M' q fl',some (AV.tup [.int .i64 (P.length+j:Nat),.bool fl],((s4.upto m).put b X).put b (.cells (pcs k (P++swp L' j 0++S)) 116 false 0 0))=some x∧x.1=.tup [.int .i64 (P.length+q:Nat),.bool fl']∧SrtR k b s (P++M'++S) x.2∧M'.Perm M∧Parted M' q:=fun L' j fl s4 X m hm hl hp hj hlo hhi hR =>
   ⟨_,swp L' j 0,j,fl,rfl,rfl,srt_put2 hR hb hm,(swp_perm (by omega) (by omega)).trans hp,part_fin (by omega) hlo hhi⟩
  by_cases hd:i2≤j3
  ·have x1:¬gt L i2<gt L 0:=by rcases u4 with h|h;omega;exact h
   have x2:gt L j3<gt L 0:=by rcases v4 with h|h;omega;exact h
   have hlt:i2<j3:=by
    rcases Nat.lt_or_ge i2 j3 with h|h
    ·exact h
    ·have:i2=j3:=by omega
     subst this;exact absurd x2 x1
   have dg:decide (((P.length+i2:Nat):Int)>((P.length+j3:Nat):Int))=false:=decide_eq_false (by omega)
   have ai:i2<L.length:=by omega
   have aj:j3<L.length:=by omega
   have bi:P.length+i2<n:=by omega
   have bj:P.length+j3<n:=by omega
   have ri:=grabM k (P:=P) (M:=L) (S:=S) ai
   have rj:=grabM k (P:=P) (M:=L) (S:=S) aj
   have y0:=layM k (P:=P) (M:=L) (S:=S) (i:=i2) L[j3] ai
   have y1:=layM k (P:=P) (M:=L.set i2 L[j3]) (S:=S) (i:=j3) L[i2] (by simpa using aj)
   have w2:IntKind.i64.wrap (((P.length+i2:Nat):Int)+1)=((P.length+(i2+1):Nat):Int):=wrapN (by omega) (by omega)
   have w3:IntKind.i64.wrap (((P.length+j3:Nat):Int)-1)=((P.length+(j3-1):Nat):Int):=wrapN (by omega) (by omega)
   simp (maxSteps:=2000000) +contextual only[go_sem,↓reduceIte,r0,r1,r12,p13',dg,hR3.1,bi,bj,ri,rj,y0,y1,w2,w3,Nat.zero_add]
   have g:=fun x=>gt_swp (M:=L) (i:=i2) (j:=j3) (x:=x) ai aj
   refine l229r (Post:=fun (o:Option (AV×St))=>∃x M' q fl,o=some x∧x.1=.tup [.int .i64 (P.length+q:Nat),.bool fl]∧SrtR k b s (P++M'++S) x.2∧M'.Perm M∧Parted M' q) hk0 (P:=P) (L:=(L.set i2 L[j3]).set j3 L[i2]) (S:=S) (n:=n) (i:=i2+1) (j:=j3-1) (b:=b) (cap:=cap) (s0:=s) (by simp;omega) hn (by omega) (by omega) (by simp;omega) hb ?_ ?_ ?_ ?_ ?_ ?_ ?_ (srt_put2 hR3 hb (by omega)) fun e4 s4 L4 i4 j4 p0' p1' p13'' hp4 hl4 hij4 hi41 hj4 hlo4 hhi4 hR4=>?_
   case refine_8 =>
    rw[List.length_set,List.length_set] at hl4 hj4
    have h04:0<L4.length:=by omega
    have hj4':j4<L4.length:=by omega
    have b0:P.length<n:=by omega
    have bj4:P.length+j4<n:=by omega
    have r0:=grabM k (P:=P) (M:=L4) (S:=S) h04
    have rj:=grabM k (P:=P) (M:=L4) (S:=S) hj4'
    have y0:=layM k (P:=P) (M:=L4) (S:=S) (i:=j4) L4[0] hj4'
    have y1:=layM k (P:=P) (M:=L4.set j4 L4[0]) (S:=S) (i:=0) L4[j4] (by simpa using h04)
    rw[Nat.add_zero] at r0 y1
    simp (maxSteps:=2000000) +contextual only[go_sem,↓reduceIte,p0',p1',p13'',hR4.1,b0,bj4,r0,rj,y0,y1,Nat.zero_add]
    rw[swp_set hj4' h04]
    have hpp:L4.Perm M:=by
     have:=hp4
     rw[swp_set ai aj] at this
     exact this.trans ((swp_perm ai aj).trans hLp)
    exact fin L4 j4 false s4 _ _ (by omega) (by omega) hpp (by omega) (fun x c1 c2=>hlo4 x c1 (by omega)) hhi4 hR4
   case refine_1 =>
    intro x c1 c2
    rw[swp_set ai aj,g x,g 0,if_neg (by omega:¬x=j3),if_neg (by omega:¬(0:Nat)=j3),if_neg (by omega:¬(0:Nat)=i2)]
    by_cases hx:x=i2
    ·rw[if_pos hx];exact x2
    ·rw[if_neg hx];exact lo x c1 (by omega)
   case refine_2 =>
    intro x c1 c2
    rw[List.length_set,List.length_set] at c2
    rw[swp_set ai aj,g x,g 0,if_neg (by omega:¬(0:Nat)=j3),if_neg (by omega:¬(0:Nat)=i2)]
    by_cases hx:x=j3
    ·rw[if_pos hx];exact x1
    ·rw[if_neg hx,if_neg (by omega:¬x=i2)];exact hi3 x (by omega) c2
   all_goals simp +contextual only[go_sem,↓reduceIte,r0,r1,r4]
  ·have dg:decide (((P.length+i2:Nat):Int)>((P.length+j3:Nat):Int))=true:=decide_eq_true (by omega)
   have aj:j3<L.length:=by omega
   have b0:P.length<n:=by omega
   have bj:P.length+j3<n:=by omega
   have r0':=grabM k (P:=P) (M:=L) (S:=S) h0
   have rj:=grabM k (P:=P) (M:=L) (S:=S) aj
   have y0:=layM k (P:=P) (M:=L) (S:=S) (i:=j3) L[0] aj
   have y1:=layM k (P:=P) (M:=L.set j3 L[0]) (S:=S) (i:=0) L[j3] (by simpa using h0)
   rw[Nat.add_zero] at r0' y1
   simp (maxSteps:=2000000) +contextual only[go_sem,↓reduceIte,r0,r1,r12,p13',dg,hR3.1,b0,bj,r0',rj,y0,y1,Nat.zero_add]
   rw[swp_set aj h0]
   exact fin L j3 true s3 _ _ (by omega) (by omega) hLp (by omega) (fun x c1 c2=>lo x c1 (by omega)) hi3 hR3
 all_goals simp +contextual only[go_sem,↓reduceIte]
def Above (P M:List Nat):Prop:=P.length=0∨∀x∈M,gt P (P.length-1)<x
theorem Above.perm {P M M':List Nat}(h:Above P M)(hp:M'.Perm M):Above P M':=by
 rcases h with h|h
 ·exact .inl h
 ·exact .inr fun x hx=>h x (hp.mem_iff.1 hx)
theorem grabP (k:Nat){P M S:List Nat}(h:P.length≠0):grab 2 ((P.length-1)*2) (pcs k (P++M++S))=some [.int .i64 ((gt P (P.length-1) / k:Nat):Int),.int .i64 ((gt P (P.length-1)%k:Nat):Int)]:=by
 have:=pcs_grab k (P++M++S) (P.length-1) (by simp;omega)
 rw[List.getElem_append_left (by simp;omega),List.getElem_append_left (by omega)] at this
 rw[gt_get (by omega)]
 exact this
def SpP (L:List Nat)(i:Nat):Prop:=∀x y,x<y→y<i→gt L x≤gt L y
theorem l227s {β:Type}{fin:Fl→β}{ks:List K}{Post:β→Prop}{k n b i m:Nat}{cap:Option Nat}{P L S:List Nat}(hk0:0<k)(hL:P.length+L.length+S.length=n)(hn:n≤2^20)(hi:1≤i)(him:i≤L.length)(hsp:SpP L i)
  {e:Env}{s:St}(g0:Env.get e 0=.sl b 0 n cap 2)(g2:Env.get e 2=.int .i64 (P.length+L.length:Nat))(g3:Env.get e 3=.fn (.func 142) [] [])(g9:Env.get e 9=.int .i64 (P.length+i:Nat))(gb:s.get b=some (.cells (pcs k (P++L++S)) 116 false 0 0))(fr:Fr s)
  (hk:∀e' s' i',(∀t:Nat,t<15→t≠9→Env.get e' t=Env.get e t)→Env.get e' 9=.int .i64 (P.length+i':Nat)→i≤i'→i'≤L.length→SpP L i'→(i'=L.length∨gt L i'<gt L (i'-1))→(∀j,s'.get j=s.get j)→s.next≤s'.next→Fr s'→Post (goN U fin ks e' s')) :
  Post (goL U fin (.bk 2::ks) r227_l0 e s):=by
 refine loop_ex (σ:=Nat) (fun q=>L.length-q) (fun q e' s'=>i≤q∧q≤L.length∧(∀t:Nat,t<15→t≠9→Env.get e' t=Env.get e t)∧Env.get e' 9=.int .i64 (P.length+q:Nat)∧SpP L q∧(∀j,s'.get j=s.get j)∧s.next≤s'.next∧Fr s') i ?_
  ⟨Nat.le_refl _,him,fun _ _ _=>rfl,g9,hsp,fun _=>rfl,Nat.le_refl _,fr⟩
 rintro Lp q e' s' ⟨h1,h2,hold,q9,hsq,hs,hnx,fr'⟩ IH
 have q0:=(hold 0 (by omega) (by omega)).trans g0
 have q2:=(hold 2 (by omega) (by omega)).trans g2
 have q3:=(hold 3 (by omega) (by omega)).trans g3
 have qb:=(hs b).trans gb
 have hne:∀t:Nat,t<15→t≠9→(9=t)=False∧∀k:Nat,15≤k→(k=t)=False:=fun t h1 h2=>⟨by simp;omega,fun k hk=>by simp;omega⟩
 by_cases hd:q<L.length
 ·obtain⟨r,rfl⟩:∃r,q=r+1:=⟨q-1,by omega⟩
  have hd':P.length+(r+1)<P.length+L.length:=by omega
  have ar:r<L.length:=by omega
  have bq:P.length+(r+1)<n:=by omega
  have br:P.length+r<n:=by omega
  have rq:=grabM k (P:=P) (M:=L) (S:=S) hd
  have rr:=grabM k (P:=P) (M:=L) (S:=S) ar
  have c1:=c142 ((L[r+1] / k:Nat):Int) ((L[r+1]%k:Nat):Int) ((L[r] / k:Nat):Int) ((L[r]%k:Nat):Int)
  have o1:=(ord_code (k:=k) (c:=L[r+1]) (d:=L[r]) hk0).1
  have w0:IntKind.i64.wrap (((P.length+(r+1):Nat):Int)-1)=((P.length+r:Nat):Int):=wrapN (by omega) (by omega)
  have w1:IntKind.i64.wrap (((P.length+(r+1):Nat):Int)+1)=((P.length+(r+1+1):Nat):Int):=wrapN (by omega) (by omega)
  cases hc:decide (L[r+1]<L[r]) with
  |false =>
   rw[hc] at o1
   have hc:=of_decide_eq_false hc
   simp (maxSteps:=2000000) +contextual only[go_sem,↓reduceIte,r227_l0,q0,q2,q3,q9,nat_lt_dec,hd',qb,bq,br,rq,rr,c1,o1,w0,w1,Nat.zero_add]
   refine IH (r+1+1) _ _ (by omega) ⟨by omega,by omega,fun t h3 h4=>?_,?_,fun x y hxy hy=>?_,fun j=>by rw[upto_get];exact hs j,by rw[upto_next];omega,fr'.upto (by omega)⟩
   ·obtain⟨n9,hne⟩:=hne t h3 h4
    simp +contextual only[go_sem,↓reduceIte,n9,hne]
    exact hold t h3 h4
   ·simp +contextual only[go_sem,↓reduceIte]
   ·by_cases hyr:y=r+1
    ·subst hyr
     have e1:gt L (r+1)=L[r+1]:=gt_get hd
     have e2:gt L r=L[r]:=gt_get ar
     by_cases hx:x=r
     ·subst hx;omega
     ·have:=hsq x r (by omega) (by omega)
      omega
    ·exact hsq x y hxy (by omega)
  |true =>
   rw[hc] at o1
   have hc:=of_decide_eq_true hc
   simp (maxSteps:=2000000) +contextual only[go_sem,↓reduceIte,r227_l0,q0,q2,q3,q9,nat_lt_dec,hd',qb,bq,br,rq,rr,c1,o1,w0,w1,Nat.zero_add]
   refine hk _ _ (r+1) (fun t h3 h4=>?_) ?_ h1 h2 hsq (.inr (by rw[Nat.add_sub_cancel,gt_get hd,gt_get ar];exact hc)) (fun j=>by rw[upto_get];exact hs j) (by rw[upto_next];omega) (fr'.upto (by omega))
   ·obtain⟨n9,hne⟩:=hne t h3 h4
    simp +contextual only[go_sem,↓reduceIte,hne]
    exact hold t h3 h4
   ·simp +contextual only[go_sem,↓reduceIte,q9]
 ·have hd':¬P.length+q<P.length+L.length:=by omega
  simp (maxSteps:=2000000) +contextual only[go_sem,↓reduceIte,r227_l0,q0,q2,q3,q9,nat_lt_dec,hd']
  refine hk _ _ q (fun t h3 h4=>?_) ?_ h1 h2 hsq (.inl (by omega)) (fun j=>by rw[upto_get];exact hs j) (by rw[upto_next];omega) (fr'.upto (by omega))
  ·obtain⟨n9,hne⟩:=hne t h3 h4
   simp +contextual only[go_sem,↓reduceIte,hne]
   exact hold t h3 h4
  ·simp +contextual only[go_sem,↓reduceIte,q9]
theorem l227l {β:Type}{fin:Fl→β}{ks:List K}{Post:β→Prop}{k n b i:Nat}{cap:Option Nat}{P L S:List Nat}(hk0:0<k)(hL:P.length+L.length+S.length=n)(hn:n≤2^20)(him:i<L.length)(hab:Above P L){s0:St}(hb:b<s0.next)
  {e:Env}{s:St}(g0:Env.get e 0=.sl b 0 n cap 2)(g3:Env.get e 3=.fn (.func 142) [] [])(g11:Env.get e 11=.int .i64 (P.length+i:Nat))(hR0:SrtR k b s0 (P++L++S) s)
  (hk:∀e' s',(∀t:Nat,t<11→Env.get e' t=Env.get e t)→SrtR k b s0 (P++bub i L++S) s'→Post (goN U fin ks e' s')) :
  Post (goL U fin (.bk 4::ks) r227_l1 e s):=by
 refine loop_ex (σ:=Nat) (fun q=>q) (fun q e' s'=>q<L.length∧(∀t:Nat,t<11→Env.get e' t=Env.get e t)∧Env.get e' 11=.int .i64 (P.length+q:Nat) ∧
   ∃L',L'.length=L.length∧L'.Perm L∧SrtR k b s0 (P++L'++S) s'∧bub q L'=bub i L) i ?_
  ⟨him,fun _ _=>rfl,g11,L,rfl,List.Perm.refl _,hR0,rfl⟩
 rintro Lp q e' s' ⟨hq,hold,q11,L',hL',hp,hR,hrun⟩ IH
 obtain⟨qb,hs,hnx,fr'⟩:=id hR
 have q0:=(hold 0 (by omega)).trans g0
 have q3:=(hold 3 (by omega)).trans g3
 have hne:∀t:Nat,t<11→∀k:Nat,11≤k→(k=t)=False:=fun t h1 k hk=>by simp;omega
 have b0:P.length<n:=by omega
 cases q with
 |zero =>
  rw[bub] at hrun
  subst hrun
  rw[Nat.add_zero] at q11
  by_cases hP:P.length=0
  ·have d0:decide (((P.length:Nat):Int)≥1)=false:=decide_eq_false (by omega)
   simp (maxSteps:=2000000) +contextual only[go_sem,↓reduceIte,r227_l1,q11,d0]
   refine hk _ _ (fun t h1=>?_) hR
   simp +contextual only[go_sem,↓reduceIte,hne t h1]
   exact hold t h1
  ·have d0:decide (((P.length:Nat):Int)≥1)=true:=decide_eq_true (by omega)
   have a0:0<(bub i L).length:=by omega
   have r0:=grabM k (P:=P) (M:=bub i L) (S:=S) a0
   rw[Nat.add_zero] at r0
   have rp:=grabP k (P:=P) (M:=bub i L) (S:=S) hP
   have bp:P.length-1<n:=by omega
   have hlt:¬(bub i L)[0]<gt P (P.length-1):=by
    rcases hab.perm hp with h|h
    ·exact absurd h hP
    ·have:=h _ (List.getElem_mem a0);omega
   generalize gt P (P.length-1)=z at *
   have c1:=c142 (((bub i L)[0] / k:Nat):Int) (((bub i L)[0]%k:Nat):Int) ((z / k:Nat):Int) ((z%k:Nat):Int)
   have o1:=(ord_code (k:=k) (c:=(bub i L)[0]) (d:=z) hk0).1
   rw[decide_eq_false hlt] at o1
   have w0:IntKind.i64.wrap (((P.length:Nat):Int)-1)=((P.length-1:Nat):Int):=wrapN (by omega) (by omega)
   simp (maxSteps:=2000000) +contextual only[go_sem,↓reduceIte,r227_l1,q0,q3,q11,d0,qb,b0,bp,r0,rp,c1,o1,w0,Nat.zero_add]
   refine hk _ _ (fun t h1=>?_) (srt_upto hR (by omega))
   simp +contextual only[go_sem,↓reduceIte,hne t h1]
   exact hold t h1
 |succ q =>
  have d0:decide (((P.length+(q+1):Nat):Int)≥1)=true:=decide_eq_true (by omega)
  have a1:q+1<L'.length:=by omega
  have a0:q<L'.length:=by omega
  have b1:P.length+(q+1)<n:=by omega
  have b2:P.length+q<n:=by omega
  have r1:=grabM k (P:=P) (M:=L') (S:=S) a1
  have r2:=grabM k (P:=P) (M:=L') (S:=S) a0
  have c1:=c142 ((L'[q+1] / k:Nat):Int) ((L'[q+1]%k:Nat):Int) ((L'[q] / k:Nat):Int) ((L'[q]%k:Nat):Int)
  have o1:=(ord_code (k:=k) (c:=L'[q+1]) (d:=L'[q]) hk0).1
  have w0:IntKind.i64.wrap (((P.length+(q+1):Nat):Int)-1)=((P.length+q:Nat):Int):=wrapN (by omega) (by omega)
  have y1:=layM k (P:=P) (M:=L') (S:=S) (i:=q+1) L'[q] a1
  have y2:=layM k (P:=P) (M:=L'.set (q+1) L'[q]) (S:=S) (i:=q) L'[q+1] (by simpa using a0)
  rw[bub,gt_get a1,gt_get a0] at hrun
  cases hc:decide (L'[q+1]<L'[q]) with
  |true =>
   rw[hc] at o1 hrun
   rw[cond_true] at hrun
   simp (maxSteps:=2000000) +contextual only[go_sem,↓reduceIte,r227_l1,q0,q3,q11,d0,qb,b1,b2,r1,r2,c1,o1,w0,y1,y2,Nat.zero_add]
   refine IH q _ _ (by omega) ⟨by omega,fun t h1=>?_,?_,(L'.set (q+1) L'[q]).set q L'[q+1],by simp[hL'],by rw[swp_set a1 a0];exact (swp_perm a1 a0).trans hp,srt_put2 (srt_upto hR (by omega)) hb (by rw[upto_next];omega),hrun⟩
   ·simp +contextual only[go_sem,↓reduceIte,hne t h1]
    exact hold t h1
   ·simp +contextual only[go_sem,↓reduceIte]
  |false =>
   rw[hc] at o1 hrun
   rw[cond_false] at hrun
   subst hrun
   simp (maxSteps:=2000000) +contextual only[go_sem,↓reduceIte,r227_l1,q0,q3,q11,d0,qb,b1,b2,r1,r2,c1,o1,w0,Nat.zero_add]
   refine hk _ _ (fun t h1=>?_) (srt_upto hR (by omega))
   simp +contextual only[go_sem,↓reduceIte,hne t h1]
   exact hold t h1
theorem l227r {β:Type}{fin:Fl→β}{ks:List K}{Post:β→Prop}{k n b i:Nat}{cap:Option Nat}{P L S:List Nat}(hk0:0<k)(hL:P.length+L.length+S.length=n)(hn:n≤2^20)(him:i<L.length){s0:St}(hb:b<s0.next)
  {e:Env}{s:St}(g0:Env.get e 0=.sl b 0 n cap 2)(g2:Env.get e 2=.int .i64 (P.length+L.length:Nat))(g3:Env.get e 3=.fn (.func 142) [] [])(g12:Env.get e 12=.int .i64 (P.length+(i+1):Nat))(hR0:SrtR k b s0 (P++L++S) s)
  (hk:∀e' s' L',(∀t:Nat,t<11→Env.get e' t=Env.get e t)→L'.length=L.length→L'.Perm L→(∀x,x<i→gt L' x=gt L x)→SrtR k b s0 (P++L'++S) s'→Post (goN U fin ks e' s')) :
  Post (goL U fin (.bk 6::ks) r227_l2 e s):=by
 refine loop_ex (σ:=Nat) (fun q=>L.length-q) (fun q e' s'=>i≤q∧q<L.length∧(∀t:Nat,t<11→Env.get e' t=Env.get e t)∧Env.get e' 12=.int .i64 (P.length+(q+1):Nat) ∧
   ∃L',L'.length=L.length∧L'.Perm L∧(∀x,x<i→gt L' x=gt L x)∧SrtR k b s0 (P++L'++S) s') i ?_
  ⟨Nat.le_refl _,him,fun _ _=>rfl,g12,L,rfl,List.Perm.refl _,fun _ _=>rfl,hR0⟩
 rintro Lp q e' s' ⟨hq1,hq,hold,q12,L',hL',hp,hsame,hR⟩ IH
 obtain⟨qb,hs,hnx,fr'⟩:=id hR
 have q0:=(hold 0 (by omega)).trans g0
 have q2:=(hold 2 (by omega)).trans g2
 have q3:=(hold 3 (by omega)).trans g3
 have hne:∀t:Nat,t<11→∀k:Nat,11≤k→(k=t)=False:=fun t h1 k hk=>by simp;omega
 by_cases hd:q+1<L.length
 ·have hd':P.length+(q+1)<P.length+L.length:=by omega
  have a1:q+1<L'.length:=by omega
  have a0:q<L'.length:=by omega
  have b1:P.length+(q+1)<n:=by omega
  have b2:P.length+q<n:=by omega
  have r1:=grabM k (P:=P) (M:=L') (S:=S) a1
  have r2:=grabM k (P:=P) (M:=L') (S:=S) a0
  have c1:=c142 ((L'[q+1] / k:Nat):Int) ((L'[q+1]%k:Nat):Int) ((L'[q] / k:Nat):Int) ((L'[q]%k:Nat):Int)
  have o1:=(ord_code (k:=k) (c:=L'[q+1]) (d:=L'[q]) hk0).1
  have w0:IntKind.i64.wrap (((P.length+(q+1):Nat):Int)-1)=((P.length+q:Nat):Int):=wrapN (by omega) (by omega)
  have w1:IntKind.i64.wrap (((P.length+(q+1):Nat):Int)+1)=((P.length+(q+1+1):Nat):Int):=wrapN (by omega) (by omega)
  have y1:=layM k (P:=P) (M:=L') (S:=S) (i:=q+1) L'[q] a1
  have y2:=layM k (P:=P) (M:=L'.set (q+1) L'[q]) (S:=S) (i:=q) L'[q+1] (by simpa using a0)
  have g:=fun x=>gt_swp (M:=L') (i:=q+1) (j:=q) (x:=x) a1 a0
  cases hc:decide (L'[q+1]<L'[q]) with
  |true =>
   rw[hc] at o1
   simp (maxSteps:=2000000) +contextual only[go_sem,↓reduceIte,r227_l2,q0,q2,q3,q12,nat_lt_dec,hd',qb,b1,b2,r1,r2,c1,o1,w0,w1,y1,y2,Nat.zero_add]
   refine IH (q+1) _ _ (by omega) ⟨by omega,by omega,fun t h1=>?_,?_,(L'.set (q+1) L'[q]).set q L'[q+1],by simp[hL'],by rw[swp_set a1 a0];exact (swp_perm a1 a0).trans hp,fun x hx=>?_,srt_put2 (srt_upto hR (by omega)) hb (by rw[upto_next];omega)⟩
   ·simp +contextual only[go_sem,↓reduceIte,hne t h1]
    exact hold t h1
   ·simp +contextual only[go_sem,↓reduceIte]
   ·rw[swp_set a1 a0,g x,if_neg (by omega),if_neg (by omega)]
    exact hsame x hx
  |false =>
   rw[hc] at o1
   simp (maxSteps:=2000000) +contextual only[go_sem,↓reduceIte,r227_l2,q0,q2,q3,q12,nat_lt_dec,hd',qb,b1,b2,r1,r2,c1,o1,w0,Nat.zero_add]
   refine hk _ _ L' (fun t h1=>?_) hL' hp hsame (srt_upto hR (by omega))
   simp +contextual only[go_sem,↓reduceIte,hne t h1]
   exact hold t h1
 ·have hd':¬P.length+(q+1)<P.length+L.length:=by omega
  simp (maxSteps:=2000000) +contextual only[go_sem,↓reduceIte,r227_l2,q2,q12,nat_lt_dec,hd']
  refine hk _ _ L' (fun t h1=>?_) hL' hp hsame hR
  simp +contextual only[go_sem,↓reduceIte,hne t h1]
  exact hold t h1
theorem bub_pre {L:List Nat}{r:Nat}(hr:r+1<L.length)(hs:SpP L (r+1)):SpP (bub r (swp L (r+1) r)) (r+1)∧(bub r (swp L (r+1) r)).Perm L∧(bub r (swp L (r+1) r)).length=L.length:=by
 have h0:r<L.length:=by omega
 have g:=fun x=>gt_swp (M:=L) (i:=r+1) (j:=r) (x:=x) hr h0
 have hl:=swp_len L (r+1) r
 obtain⟨L1,hL1⟩:∃L1,L1=swp L (r+1) r:=⟨_,rfl⟩
 rw[←hL1] at g hl ⊢
 have hrl:r<L1.length:=by omega
 have hsplit:L1=L1.take r++L1[r]::L1.drop (r+1):=by
  rw[←List.drop_eq_getElem_cons hrl,List.take_append_drop]
 have hA:(L1.take r).Pairwise (·≤·):=by
  rw[List.pairwise_iff_getElem]
  intro i j hi hj hij
  rw[List.length_take] at hi hj
  rw[List.getElem_take,List.getElem_take,←gt_get,←gt_get,g i,g j,if_neg (by omega),if_neg (by omega),if_neg (by omega),if_neg (by omega)]
  exact hs i j hij (by omega)
 obtain⟨A2,b1,b2,b3⟩:=bub_spec r (L1.take r) (L1.drop (r+1)) L1[r] (by rw[List.length_take];omega) hA
 rw[←hsplit] at b1
 have hA2:A2.length=r+1:=by
  have:=b2.length_eq
  rw[List.length_append,List.length_take,List.length_singleton] at this
  omega
 refine⟨fun x y hxy hy=>?_,?_,by rw[bub_len];exact hl⟩
 ·rw[b1]
  have e:∀z,z<r+1→∃h:z<A2.length,gt (A2++L1.drop (r+1)) z=A2[z]:=fun z hz=>by
   refine⟨by omega,?_⟩
   rw[gt_get (by rw[List.length_append];omega),List.getElem_append_left (by omega)]
  obtain⟨h1,e1⟩:=e x (by omega)
  obtain⟨h2,e2⟩:=e y hy
  rw[e1,e2]
  exact List.pairwise_iff_getElem.1 b3 x y h1 h2 hxy
 ·have h1:(bub r L1).Perm L1:=by
   rw[b1]
   have:=b2.append_right (L1.drop (r+1))
   rw[List.append_assoc] at this
   refine this.trans ?_
   rw[List.singleton_append,←hsplit]
  exact h1.trans (by rw[hL1];exact swp_perm hr h0)
theorem SpP.pair {L:List Nat}(h:SpP L L.length):L.Pairwise (·≤·):=by
 rw[List.pairwise_iff_getElem]
 intro i j hi hj hij
 have:=h i j hij hj
 rwa [gt_get hi,gt_get hj] at this
theorem c227 {k n b:Nat}{cap:Option Nat}{P M S:List Nat}(hk0:0<k)(hL:P.length+M.length+S.length=n)(hn:n≤2^20)(hM:1≤M.length)(hab:Above P M){s:St}(gb:s.get b=some (.cells (pcs k (P++M++S)) 116 false 0 0))(hb:b<s.next)(fr:Fr s) :
  ∃s' M' fl,cal U 227 [.sl b 0 n cap 2,.int .i64 (P.length:Nat),.int .i64 (P.length+M.length:Nat),.fn (.func 142) [] []] s=some (.bool fl,s')∧SrtR k b s (P++M'++S) s'∧M'.Perm M∧(fl=true→M'.Pairwise (·≤·)):=by
 suffices hgo:∃x M' fl,go U (finB U [.tmp 8]) [] r227 (bindArgs 0 [.sl b 0 n cap 2,.int .i64 (P.length:Nat),.int .i64 (P.length+M.length:Nat),.fn (.func 142) [] []] .nil) s=some x∧x.1=.bool fl∧SrtR k b s (P++M'++S) x.2∧M'.Perm M∧(fl=true→M'.Pairwise (·≤·)) by
  obtain⟨⟨v,s'⟩,M',fl,h1,h2,h3⟩:=hgo
  simp only at h2
  subst h2
  exact⟨s',M',fl,kept_go k227 (by kernel_rfl) h1,h3⟩
 obtain⟨Post,hPost⟩:∃Post:Option (AV×St)→Prop,Post=fun o=>∃x M' fl,o=some x∧x.1=.bool fl∧SrtR k b s (P++M'++S) x.2∧M'.Perm M∧(fl=true→M'.Pairwise (·≤·)):=⟨_,rfl⟩
 have hgoal:∀o,Post o→∃x M' fl,o=some x∧x.1=.bool fl∧SrtR k b s (P++M'++S) x.2∧M'.Perm M∧(fl=true→M'.Pairwise (·≤·)):=fun o h=>by rw[hPost] at h;exact h
 have mk:∀(M':List Nat) (fl:Bool) (s':St),SrtR k b s (P++M'++S) s'→M'.Perm M→(fl=true→M'.Pairwise (·≤·))→Post (some (.bool fl,s')):=fun M' fl s' h1 h2 h3=>by rw[hPost];exact⟨_,M',fl,rfl,rfl,h1,h2,h3⟩
 refine hgoal _ ?_
 have w1:IntKind.i64.wrap (((P.length:Nat):Int)+1)=((P.length+1:Nat):Int):=wrapN (by omega) (by omega)
 simp (maxSteps:=2000000) +contextual only[go_sem,↓reduceIte,r227,w1]
 refine loop_ex (Post:=Post) (σ:=Nat×Nat) (fun p=>5-p.1) (fun p e' s'=>p.1≤5∧1≤p.2∧p.2≤M.length∧Env.get e' 0=.sl b 0 n cap 2∧Env.get e' 1=.int .i64 (P.length:Nat)∧Env.get e' 2=.int .i64 (P.length+M.length:Nat)∧Env.get e' 3=.fn (.func 142) [] []∧Env.get e' 9=.int .i64 (P.length+p.2:Nat)∧Env.get e' 10=.int .i64 (p.1:Nat) ∧
   ∃L',L'.length=M.length∧L'.Perm M∧SpP L' p.2∧SrtR k b s (P++L'++S) s') (0,1) ?_
  ⟨Nat.zero_le _,Nat.le_refl _,hM,?_,?_,?_,?_,?_,?_,M,rfl,List.Perm.refl _,fun x y h1 h2=>by simp only at h2;omega,⟨gb,fun _ _ _=>rfl,Nat.le_refl _,fr⟩⟩
 ·rintro Lp ⟨c,i⟩ e1 s1 ⟨hc5,hi1,him,q0,q1,q2,q3,q9,q10,L,hl,hp,hsp,hR⟩ IH
  simp only at hc5 hi1 him q9 q10 hsp
  have hlt5:decide (((c:Nat):Int)<5)=decide (c<5):=by
   have:((c:Nat):Int)<5↔c<5:=by omega
   exact decide_eq_decide.2 this
  cases hc:decide (c<5) with
  |false =>
   rw[hc] at hlt5
   simp (maxSteps:=2000000) +contextual only[go_sem,↓reduceIte,r227_l3,q10,hlt5]
   exact mk L false _ hR hp fun h=>by cases h
  |true =>
   rw[hc] at hlt5
   have hc:=of_decide_eq_true hc
   obtain⟨qb,_,_,fr1⟩:=id hR
   simp (maxSteps:=2000000) +contextual only[go_sem,↓reduceIte,r227_l3,q10,hlt5]
   refine l227s (Post:=Post) hk0 (P:=P) (L:=L) (S:=S) (n:=n) (i:=i) (m:=0) (b:=b) (cap:=cap) (by omega) hn hi1 (by omega) hsp ?_ ?_ ?_ ?_ qb fr1 fun e2 s2 i2 h2a p9 v1 v2 v3 v4 hs2 hn2 fr2=>?_
   case refine_5 =>
    have hR2:=srt_same hR hs2 hn2 fr2
    have E2:∀t:Nat,t<11→t≠9→Env.get e2 t=Env.get e1 t:=fun t ht h9=>by
     rw[h2a t (by omega) h9]
     have hne:∀k:Nat,11≤k→(k=t)=False:=fun k hk=>by simp;omega
     simp +contextual only[go_sem,↓reduceIte,hne]
    have p0:=(E2 0 (by omega) (by omega)).trans q0
    have p1:=(E2 1 (by omega) (by omega)).trans q1
    have p2:=(E2 2 (by omega) (by omega)).trans q2
    have p3:=(E2 3 (by omega) (by omega)).trans q3
    have p10:=(E2 10 (by omega) (by omega)).trans q10
    by_cases hm:i2=M.length
    ·have heq:(((P.length+i2:Nat):Int)==((P.length+M.length:Nat):Int))=true:=by rw[hm];simp
     simp (maxSteps:=2000000) +contextual only[go_sem,↓reduceIte,p2,p9,heq]
     exact mk L true _ hR2 hp fun _=>SpP.pair (by rw[hl,←hm];exact v3)
    ·have heq:(((P.length+i2:Nat):Int)==((P.length+M.length:Nat):Int))=false:=beq_eq_false_iff_ne.2 (by omega)
     have wm:IntKind.i64.wrap (((P.length+M.length:Nat):Int)-((P.length:Nat):Int))=((M.length:Nat):Int):=wrapN (by omega) (by omega)
     cases h50:decide (((M.length:Nat):Int)<50) with
     |true =>
      simp (maxSteps:=2000000) +contextual only[go_sem,↓reduceIte,p1,p2,p9,heq,wm,h50]
      exact mk L false _ hR2 hp fun h=>by cases h
     |false =>
      obtain⟨r,rfl⟩:∃r,i2=r+1:=⟨i2-1,by omega⟩
      have a1:r+1<L.length:=by omega
      have a0:r<L.length:=by omega
      have b1:P.length+(r+1)<n:=by omega
      have b2:P.length+r<n:=by omega
      have r1:=grabM k (P:=P) (M:=L) (S:=S) a1
      have r2:=grabM k (P:=P) (M:=L) (S:=S) a0
      have y1:=layM k (P:=P) (M:=L) (S:=S) (i:=r+1) L[r] a1
      have y2:=layM k (P:=P) (M:=L.set (r+1) L[r]) (S:=S) (i:=r) L[r+1] (by simpa using a0)
      have w2:IntKind.i64.wrap (((P.length+(r+1):Nat):Int)-1)=((P.length+r:Nat):Int):=wrapN (by omega) (by omega)
      have w3:IntKind.i64.wrap (((P.length+(r+1):Nat):Int)-((P.length:Nat):Int))=((r+1:Nat):Int):=wrapN (by omega) (by omega)
      have w4:IntKind.i64.wrap (((P.length+M.length:Nat):Int)-((P.length+(r+1):Nat):Int))=((M.length-(r+1):Nat):Int):=wrapN (by omega) (by omega)
      have w5:IntKind.i64.wrap (((P.length+(r+1):Nat):Int)+1)=((P.length+(r+1+1):Nat):Int):=wrapN (by omega) (by omega)
      have w6:IntKind.i64.wrap (((c:Nat):Int)+1)=((c+1:Nat):Int):=wrapN (by omega) (by omega)
      obtain⟨z1,z2,z3⟩:=bub_pre a1 v3
      have hsw:=swp_set a1 a0
      have hsl:=swp_len L (r+1) r
      have hspm:=swp_perm a1 a0
      have left:∀(e3:Env) (s3:St),Env.get e3 0=.sl b 0 n cap 2→Env.get e3 1=.int .i64 (P.length:Nat)→Env.get e3 2=.int .i64 (P.length+M.length:Nat)→Env.get e3 3=.fn (.func 142) [] []→Env.get e3 9=.int .i64 (P.length+(r+1):Nat)→Env.get e3 10=.int .i64 (c:Nat)→SrtR k b s (P++bub r (swp L (r+1) r)++S) s3 →
        Post (go U (finB U [.tmp 8]) [.bk 1,.sq (.ops [o 17 (.mov (.t 10)),o 18 (.bin .add 3 true (.t 17) (.v (.int .i64 1))),o 10 (.mov (.t 18))]),.lp Lp,.bk 0,.sq (.seq (.ops [o 8 (.mov (.v (.bool false)))]) .ret)] r227_c e3 s3):=by
       intro e3 s3 t0 t1 t2 t3 t9 t10 hR3
       cases hge:decide (((M.length-(r+1):Nat):Int)≥2) with
       |true =>
        simp (maxSteps:=2000000) +contextual only[go_sem,↓reduceIte,r227_c,t2,t9,w4,hge,w5]
        refine l227r (Post:=Post) hk0 (P:=P) (L:=bub r (swp L (r+1) r)) (S:=S) (n:=n) (i:=r+1) (b:=b) (cap:=cap) (by omega) hn (by omega) (s0:=s) hb ?_ ?_ ?_ ?_ hR3 fun e4 s4 L4 h4a hl4 hp4 hsame4 hR4=>?_
        case refine_5 =>
         have E4:∀t:Nat,t<11→Env.get e4 t=Env.get e3 t:=fun t ht=>by
          rw[h4a t ht]
          have hne:∀k:Nat,11≤k→(k=t)=False:=fun k hk=>by simp;omega
          simp +contextual only[go_sem,↓reduceIte,hne]
         have m0:=(E4 0 (by omega)).trans t0
         have m1:=(E4 1 (by omega)).trans t1
         have m2:=(E4 2 (by omega)).trans t2
         have m3:=(E4 3 (by omega)).trans t3
         have m9:=(E4 9 (by omega)).trans t9
         have m10:=(E4 10 (by omega)).trans t10
         simp (maxSteps:=2000000) +contextual only[go_sem,↓reduceIte,m10,w6]
         refine IH (c+1,r+1) _ _ (by simp only;omega) ⟨by simp only;omega,by simp only;omega,by simp only;omega,?_,?_,?_,?_,?_,?_,L4,by omega,(hp4.trans z2).trans hp,fun x y hxy hy=>by simp only at hy;rw[hsame4 x (by omega),hsame4 y hy];exact z1 x y hxy hy,hR4⟩
         all_goals simp +contextual only[go_sem,↓reduceIte,m0,m1,m2,m3,m9]
        case refine_2 =>
         rw[z3,hl]
         simp +contextual only[go_sem,↓reduceIte,t2]
        all_goals simp +contextual only[go_sem,↓reduceIte,t0,t3]
       |false =>
        simp (maxSteps:=2000000) +contextual only[go_sem,↓reduceIte,r227_c,t2,t9,t10,w4,hge,w6]
        refine IH (c+1,r+1) _ _ (by simp only;omega) ⟨by simp only;omega,by simp only;omega,by simp only;omega,?_,?_,?_,?_,?_,?_,bub r (swp L (r+1) r),by omega,z2.trans hp,z1,hR3⟩
        all_goals simp +contextual only[go_sem,↓reduceIte,t0,t1,t2,t3,t9]
      cases hge:decide (((r+1:Nat):Int)≥2) with
      |true =>
       have hr1:1≤r:=by have:=of_decide_eq_true hge;omega
       simp (maxSteps:=2000000) +contextual only[go_sem,↓reduceIte,p0,p1,p2,p9,heq,wm,h50,hR2.1,b1,b2,r1,r2,y1,y2,w2,w3,hge,Nat.zero_add]
       have hR3:SrtR k b s (P++swp L (r+1) r++S) (((s2.upto (s2.next+18)).put b (.cells (pcs k (P++L.set (r+1) L[r]++S)) 116 false 0 0)).put b (.cells (pcs k (P++(L.set (r+1) L[r]).set r L[r+1]++S)) 116 false 0 0)):=by rw[hsw];exact srt_put2 hR2 hb (by omega)
       refine l227l (Post:=Post) hk0 (P:=P) (L:=swp L (r+1) r) (S:=S) (n:=n) (i:=r) (b:=b) (cap:=cap) (by omega) hn (by omega) (hab.perm (hspm.trans hp)) (s0:=s) hb ?_ ?_ ?_ hR3 fun e3 s3 h3a hR4=>?_
       case refine_4 =>
        have E3:∀t:Nat,t<11→Env.get e3 t=Env.get e2 t:=fun t ht=>by
         rw[h3a t ht]
         have hne:∀k:Nat,11≤k→(k=t)=False:=fun k hk=>by simp;omega
         simp +contextual only[go_sem,↓reduceIte,hne]
        simp (maxSteps:=2000000) +contextual only[go_sem,↓reduceIte]
        exact left e3 s3 ((E3 0 (by omega)).trans p0) ((E3 1 (by omega)).trans p1) ((E3 2 (by omega)).trans p2) ((E3 3 (by omega)).trans p3) ((E3 9 (by omega)).trans p9) ((E3 10 (by omega)).trans p10) hR4
       all_goals simp +contextual only[go_sem,↓reduceIte,p0,p3]
      |false =>
       have hr0:r=0:=by have:=of_decide_eq_false hge;omega
       simp (maxSteps:=2000000) +contextual only[go_sem,↓reduceIte,p0,p1,p2,p9,heq,wm,h50,hR2.1,b1,b2,r1,r2,y1,y2,w2,w3,hge,Nat.zero_add]
       have hR3:SrtR k b s (P++bub r (swp L (r+1) r)++S) (((s2.upto (s2.next+18)).put b (.cells (pcs k (P++L.set (r+1) L[r]++S)) 116 false 0 0)).put b (.cells (pcs k (P++(L.set (r+1) L[r]).set r L[r+1]++S)) 116 false 0 0)):=by
        have e:bub r (swp L (r+1) r)=swp L (r+1) r:=by subst hr0;rfl
        rw[e,hsw];exact srt_put2 hR2 hb (by omega)
       refine left _ _ ?_ ?_ ?_ ?_ ?_ ?_ hR3
       all_goals simp +contextual only[go_sem,↓reduceIte,p0,p1,p2,p3,p9,p10]
   all_goals simp +contextual only[go_sem,↓reduceIte,q0,q2,q3,q9,hl]
 all_goals simp +contextual only[go_sem,↓reduceIte]
 all_goals rfl
def SwR (w:Nat)(s s':St):Prop:=(∃c:Int,s'.get w=some (.cells [.int .i64 c] 3 false 0 0))∧(∀q,q<s.next→q≠w→s'.get q=s.get q)∧s.next≤s'.next∧Fr s'
theorem SwR.trans {w:Nat}{s s1 s2:St}(h:SwR w s s1)(h':SwR w s1 s2):SwR w s s2 :=
 ⟨h'.1,fun q h1 h2=>(h'.2.1 q (by have:=h.2.2.1;omega) h2).trans (h.2.1 q h1 h2),by have:=h.2.2.1;have:=h'.2.2.1;omega,h'.2.2.2⟩
theorem k274' (args:List AV)(s:St):callK U (calV U 274 args) 274 args s=cal U 274 args s:=(callK_eq ..).symm
theorem k257' (args:List AV)(s:St):callK U (calV U 257 args) 257 args s=cal U 257 args s:=(callK_eq ..).symm
theorem k256' (args:List AV)(s:St):callK U (calV U 256 args) 256 args s=cal U 256 args s:=(callK_eq ..).symm
theorem c274 {k n b w i j:Nat}{cap:Option Nat}{P M S:List Nat}(hk0:0<k)(hL:P.length+M.length+S.length=n)(hi:i<M.length)(hj:j<M.length){c:Int}{s:St}(gb:s.get b=some (.cells (pcs k (P++M++S)) 116 false 0 0))(gw:s.get w=some (.cells [.int .i64 c] 3 false 0 0))(hw:w<s.next)(fr:Fr s) :
  ∃x y s',cal U 274 [.sl b 0 n cap 2,.int .i64 (P.length+i:Nat),.int .i64 (P.length+j:Nat),.ptr w 0,.fn (.func 142) [] []] s=some (.tup [.int .i64 (P.length+x:Nat),.int .i64 (P.length+y:Nat)],s')∧(x=i∧y=j∨x=j∧y=i)∧SwR w s s':=by
 suffices hgo:∃o x y,go U (finB U [.tmp 10,.tmp 11]) [] r274 (bindArgs 0 [.sl b 0 n cap 2,.int .i64 (P.length+i:Nat),.int .i64 (P.length+j:Nat),.ptr w 0,.fn (.func 142) [] []] .nil) s=some o∧o.1=.tup [.int .i64 (P.length+x:Nat),.int .i64 (P.length+y:Nat)]∧(x=i∧y=j∨x=j∧y=i)∧SwR w s o.2 by
  obtain⟨⟨v,s'⟩,x,y,h1,h2,h3⟩:=hgo
  simp only at h2
  subst h2
  exact⟨x,y,s',kept_go k274 (by kernel_rfl) h1,h3⟩
 have bi:P.length+i<n:=by omega
 have bj:P.length+j<n:=by omega
 have ri:=grabM k (P:=P) (M:=M) (S:=S) hi
 have rj:=grabM k (P:=P) (M:=M) (S:=S) hj
 have c1:=c142 ((M[j] / k:Nat):Int) ((M[j]%k:Nat):Int) ((M[i] / k:Nat):Int) ((M[i]%k:Nat):Int)
 have o1:=(ord_code (k:=k) (c:=M[j]) (d:=M[i]) hk0).1
 cases hc:decide (M[j]<M[i]) with
 |true =>
  rw[hc] at o1
  simp (maxSteps:=2000000) +contextual only[go_sem,↓reduceIte,r274,gb,gw,bi,bj,ri,rj,c1,o1,Nat.zero_add]
  refine⟨_,j,i,rfl,rfl,.inr ⟨rfl,rfl⟩,⟨_,by rw[get_put,if_pos rfl]⟩,fun q h1 h2=>?_,?_,?_⟩
  ·rw[get_put,if_neg h2.symm,upto_get]
  ·simp only[next_put,upto_next];omega
  ·exact (fr.upto (by omega)).put (by rw[upto_next];omega) _
 |false =>
  rw[hc] at o1
  simp (maxSteps:=2000000) +contextual only[go_sem,↓reduceIte,r274,gb,gw,bi,bj,ri,rj,c1,o1,Nat.zero_add]
  exact⟨_,i,j,rfl,rfl,.inl ⟨rfl,rfl⟩,⟨c,by rw[upto_get];exact gw⟩,fun q h1 h2=>by rw[upto_get],by rw[upto_next];omega,fr.upto (by omega)⟩
theorem c257 {k n b w i j l:Nat}{cap:Option Nat}{P M S:List Nat}(hk0:0<k)(hL:P.length+M.length+S.length=n)(hi:i<M.length)(hj:j<M.length)(hl:l<M.length){c:Int}{s:St}(gb:s.get b=some (.cells (pcs k (P++M++S)) 116 false 0 0))(gw:s.get w=some (.cells [.int .i64 c] 3 false 0 0))(hb:b<s.next)(hw:w<s.next)(fr:Fr s) :
  ∃x s',cal U 257 [.sl b 0 n cap 2,.int .i64 (P.length+i:Nat),.int .i64 (P.length+j:Nat),.int .i64 (P.length+l:Nat),.ptr w 0,.fn (.func 142) [] []] s=some (.int .i64 (P.length+x:Nat),s')∧(x=i∨x=j∨x=l)∧SwR w s s':=by
 have hbw:b≠w:=blk_ne gb gw (by decide)
 suffices hgo:∃o x,go U (finB U [.tmp 12]) [] r257 (bindArgs 0 [.sl b 0 n cap 2,.int .i64 (P.length+i:Nat),.int .i64 (P.length+j:Nat),.int .i64 (P.length+l:Nat),.ptr w 0,.fn (.func 142) [] []] .nil) s=some o∧o.1=.int .i64 (P.length+x:Nat)∧(x=i∨x=j∨x=l)∧SwR w s o.2 by
  obtain⟨⟨v,s'⟩,x,h1,h2,h3⟩:=hgo
  simp only at h2
  subst h2
  exact⟨x,s',kept_go k257 (by kernel_rfl) h1,h3⟩
 obtain⟨x1,y1,s1,e1,d1,R1⟩:=c274 (cap:=cap) hk0 hL hi hj gb gw hw fr
 obtain⟨⟨c1,g1⟩,m1,n1,f1⟩:=id R1
 obtain⟨x2,y2,s2,e2,d2,R2⟩:=c274 (cap:=cap) (i:=y1) (j:=l) hk0 hL (by omega) hl ((m1 b hb hbw).trans gb) g1 (by omega) f1
 obtain⟨⟨c2,g2⟩,m2,n2,f2⟩:=id R2
 obtain⟨x3,y3,s3,e3,d3,R3⟩:=c274 (cap:=cap) (i:=x1) (j:=x2) hk0 hL (by omega) (by omega) ((m2 b (by omega) hbw).trans ((m1 b hb hbw).trans gb)) g2 (by omega) f2
 simp (maxSteps:=2000000) +contextual only[go_sem,↓reduceIte,r257,k274',e1,e2,e3]
 exact⟨_,y3,rfl,rfl,by omega,(R1.trans R2).trans R3⟩
theorem c256 {k n b w i:Nat}{cap:Option Nat}{P M S:List Nat}(hk0:0<k)(hL:P.length+M.length+S.length=n)(hn:n≤2^20)(hi:i+1<M.length)(hi1:1≤i){c:Int}{s:St}(gb:s.get b=some (.cells (pcs k (P++M++S)) 116 false 0 0))(gw:s.get w=some (.cells [.int .i64 c] 3 false 0 0))(hb:b<s.next)(hw:w<s.next)(fr:Fr s) :
  ∃x s',cal U 256 [.sl b 0 n cap 2,.int .i64 (P.length+i:Nat),.ptr w 0,.fn (.func 142) [] []] s=some (.int .i64 (P.length+x:Nat),s')∧x<M.length∧SwR w s s':=by
 suffices hgo:∃o x,go U (finB U [.tmp 8]) [] r256 (bindArgs 0 [.sl b 0 n cap 2,.int .i64 (P.length+i:Nat),.ptr w 0,.fn (.func 142) [] []] .nil) s=some o∧o.1=.int .i64 (P.length+x:Nat)∧x<M.length∧SwR w s o.2 by
  obtain⟨⟨v,s'⟩,x,h1,h2,h3⟩:=hgo
  simp only at h2
  subst h2
  exact⟨x,s',kept_go k256 (by kernel_rfl) h1,h3⟩
 have w1:IntKind.i64.wrap (((P.length+i:Nat):Int)-1)=((P.length+(i-1):Nat):Int):=wrapN (by omega) (by omega)
 have w2:IntKind.i64.wrap (((P.length+i:Nat):Int)+1)=((P.length+(i+1):Nat):Int):=wrapN (by omega) (by omega)
 obtain⟨x,s',e,d,R⟩:=c257 (cap:=cap) (i:=i-1) (j:=i) (l:=i+1) hk0 hL (by omega) (by omega) hi gb gw hb hw fr
 simp (maxSteps:=2000000) +contextual only[go_sem,↓reduceIte,r256,w1,w2,k257',e]
 exact⟨_,x,rfl,rfl,by omega,R⟩
theorem c225 {k n b:Nat}{cap:Option Nat}{P M S:List Nat}(hk0:0<k)(hL:P.length+M.length+S.length=n)(hn:n≤2^20)(hM:8≤M.length){s:St}(gb:s.get b=some (.cells (pcs k (P++M++S)) 116 false 0 0))(hb:b<s.next)(fr:Fr s) :
  ∃x h s',cal U 225 [.sl b 0 n cap 2,.int .i64 (P.length:Nat),.int .i64 (P.length+M.length:Nat),.fn (.func 142) [] []] s=some (.tup [.int .i64 (P.length+x:Nat),.int .i64 h],s')∧x<M.length∧(h=0∨h=1∨h=2)∧SrtR k b s (P++M++S) s':=by
 suffices hgo:∃o x h,go U (finB U [.tmp 8,.tmp 9]) [] r225 (bindArgs 0 [.sl b 0 n cap 2,.int .i64 (P.length:Nat),.int .i64 (P.length+M.length:Nat),.fn (.func 142) [] []] .nil) s=some o∧o.1=.tup [.int .i64 (P.length+x:Nat),.int .i64 h]∧x<M.length∧(h=0∨h=1∨h=2)∧SrtR k b s (P++M++S) o.2 by
  obtain⟨⟨v,s'⟩,x,h,h1,h2,h3⟩:=hgo
  simp only at h2
  subst h2
  exact⟨x,h,s',kept_go k225 (by kernel_rfl) h1,h3⟩
 have w1:IntKind.i64.wrap (((P.length+M.length:Nat):Int)-((P.length:Nat):Int))=((M.length:Nat):Int):=wrapN (by omega) (by omega)
 have qd:binA U .quo 3 true (.int .i64 ((M.length:Nat):Int)) (.int .i64 4)=some (.int .i64 ((M.length / 4:Nat):Int)):=bin_quoN U 3 true (d:=4) (by omega) (by omega)
 have hq4:4*(M.length / 4)≤M.length:=Nat.mul_div_le M.length 4
 have hq2:2≤M.length / 4:=by omega
 have v1:IntKind.i64.wrap (((M.length / 4:Nat):Int)*1)=((M.length / 4*1:Nat):Int):=wrapN (by omega) (by omega)
 have v2:IntKind.i64.wrap (((M.length / 4:Nat):Int)*2)=((M.length / 4*2:Nat):Int):=wrapN (by omega) (by omega)
 have v3:IntKind.i64.wrap (((M.length / 4:Nat):Int)*3)=((M.length / 4*3:Nat):Int):=wrapN (by omega) (by omega)
 generalize M.length / 4=Q at *
 have u1:IntKind.i64.wrap (((P.length:Nat):Int)+((Q*1:Nat):Int))=((P.length+Q*1:Nat):Int):=wrapN (by omega) (by omega)
 have u2:IntKind.i64.wrap (((P.length:Nat):Int)+((Q*2:Nat):Int))=((P.length+Q*2:Nat):Int):=wrapN (by omega) (by omega)
 have u3:IntKind.i64.wrap (((P.length:Nat):Int)+((Q*3:Nat):Int))=((P.length+Q*3:Nat):Int):=wrapN (by omega) (by omega)
 have h8:decide (((M.length:Nat):Int)≥8)=true:=decide_eq_true (by omega)
 obtain⟨S0,hS0⟩:∃S0,S0=s.new (.cells [.int .i64 0] 3 false 0 0):=⟨_,rfl⟩
 have hS0n:S0.next=s.next+1:=by rw[hS0,next_new]
 have gb0:S0.get b=some (.cells (pcs k (P++M++S)) 116 false 0 0):=by rw[hS0,get_new,if_neg (by omega)];exact gb
 have gw0:S0.get s.next=some (.cells [.int .i64 0] 3 false 0 0):=by rw[hS0,get_new,if_pos rfl]
 have k0:∀j,j<s.next→S0.get j=s.get j:=fun j h=>by rw[hS0,get_new,if_neg (by omega)]
 have fr0:Fr S0:=by rw[hS0];exact fr.new _
 have hbw:b≠s.next:=by omega
 have done:∀s',SwR s.next S0 s'→SrtR k b s (P++M++S) s':=fun s' h =>
  ⟨(h.2.1 b (by omega) hbw).trans gb0,fun j h1 h2=>(h.2.1 j (by omega) (by omega)).trans (k0 j h1),by have:=h.2.2.1;omega,h.2.2.2⟩
 cases h50:decide (((M.length:Nat):Int)≥50) with
 |false =>
  obtain⟨x,s',e,d,R⟩:=c257 (cap:=cap) (i:=Q*1) (j:=Q*2) (l:=Q*3) hk0 hL (by omega) (by omega) (by omega) gb0 gw0 (by omega) (by omega) fr0
  obtain⟨⟨c',g'⟩,_,_,_⟩:=id R
  have hd:=done s' R
  rw[hS0] at e
  cases z0:c'==0 with
  |true =>
   simp (maxSteps:=2000000) +contextual only[go_sem,↓reduceIte,r225,w1,qd,v1,v2,v3,u1,u2,u3,h8,h50,k257',e,g',z0]
   exact⟨_,x,1,rfl,rfl,by omega,.inr (.inl rfl),hd⟩
  |false =>
   cases z1:c'==12 with
   |true =>
    simp (maxSteps:=2000000) +contextual only[go_sem,↓reduceIte,r225,w1,qd,v1,v2,v3,u1,u2,u3,h8,h50,k257',e,g',z0,z1]
    exact⟨_,x,2,rfl,rfl,by omega,.inr (.inr rfl),hd⟩
   |false =>
    simp (maxSteps:=2000000) +contextual only[go_sem,↓reduceIte,r225,w1,qd,v1,v2,v3,u1,u2,u3,h8,h50,k257',e,g',z0,z1]
    exact⟨_,x,0,rfl,rfl,by omega,.inl rfl,hd⟩
 |true =>
  obtain⟨x1,s1,e1,d1,R1⟩:=c256 (cap:=cap) (i:=Q*1) hk0 hL hn (by omega) (by omega) gb0 gw0 (by omega) (by omega) fr0
  obtain⟨⟨c1,g1⟩,m1,n1,f1⟩:=id R1
  obtain⟨x2,s2,e2,d2,R2⟩:=c256 (cap:=cap) (i:=Q*2) hk0 hL hn (by omega) (by omega) ((m1 b (by omega) hbw).trans gb0) g1 (by omega) (by omega) f1
  obtain⟨⟨c2,g2⟩,m2,n2,f2⟩:=id R2
  obtain⟨x3,s3,e3,d3,R3⟩:=c256 (cap:=cap) (i:=Q*3) hk0 hL hn (by omega) (by omega) ((m2 b (by omega) hbw).trans ((m1 b (by omega) hbw).trans gb0)) g2 (by omega) (by omega) f2
  obtain⟨⟨c3,g3⟩,m3,n3,f3⟩:=id R3
  obtain⟨x,s',e,d,R⟩:=c257 (cap:=cap) (i:=x1) (j:=x2) (l:=x3) hk0 hL d1 d2 d3 ((m3 b (by omega) hbw).trans ((m2 b (by omega) hbw).trans ((m1 b (by omega) hbw).trans gb0))) g3 (by omega) (by omega) f3
  obtain⟨⟨c',g'⟩,_,_,_⟩:=id R
  have hd:=done s' (((R1.trans R2).trans R3).trans R)
  have hx:x<M.length:=by rcases d with h|h|h <;> omega
  rw[hS0] at e1
  cases z0:c'==0 with
  |true =>
   simp (maxSteps:=2000000) +contextual only[go_sem,↓reduceIte,r225,w1,qd,v1,v2,v3,u1,u2,u3,h8,h50,k256',k257',e1,e2,e3,e,g',z0]
   exact⟨_,x,1,rfl,rfl,hx,.inr (.inl rfl),hd⟩
  |false =>
   cases z1:c'==12 with
   |true =>
    simp (maxSteps:=2000000) +contextual only[go_sem,↓reduceIte,r225,w1,qd,v1,v2,v3,u1,u2,u3,h8,h50,k256',k257',e1,e2,e3,e,g',z0,z1]
    exact⟨_,x,2,rfl,rfl,hx,.inr (.inr rfl),hd⟩
   |false =>
    simp (maxSteps:=2000000) +contextual only[go_sem,↓reduceIte,r225,w1,qd,v1,v2,v3,u1,u2,u3,h8,h50,k256',k257',e1,e2,e3,e,g',z0,z1]
    exact⟨_,x,0,rfl,rfl,hx,.inl rfl,hd⟩
theorem wrap_u64 (n:Int):IntKind.u64.wrap n=n%18446744073709551616:=by simp[IntKind.wrap,IntKind.bits,IntKind.signed]
def pow2OK (n:Nat)(v:Option AV):Bool:=match v with
 |some (.int .u64 m)=>(List.range 8).any fun j=>decide (m=((2^j:Nat):Int))&&decide (n<2^j)&&decide (2^j≤2*n)
 |_=>false
theorem pow2_all:(List.range 65).all (fun n=>decide (n<8)||pow2OK n (callQ U (exec U 1000) 254 [.int .i64 (n:Int)] true))=true:=by kernel_rfl
theorem c254 {n:Nat}(h8:8≤n)(h:n≤64):∃j,calV U 254 [.int .i64 (n:Int)]=some (.int .u64 ((2^j:Nat):Int))∧n<2^j∧2^j≤2*n:=by
 have h1:=List.all_eq_true.1 pow2_all n (List.mem_range.2 (by omega))
 have h2:decide (n<8)=false:=decide_eq_false (by omega)
 rw[h2,Bool.false_or] at h1
 cases hv:callQ U (exec U 1000) 254 [.int .i64 (n:Int)] true with
 |none=>rw[hv] at h1;cases h1
 |some v =>
  rw[hv] at h1
  unfold pow2OK at h1
  split at h1
  ·rename_i m hm
   cases hm
   obtain⟨j,_,hj⟩:=List.any_eq_true.1 h1
   simp only[Bool.and_eq_true,decide_eq_true_iff] at hj
   obtain⟨⟨rfl,h4⟩,h5⟩:=hj
   exact⟨j,v_of_q (by kernel_rfl) rfl (callQ_run U hv),h4,h5⟩
  ·cases h1
def lenOK (v:Option AV):Bool:=match v with
 |some (.int .i64 _)=>true
 |_=>false
theorem len_all:(List.range 65).all (fun n=>lenOK (callQ U (exec U 1000) 185 [.int .u64 (n:Int)] true))=true:=by kernel_rfl
theorem c185 {n:Nat}(h:n≤64):∃v:Int,calV U 185 [.int .u64 (n:Int)]=some (.int .i64 v):=by
 have h1:=List.all_eq_true.1 len_all n (List.mem_range.2 (by omega))
 cases hv:callQ U (exec U 1000) 185 [.int .u64 (n:Int)] true with
 |none=>rw[hv] at h1;cases h1
 |some v =>
  rw[hv] at h1
  unfold lenOK at h1
  split at h1
  ·rename_i m hm
   cases hm
   exact⟨m,v_of_q (by kernel_rfl) rfl (callQ_run U hv)⟩
  ·cases h1
theorem k255' (args:List AV)(s:St):callK U (calV U 255 args) 255 args s=cal U 255 args s:=(callK_eq ..).symm
theorem b_shl (x y:Int)(hy:¬y<0):∃z:Int,binA U .shl 317 true (.int .u64 x) (.int .u64 y)=some (.int .u64 z):=⟨_,by simp only[binA,shiftA,if_neg hy];rfl⟩
theorem b_shr (x y:Int)(hy:¬y<0):∃z:Int,binA U .shr 317 true (.int .u64 x) (.int .u64 y)=some (.int .u64 z):=⟨_,by simp only[binA,shiftA,if_neg hy];rfl⟩
theorem b_xor (x y:Int):∃z:Int,binA U .xor 317 false (.int .u64 x) (.int .u64 y)=some (.int .u64 z):=⟨_,by simp only[binA,intA,if_true];rfl⟩
theorem c255 {w:Nat}{c:Int}{s:St}(gw:s.get w=some (.cells [.int .u64 c] 317 false 0 0))(hw:w<s.next)(fr:Fr s) :
  ∃(c':Int) (s':St),cal U 255 [.ptr w 0] s=some (.int .u64 c',s')∧s'.get w=some (.cells [.int .u64 c'] 317 false 0 0)∧(∀q,q<s.next→q≠w→s'.get q=s.get q)∧s.next≤s'.next∧Fr s':=by
 suffices hgo:∃(x:AV×St) (c':Int),go U (finB U [.tmp 2]) [] r255 (bindArgs 0 [.ptr w 0] .nil) s=some x∧x.1=.int .u64 c'∧x.2.get w=some (.cells [.int .u64 c'] 317 false 0 0)∧(∀q,q<s.next→q≠w→x.2.get q=s.get q)∧s.next≤x.2.next∧Fr x.2 by
  obtain⟨⟨v,s'⟩,c',h1,h2,h3⟩:=hgo
  simp only at h2
  subst h2
  exact⟨c',s',kept_go k255 (by kernel_rfl) h1,h3⟩
 obtain⟨a1,h1⟩:=b_shl c 13 (by decide)
 obtain⟨a2,h2⟩:=b_xor c a1
 obtain⟨a3,h3⟩:=b_shr a2 7 (by decide)
 obtain⟨a4,h4⟩:=b_xor a2 a3
 obtain⟨a5,h5⟩:=b_shl a4 17 (by decide)
 obtain⟨a6,h6⟩:=b_xor a4 a5
 simp (maxSteps:=2000000) +contextual only[go_sem,↓reduceIte,r255,gw,h1,h2,h3,h4,h5,h6]
 refine⟨_,a6,rfl,rfl,by rw[get_put,if_pos rfl],fun q h1 h2=>?_,?_,?_⟩
 ·rw[get_put,if_neg (fun e=>h2 e.symm),upto_get,get_put,if_neg (fun e=>h2 e.symm),upto_get,get_put,if_neg (fun e=>h2 e.symm),upto_get]
 ·simp only[next_put,upto_next];omega
 ·repeat first|exact fr|apply Fr.new|apply Fr.put|apply Fr.upto
  all_goals try simp only[next_put,next_new,upto_next]
  all_goals omega
theorem b_and {j:Nat}(hj:j≤62)(x:Int):∃r:Nat,r<2^j∧binA U .and 272 false (.int .u64 x) (.int .u64 ((2^j-1:Nat):Int))=some (.int .u64 ((r:Nat):Int)):=by
 have hp:2^j≤2^62:=Nat.pow_le_pow_right (by omega) hj
 have hp0:0<2^j:=Nat.two_pow_pos j
 have hb:(BitVec.ofInt 64 ((2^j-1:Nat):Int)).toNat=2^j-1:=by
  rw[BitVec.ofInt_natCast,BitVec.toNat_ofNat,Nat.mod_eq_of_lt (by omega)]
 have hle:(BitVec.ofInt 64 x &&& BitVec.ofInt 64 ((2^j-1:Nat):Int)).toNat≤2^j-1:=by
  rw[BitVec.toNat_and,hb]
  exact Nat.and_le_right
 refine⟨(BitVec.ofInt 64 x &&& BitVec.ofInt 64 ((2^j-1:Nat):Int)).toNat,by omega,?_⟩
 simp only[binA,intA,if_true]
 have hw:∀m:Nat,m<2^64→IntKind.u64.wrap ((m:Nat):Int)=(m:Int):=fun m hm=>by
  rw[wrap_u64];omega
 show some (AV.int .u64 (IntKind.u64.wrap (((BitVec.ofInt 64 x &&& BitVec.ofInt 64 ((2^j-1:Nat):Int)).toNat:Nat):Int)))=_
 rw[hw _ (by omega)]
theorem und_317:U.und 317=some (.int .u64):=by kernel_rfl
theorem wrapU {a:Int}{n:Nat}(h:a=(n:Int))(hn:n<2^62):IntKind.u64.wrap a=(n:Int):=by
 subst h
 rw[wrap_u64];omega
theorem c224 {k n b:Nat}{cap:Option Nat}{P M S:List Nat}(hL:P.length+M.length+S.length=n)(hn:n≤2^20)(hM:8≤M.length)(hM2:M.length≤64){fn:AV}{s:St}(gb:s.get b=some (.cells (pcs k (P++M++S)) 116 false 0 0))(hb:b<s.next)(fr:Fr s) :
  ∃v s' M',cal U 224 [.sl b 0 n cap 2,.int .i64 (P.length:Nat),.int .i64 (P.length+M.length:Nat),fn] s=some (v,s')∧SrtR k b s (P++M'++S) s'∧M'.Perm M:=by
 suffices hgo:∃x M',go U (finB U []) [] r224 (bindArgs 0 [.sl b 0 n cap 2,.int .i64 (P.length:Nat),.int .i64 (P.length+M.length:Nat),fn] .nil) s=some x∧SrtR k b s (P++M'++S) x.2∧M'.Perm M by
  obtain⟨x,M',h1,h2⟩:=hgo
  exact⟨x.1,x.2,M',kept_go k224 (by kernel_rfl) h1,h2⟩
 have w1:IntKind.i64.wrap (((P.length+M.length:Nat):Int)-((P.length:Nat):Int))=((M.length:Nat):Int):=wrapN (by omega) (by omega)
 have h8:decide (((M.length:Nat):Int)≥8)=true:=decide_eq_true (by omega)
 have wu:IntKind.u64.wrap ((M.length:Nat):Int)=((M.length:Nat):Int):=wrapU rfl (by omega)
 obtain⟨j,cj,j1,j2⟩:=c254 (n:=M.length) hM hM2
 have hj62:j≤62:=by
  rcases Nat.lt_or_ge 62 j with h|h
  ·have:2^63≤2^j:=Nat.pow_le_pow_right (by omega) h
   omega
  ·exact h
 have wj:IntKind.u64.wrap (((2^j:Nat):Int)-1)=((2^j-1:Nat):Int):=wrapU (by omega) (by omega)
 have qd:binA U .quo 3 true (.int .i64 ((M.length:Nat):Int)) (.int .i64 4)=some (.int .i64 ((M.length / 4:Nat):Int)):=bin_quoN U 3 true (d:=4) (by omega) (by omega)
 have hq4:4*(M.length / 4)≤M.length:=Nat.mul_div_le M.length 4
 have hq2:2≤M.length / 4:=by omega
 have v2:IntKind.i64.wrap (((M.length / 4:Nat):Int)*2)=((M.length / 4*2:Nat):Int):=wrapN (by omega) (by omega)
 generalize M.length / 4=Q at *
 have u2:IntKind.i64.wrap (((P.length:Nat):Int)+((Q*2:Nat):Int))=((P.length+Q*2:Nat):Int):=wrapN (by omega) (by omega)
 have u3:IntKind.i64.wrap (((P.length+Q*2:Nat):Int)-1)=((P.length+(Q*2-1):Nat):Int):=wrapN (by omega) (by omega)
 have u4:IntKind.i64.wrap (((P.length+Q*2:Nat):Int)+1)=((P.length+(Q*2+1):Nat):Int):=wrapN (by omega) (by omega)
 simp (maxSteps:=2000000) +contextual only[go_sem,↓reduceIte,r224,w1,h8,und_317,wu,cj,qd,v2,u2,u3]
 refine loop_ex (Post:=fun (o:Option (AV×St))=>∃x M',o=some x∧SrtR k b s (P++M'++S) x.2∧M'.Perm M) (σ:=Nat) (fun i=>Q*2+2-i) (fun i e' s'=>i≤Q*2+2∧Env.get e' 0=.sl b 0 n cap 2∧Env.get e' 1=.int .i64 (P.length:Nat)∧Env.get e' 8=.int .i64 (M.length:Nat)∧Env.get e' 9=.ptr s.next 0∧Env.get e' 10=.int .u64 ((2^j:Nat):Int)∧Env.get e' 11=.int .i64 (P.length+i:Nat) ∧
   ∃L' c,L'.length=M.length∧L'.Perm M∧SrtR k b s (P++L'++S) s'∧s'.get s.next=some (.cells [.int .u64 c] 317 false 0 0)∧s.next<s'.next) (Q*2-1) ?_
  ⟨by omega,?_,?_,?_,?_,?_,?_,M,((M.length:Nat):Int),rfl,List.Perm.refl _,⟨?_,fun q h1 h2=>?_,?_,?_⟩,?_,?_⟩
 ·rintro Lp i e1 s1 ⟨hi,q0,q1,q8,q9,q10,q11,L,c,hl,hp,hR,hw,hwn⟩ IH
  obtain⟨qb,hs1,hn1,fr1⟩:=id hR
  by_cases hd:i≤Q*2+1
  ·have hle:decide (((P.length+i:Nat):Int)≤((P.length+(Q*2+1):Nat):Int))=true:=decide_eq_true (by omega)
   obtain⟨c',s2,h255,g2,m2,n2,f2⟩:=c255 hw hwn fr1
   obtain⟨r,hr,hand⟩:=b_and hj62 c'
   have wr:IntKind.i64.wrap ((r:Nat):Int)=((r:Nat):Int):=wrapN rfl (by omega)
   have qb2:s2.get b=some (.cells (pcs k (P++L++S)) 116 false 0 0):=(m2 b (by omega) (by omega)).trans qb
   have hR2:SrtR k b s (P++L++S) s2:=⟨qb2,fun q h1 h2=>(m2 q (by omega) (by omega)).trans (hs1 q h1 h2),by omega,f2⟩
   have w5:IntKind.i64.wrap (((P.length+i:Nat):Int)+1)=((P.length+(i+1):Nat):Int):=wrapN (by omega) (by omega)
   have ai:i<L.length:=by omega
   have key:∀(q:Nat),q<M.length→∀(E:Env),Env.get E 0=.sl b 0 n cap 2→Env.get E 1=.int .i64 (P.length:Nat)→True:=fun _ _ _ _ _=>trivial
   by_cases hge:M.length≤r
   ·have dge:decide (((r:Nat):Int)≥((M.length:Nat):Int))=true:=decide_eq_true (by omega)
    have ws:IntKind.i64.wrap (((r:Nat):Int)-((M.length:Nat):Int))=((r-M.length:Nat):Int):=wrapN (by omega) (by omega)
    have aq:r-M.length<L.length:=by omega
    generalize r-M.length=q at *
    have wq:IntKind.i64.wrap (((P.length:Nat):Int)+((q:Nat):Int))=((P.length+q:Nat):Int):=wrapN (by omega) (by omega)
    have bi:P.length+i<n:=by omega
    have bq:P.length+q<n:=by omega
    have ri:=grabM k (P:=P) (M:=L) (S:=S) ai
    have rq:=grabM k (P:=P) (M:=L) (S:=S) aq
    have y0:=layM k (P:=P) (M:=L) (S:=S) (i:=i) L[q] ai
    have y1:=layM k (P:=P) (M:=L.set i L[q]) (S:=S) (i:=q) L[i] (by simpa using aq)
    simp (maxSteps:=2000000) +contextual only[go_sem,↓reduceIte,r224_l0,q0,q1,q8,q9,q10,q11,qd,v2,u2,u4,hle,k255',h255,wj,hand,wr,dge,ws,wq,qb2,bi,bq,ri,rq,y0,y1,w5,Nat.zero_add]
    refine IH (i+1) _ _ (by omega) ⟨by omega,?_,?_,?_,?_,?_,?_,(L.set i L[q]).set q L[i],c',by simp[hl],by rw[swp_set ai aq];exact (swp_perm ai aq).trans hp,srt_put2 hR2 hb (by omega),?_,?_⟩
    case refine_7=>rw[get_put,if_neg (by omega),get_put,if_neg (by omega),upto_get];exact g2
    case refine_8=>simp only[next_put,upto_next];omega
    all_goals simp +contextual only[go_sem,↓reduceIte,q0,q1,q8,q9,q10]
   ·have dge:decide (((r:Nat):Int)≥((M.length:Nat):Int))=false:=decide_eq_false (by omega)
    have aq:r<L.length:=by omega
    have wq:IntKind.i64.wrap (((P.length:Nat):Int)+((r:Nat):Int))=((P.length+r:Nat):Int):=wrapN (by omega) (by omega)
    have bi:P.length+i<n:=by omega
    have bq:P.length+r<n:=by omega
    have ri:=grabM k (P:=P) (M:=L) (S:=S) ai
    have rq:=grabM k (P:=P) (M:=L) (S:=S) aq
    have y0:=layM k (P:=P) (M:=L) (S:=S) (i:=i) L[r] ai
    have y1:=layM k (P:=P) (M:=L.set i L[r]) (S:=S) (i:=r) L[i] (by simpa using aq)
    simp (maxSteps:=2000000) +contextual only[go_sem,↓reduceIte,r224_l0,q0,q1,q8,q9,q10,q11,qd,v2,u2,u4,hle,k255',h255,wj,hand,wr,dge,wq,qb2,bi,bq,ri,rq,y0,y1,w5,Nat.zero_add]
    refine IH (i+1) _ _ (by omega) ⟨by omega,?_,?_,?_,?_,?_,?_,(L.set i L[r]).set r L[i],c',by simp[hl],by rw[swp_set ai aq];exact (swp_perm ai aq).trans hp,srt_put2 hR2 hb (by omega),?_,?_⟩
    case refine_7=>rw[get_put,if_neg (by omega),get_put,if_neg (by omega),upto_get];exact g2
    case refine_8=>simp only[next_put,upto_next];omega
    all_goals simp +contextual only[go_sem,↓reduceIte,q0,q1,q8,q9,q10]
  ·have hle:decide (((P.length+i:Nat):Int)≤((P.length+(Q*2+1):Nat):Int))=false:=decide_eq_false (by omega)
   simp (maxSteps:=2000000) +contextual only[go_sem,↓reduceIte,r224_l0,q1,q8,q11,qd,v2,u2,u4,hle]
   exact⟨_,L,rfl,hR,hp⟩
 case refine_8=>rw[get_put,if_neg (by omega),get_new,if_neg (by omega)];exact gb
 case refine_9=>rw[get_put,if_neg (by omega),get_new,if_neg (by omega)]
 case refine_10=>rw[next_put,next_new];omega
 case refine_11=>exact (fr.new _).put (by rw[next_new];omega) _
 case refine_12=>rw[get_put,if_pos rfl]
 case refine_13=>rw[next_put,next_new];omega
 all_goals simp +contextual only[go_sem,↓reduceIte]
theorem k184' (args:List AV)(s:St):callK U (calV U 184 args) 184 args s=cal U 184 args s:=(callK_eq ..).symm
structure InvN (k b:Nat)(s0:St)(P M S A N B:List Nat)(s:St):Prop where
 perm:(A++N++B).Perm M
 nd:M.Nodup
 sA:A.Pairwise (·≤·)
 sB:B.Pairwise (·≤·)
 lA:∀a∈A,∀x∈N++B,a<x
 lN:∀x∈N,∀y∈B,x<y
 ab:Above P M
 mem:SrtR k b s0 ((P++A)++N++(B++S)) s
def PPdq (k b:Nat)(s0:St)(P M S:List Nat)(o:Option (AV×St)):Prop:=∃x M',o=some x∧SrtR k b s0 (P++M'++S) x.2∧M'.Perm M∧M'.Pairwise (·≤·)
theorem InvN.len {k b:Nat}{s0 s:St}{P M S A N B:List Nat}(h:InvN k b s0 P M S A N B s):A.length+N.length+B.length=M.length:=by
 have:=h.perm.length_eq
 rw[List.length_append,List.length_append] at this
 omega
theorem InvN.ndN {k b:Nat}{s0 s:St}{P M S A N B:List Nat}(h:InvN k b s0 P M S A N B s):N.Nodup:=by
 have:=h.perm.nodup_iff.2 h.nd
 exact (List.nodup_append.1 (List.nodup_append.1 this).1).2.1
theorem InvN.above {k b:Nat}{s0 s:St}{P M S A N B:List Nat}(h:InvN k b s0 P M S A N B s):Above (P++A) N:=by
 by_cases hA:A.length=0
 ·have hA':A=[]:=List.length_eq_zero_iff.1 hA
  subst hA'
  rw[List.append_nil]
  rcases h.ab with h1|h1
  ·exact .inl h1
  ·exact .inr fun x hx=>h1 x (h.perm.mem_iff.1 (by simp[hx]))
 ·right
  intro x hx
  have hl:(P++A).length-1<(P++A).length:=by rw[List.length_append];omega
  rw[gt_get hl]
  have hm:(P++A)[(P++A).length-1]∈A:=by
   rw[List.getElem_append_right (by rw[List.length_append];omega)]
   exact List.getElem_mem _
  exact h.lA _ hm x (by simp[hx])
theorem InvN.swap {k b:Nat}{s0 s s':St}{P M S A N N' B:List Nat}(h:InvN k b s0 P M S A N B s)(hp:N'.Perm N)(hR:SrtR k b s ((P++A)++N'++(B++S)) s'):InvN k b s0 P M S A N' B s':=by
 refine⟨?_,h.nd,h.sA,h.sB,fun a ha x hx=>?_,fun x hx=>h.lN x (hp.mem_iff.1 hx),h.ab,h.mem.trans hR⟩
 ·exact ((hp.append_left A).append_right B).trans h.perm
 ·refine h.lA a ha x ?_
  rcases List.mem_append.1 hx with hx|hx
  ·exact List.mem_append.2 (.inl (hp.mem_iff.1 hx))
  ·exact List.mem_append.2 (.inr hx)
theorem InvN.done {k b:Nat}{s0 s s':St}{P M S A N N' B:List Nat}(h:InvN k b s0 P M S A N B s)(hp:N'.Perm N)(hs:N'.Pairwise (·≤·))(hR:SrtR k b s ((P++A)++N'++(B++S)) s')(v:AV):PPdq k b s0 P M S (some (v,s')):=by
 have h':=h.swap hp hR
 refine⟨_,A++N'++B,rfl,?_,h'.perm,?_⟩
 ·have:=h'.mem
  have e:(P++A)++N'++(B++S)=P++(A++N'++B)++S:=by simp[List.append_assoc]
  rwa [e] at this
 ·rw[List.pairwise_append,List.pairwise_append]
  refine⟨⟨h'.sA,hs,fun a ha x hx=>?_⟩,h'.sB,fun a ha x hx=>?_⟩
  ·have:=h'.lA a ha x (List.mem_append.2 (.inl hx));omega
  ·rcases List.mem_append.1 ha with ha|ha
   ·have:=h'.lA a ha x (List.mem_append.2 (.inr hx));omega
   ·have:=h'.lN a ha x hx;omega
theorem Parted.split {N:List Nat}{q:Nat}(h:Parted N q)(hn:N.Nodup):∃N1 p N2,N=N1++p::N2∧N1.length=q∧(∀x∈N1,x<p)∧(∀x∈N2,p<x):=by
 obtain⟨h1,h2,h3⟩:=h
 have e:N=N.take q++N[q]::N.drop (q+1):=by rw[←List.drop_eq_getElem_cons h1,List.take_append_drop]
 refine⟨N.take q,N[q],N.drop (q+1),e,by rw[List.length_take];omega,fun x hx=>?_,fun x hx=>?_⟩
 ·obtain⟨i,hi,rfl⟩:=List.mem_take_iff_getElem.1 hx
  have:=h2 i (by omega)
  rwa [gt_get (by omega),gt_get h1] at this
 ·obtain⟨i,hi,rfl⟩:=List.mem_iff_getElem.1 hx
  rw[List.length_drop] at hi
  rw[List.getElem_drop]
  have h4:=h3 (q+1+i) (by omega) (by omega)
  rw[gt_get (by omega),gt_get h1] at h4
  have h5:N[q+1+i]≠N[q]:=fun e=>by
   have:=(List.getElem_inj hn).1 e
   omega
  omega
theorem l184e {k n b m:Nat}{cap:Option Nat}{P M S A N B:List Nat}(hk0:0<k)(hL:P.length+M.length+S.length=n)(hn:n≤2^20){s0:St}(hb:b<s0.next){Lp:RC}{q:Nat}
  (rcs:∀(P' N' S':List Nat) (lim:Int) (s:St),N'.length<N.length→N'.Nodup→Above P' N'→P'.length+N'.length+S'.length=n→s.get b=some (.cells (pcs k (P'++N'++S')) 116 false 0 0)→b<s.next→Fr s→∃v s' N2,cal U 184 [.sl b 0 n cap 2,.int .i64 (P'.length:Nat),.int .i64 (P'.length+N'.length:Nat),.int .i64 lim,.fn (.func 142) [] []] s=some (v,s')∧SrtR k b s (P'++N2++S') s'∧N2.Perm N'∧N2.Pairwise (·≤·))
  (IH:∀(A' N' B':List Nat) (e:Env) (s:St) (lim:Int) (f1 f2:Bool),N'.length<N.length→InvN k b s0 P M S A' N' B' s→Env.get e 0=.sl b 0 n cap 2→Env.get e 1=.int .i64 (P.length+A'.length:Nat)→Env.get e 2=.int .i64 (P.length+A'.length+N'.length:Nat)→Env.get e 3=.int .i64 lim→Env.get e 4=.fn (.func 142) [] []→Env.get e 10=.bool f1→Env.get e 11=.bool f2→PPdq k b s0 P M S (goL U (finB U []) [.bk 0] Lp e s))
  {e:Env}{s:St}{lim:Int}{f2:Bool}(hI:InvN k b s0 P M S A N B s)(hq:Parted N q)(g0:Env.get e 0=.sl b 0 n cap 2)(g1:Env.get e 1=.int .i64 (P.length+A.length:Nat))(g2:Env.get e 2=.int .i64 (P.length+A.length+N.length:Nat))(g3:Env.get e 3=.int .i64 lim)(g4:Env.get e 4=.fn (.func 142) [] [])(g11:Env.get e 11=.bool f2)(g12:Env.get e 12=.int .i64 (N.length:Nat))(g16:Env.get e 16=.int .i64 (P.length+A.length+q:Nat)) :
  PPdq k b s0 P M S (go U (finB U []) [.bk 1,.lp Lp,.bk 0] r184_e e s):=by
 have hlen:=hI.len
 have hab:=hI.above
 obtain⟨N1,p,N2,hN,hN1,hlt,hgt⟩:=hq.split hI.ndN
 have hNl:N.length=q+1+N2.length:=by rw[hN,←hN1];simp;omega
 have hnd:(N1++p::N2).Nodup:=by rw[←hN];exact hI.ndN
 have w1:IntKind.i64.wrap (((P.length+A.length+q:Nat):Int)-((P.length+A.length:Nat):Int))=((q:Nat):Int):=wrapN (by omega) (by omega)
 have w2:IntKind.i64.wrap (((P.length+A.length+N.length:Nat):Int)-((P.length+A.length+q:Nat):Int))=((N.length-q:Nat):Int):=wrapN (by omega) (by omega)
 have w3:IntKind.i64.wrap (((P.length+A.length+q:Nat):Int)+1)=((P.length+A.length+q+1:Nat):Int):=wrapN (by omega) (by omega)
 have qd:binA U .quo 3 true (.int .i64 ((N.length:Nat):Int)) (.int .i64 8)=some (.int .i64 ((N.length / 8:Nat):Int)):=bin_quoN U 3 true (d:=8) (by omega) (by omega)
 generalize N.length / 8=T at *
 obtain⟨hmem,hs,hnx,fr⟩:=id hI.mem
 by_cases hd:q<N.length-q
 ·
  have em:P++A++N++(B++S)=(P++A)++N1++(p::N2++B++S):=by rw[hN];simp[List.append_assoc]
  obtain⟨v,s2,N1',hcal,hR2,hp2,hs2⟩:=rcs (P++A) N1 (p::N2++B++S) lim s (by omega) (List.nodup_append.1 hnd).1 (by
   rcases hab with h|h
   ·exact .inl h
   ·exact .inr fun x hx=>h x (by rw[hN];simp[hx])) (by simp;omega) (by rw[←em];exact hmem) (by omega) fr
  rw[List.length_append,hN1] at hcal
  simp (maxSteps:=2000000) +contextual only[go_sem,↓reduceIte,r184_e,g0,g1,g2,g3,g4,g12,g16,w1,w2,qd,nat_lt_dec,hd,k184',hcal,w3]
  have hl1:N1'.length=q:=by rw[hp2.length_eq,hN1]
  have hlA:(A++N1'++[p]).length=A.length+q+1:=by simp[hl1];omega
  refine IH (A++N1'++[p]) N2 B _ _ lim (decide (((q:Nat):Int)≥((T:Nat):Int))) f2 (by omega) ?_ ?_ ?_ ?_ ?_ ?_ ?_ ?_
  case refine_1 =>
   refine⟨?_,hI.nd,?_,hI.sB,fun a ha x hx=>?_,fun x hx=>hI.lN x (by rw[hN];simp[hx]),hI.ab,hI.mem.trans ?_⟩
   ·have h1:(A++N1'++[p]++N2++B).Perm (A++(N1++p::N2)++B):=by
     have h2:=((hp2.append_left A).append_right (p::N2)).append_right B
     simpa[List.append_assoc] using h2
    rw[←hN] at h1
    exact h1.trans hI.perm
   ·rw[List.pairwise_append,List.pairwise_append]
    refine⟨⟨hI.sA,hs2,fun a ha x hx=>?_⟩,by simp,fun a ha x hx=>?_⟩
    ·have:=hI.lA a ha x (by rw[hN];simp[hp2.mem_iff.1 hx]);omega
    ·rw[List.mem_singleton.1 hx]
     rcases List.mem_append.1 ha with ha|ha
     ·have:=hI.lA a ha p (by rw[hN];simp);omega
     ·have:=hlt a (hp2.mem_iff.1 ha);omega
   ·have hx':x∈N++B:=by
     rcases List.mem_append.1 hx with h|h
     ·rw[hN];simp[h]
     ·simp[h]
    rcases List.mem_append.1 ha with ha|ha
    ·rcases List.mem_append.1 ha with ha|ha
     ·exact hI.lA a ha x hx'
     ·have h1:=hp2.mem_iff.1 ha
      rcases List.mem_append.1 hx with h|h
      ·have:=hlt a h1;have:=hgt x h;omega
      ·exact hI.lN a (by rw[hN];simp[h1]) x h
    ·rw[List.mem_singleton.1 ha]
     rcases List.mem_append.1 hx with h|h
     ·exact hgt x h
     ·exact hI.lN p (by rw[hN];simp) x h
   ·have e2:(P++A)++N1'++(p::N2++B++S)=P++(A++N1'++[p])++N2++(B++S):=by simp[List.append_assoc]
    rw[←e2];exact hR2
  case refine_3 =>
   rw[hlA,show P.length+(A.length+q+1)=P.length+A.length+q+1 by omega]
   simp +contextual only[go_sem,↓reduceIte]
  case refine_4 =>
   rw[hlA,show P.length+(A.length+q+1)+N2.length=P.length+A.length+N.length by omega]
   simp +contextual only[go_sem,↓reduceIte,g2]
  all_goals simp +contextual only[go_sem,↓reduceIte,g0,g3,g4,g11]
 ·
  have em:P++A++N++(B++S)=(P++A++N1++[p])++N2++(B++S):=by rw[hN];simp[List.append_assoc]
  have hlP:(P++A++N1++[p]).length=P.length+A.length+q+1:=by simp[hN1];omega
  obtain⟨v,s2,N2',hcal,hR2,hp2,hs2⟩:=rcs (P++A++N1++[p]) N2 (B++S) lim s (by omega) (List.nodup_cons.1 (List.nodup_append.1 hnd).2.1).2 (.inr fun x hx=>by
   rw[gt_get (by rw[hlP];omega)]
   have:(P++A++N1++[p])[(P++A++N1++[p]).length-1]'(by rw[hlP];omega)=p:=by
    rw[List.getElem_append_right (by simp;omega)]
    simp
   rw[this]
   exact hgt x hx) (by rw[hlP];simp;omega) (by rw[←em];exact hmem) (by omega) fr
  rw[hlP,show P.length+A.length+q+1+N2.length=P.length+A.length+N.length by omega] at hcal
  simp (maxSteps:=2000000) +contextual only[go_sem,↓reduceIte,r184_e,g0,g1,g2,g3,g4,g12,g16,w1,w2,qd,nat_lt_dec,hd,k184',hcal,w3]
  have hl2:N2'.length=N2.length:=hp2.length_eq
  refine IH A N1 (p::N2'++B) _ _ lim (decide (((N.length-q:Nat):Int)≥((T:Nat):Int))) f2 (by omega) ?_ ?_ ?_ ?_ ?_ ?_ ?_ ?_
  case refine_1 =>
   refine⟨?_,hI.nd,hI.sA,?_,fun a ha x hx=>?_,fun x hx y hy=>?_,hI.ab,hI.mem.trans ?_⟩
   ·have h1:(A++N1++(p::N2'++B)).Perm (A++(N1++p::N2)++B):=by
     have h2:=((hp2.cons p).append_left (A++N1)).append_right B
     simpa[List.append_assoc] using h2
    rw[←hN] at h1
    exact h1.trans hI.perm
   ·rw[List.cons_append,List.pairwise_cons,List.pairwise_append]
    refine⟨fun x hx=>?_,hs2,hI.sB,fun a ha x hx=>?_⟩
    ·rcases List.mem_append.1 hx with h|h
     ·have:=hgt x (hp2.mem_iff.1 h);omega
     ·have:=hI.lN p (by rw[hN];simp) x h;omega
    ·have:=hI.lN a (by rw[hN];simp[hp2.mem_iff.1 ha]) x hx;omega
   ·refine hI.lA a ha x ?_
    rw[hN]
    rcases List.mem_append.1 hx with h|h
    ·simp[h]
    ·rcases List.mem_append.1 h with h|h
     ·rcases List.mem_cons.1 h with h|h
      ·simp[h]
      ·simp[hp2.mem_iff.1 h]
     ·simp[h]
   ·rcases List.mem_append.1 hy with h|h
    ·rcases List.mem_cons.1 h with h|h
     ·rw[h];exact hlt x hx
     ·have h1:=hlt x hx;have h2:=hgt y (hp2.mem_iff.1 h);omega
    ·exact hI.lN x (by rw[hN];simp[hx]) y h
   ·have e2:(P++A++N1++[p])++N2'++(B++S)=P++A++N1++(p::N2'++B++S):=by simp[List.append_assoc]
    rw[←e2];exact hR2
  case refine_4 =>
   rw[hN1]
   simp +contextual only[go_sem,↓reduceIte]
  all_goals simp +contextual only[go_sem,↓reduceIte,g0,g1,g3,g4,g11]
theorem k229' (args:List AV)(s:St):callK U (calV U 229 args) 229 args s=cal U 229 args s:=(callK_eq ..).symm
theorem k227' (args:List AV)(s:St):callK U (calV U 227 args) 227 args s=cal U 227 args s:=(callK_eq ..).symm
theorem k226' (args:List AV)(s:St):callK U (calV U 226 args) 226 args s=cal U 226 args s:=(callK_eq ..).symm
theorem k225' (args:List AV)(s:St):callK U (calV U 225 args) 225 args s=cal U 225 args s:=(callK_eq ..).symm
theorem k224' (args:List AV)(s:St):callK U (calV U 224 args) 224 args s=cal U 224 args s:=(callK_eq ..).symm
theorem k223' (args:List AV)(s:St):callK U (calV U 223 args) 223 args s=cal U 223 args s:=(callK_eq ..).symm
def RecS (k n b m:Nat)(cap:Option Nat):Prop:=∀(P' N' S':List Nat) (lim:Int) (s:St),N'.length<m→N'.Nodup→Above P' N'→P'.length+N'.length+S'.length=n→s.get b=some (.cells (pcs k (P'++N'++S')) 116 false 0 0)→b<s.next→Fr s→∃v s' N2,cal U 184 [.sl b 0 n cap 2,.int .i64 (P'.length:Nat),.int .i64 (P'.length+N'.length:Nat),.int .i64 lim,.fn (.func 142) [] []] s=some (v,s')∧SrtR k b s (P'++N2++S') s'∧N2.Perm N'∧N2.Pairwise (·≤·)
def LoopS (k n b m:Nat)(cap:Option Nat)(s0:St)(P M S:List Nat)(Lp:RC):Prop:=∀(A' N' B':List Nat) (e:Env) (s:St) (lim:Int) (f1 f2:Bool),N'.length<m→InvN k b s0 P M S A' N' B' s→Env.get e 0=.sl b 0 n cap 2→Env.get e 1=.int .i64 (P.length+A'.length:Nat)→Env.get e 2=.int .i64 (P.length+A'.length+N'.length:Nat)→Env.get e 3=.int .i64 lim→Env.get e 4=.fn (.func 142) [] []→Env.get e 10=.bool f1→Env.get e 11=.bool f2→PPdq k b s0 P M S (goL U (finB U []) [.bk 0] Lp e s)
theorem l184d {k n b:Nat}{cap:Option Nat}{P M S A N B:List Nat}(hk0:0<k)(hL:P.length+M.length+S.length=n)(hn:n≤2^20){s0:St}(hb:b<s0.next){Lp:RC}{x:Nat}(rcs:RecS k n b N.length cap)(IH:LoopS k n b N.length cap s0 P M S Lp)
  {e:Env}{s:St}{lim:Int}(hI:InvN k b s0 P M S A N B s)(hx:x<N.length)(g0:Env.get e 0=.sl b 0 n cap 2)(g1:Env.get e 1=.int .i64 (P.length+A.length:Nat))(g2:Env.get e 2=.int .i64 (P.length+A.length+N.length:Nat))(g3:Env.get e 3=.int .i64 lim)(g4:Env.get e 4=.fn (.func 142) [] [])(g12:Env.get e 12=.int .i64 (N.length:Nat))(g13:Env.get e 13=.int .i64 (P.length+A.length+x:Nat)) :
  PPdq k b s0 P M S (go U (finB U []) [.bk 1,.lp Lp,.bk 0] r184_d e s):=by
 have hlen:=hI.len
 have hab:=hI.above
 have hlPA:(P++A).length=P.length+A.length:=List.length_append
 obtain⟨hmem,hs,hnx,fr⟩:=id hI.mem
 have next:∀(E:Env) (s1:St),(∀t:Nat,t<15→Env.get E t=Env.get e t)→SrtR k b s (P++A++N++(B++S)) s1→∃(s2:St) (N':List Nat) (q:Nat) (fl:Bool),cal U 229 [.sl b 0 n cap 2,.int .i64 (P.length+A.length:Nat),.int .i64 (P.length+A.length+N.length:Nat),.int .i64 (P.length+A.length+x:Nat),.fn (.func 142) [] []] s1=some (.tup [.int .i64 (P.length+A.length+q:Nat),.bool fl],s2)∧InvN k b s0 P M S A N' B s2∧Parted N' q∧N'.length=N.length:=by
  intro E s1 hE hR1
  obtain⟨s2,N',q,fl,hcal,hR2,hp,hq⟩:=c229 (cap:=cap) (P:=P++A) (M:=N) (S:=B++S) (n:=n) hk0 (by rw[hlPA,List.length_append];omega) hn hx hR1.1 (by have:=hR1.2.2.1;omega) hR1.2.2.2
  rw[hlPA] at hcal
  exact⟨s2,N',q,fl,hcal,hI.swap hp (hR1.trans hR2),hq,hp.length_eq⟩
 have fin:∀(E:Env) (s2:St) (N':List Nat) (q:Nat) (fl:Bool),InvN k b s0 P M S A N' B s2→Parted N' q→N'.length=N.length→Env.get E 0=.sl b 0 n cap 2→Env.get E 1=.int .i64 (P.length+A.length:Nat)→Env.get E 2=.int .i64 (P.length+A.length+N.length:Nat)→Env.get E 3=.int .i64 lim→Env.get E 4=.fn (.func 142) [] []→Env.get E 11=.bool fl→Env.get E 12=.int .i64 (N.length:Nat)→Env.get E 16=.int .i64 (P.length+A.length+q:Nat)→PPdq k b s0 P M S (go U (finB U []) [.bk 1,.lp Lp,.bk 0] r184_e E s2):=by
  intro E s2 N' q fl hI2 hq hl p0 p1 p2 p3 p4 p11 p12 p16
  refine l184e (m:=0) hk0 hL hn hb (A:=A) (N:=N') (B:=B) ?_ ?_ hI2 hq p0 p1 (by rw[hl];exact p2) p3 p4 p11 (by rw[hl];exact p12) p16
  ·rw[hl];exact rcs
  ·rw[hl];exact IH
 by_cases hz:P.length+A.length=0
 ·have d0:decide (((P.length+A.length:Nat):Int)>0)=false:=decide_eq_false (by omega)
  obtain⟨s2,N',q,fl,hcal,hI2,hq,hl⟩:=next e (s.upto (s.next+17)) (fun _ _=>rfl) (srt_upto ⟨hmem,fun _ _ _=>rfl,Nat.le_refl _,fr⟩ (by omega))
  simp (maxSteps:=2000000) +contextual only[go_sem,↓reduceIte,r184_d,g0,g1,g2,g4,g13,d0,k229',hcal]
  refine fin _ _ N' q fl hI2 hq hl ?_ ?_ ?_ ?_ ?_ ?_ ?_ ?_
  all_goals simp +contextual only[go_sem,↓reduceIte,g0,g1,g2,g3,g4,g12]
 ·have d0:decide (((P.length+A.length:Nat):Int)>0)=true:=decide_eq_true (by omega)
  have w1:IntKind.i64.wrap (((P.length+A.length:Nat):Int)-1)=((P.length+A.length-1:Nat):Int):=wrapN (by omega) (by omega)
  have hlt:gt (P++A) (P.length+A.length-1)<N[x]:=by
   rcases hab with h|h
   ·omega
   ·have:=h _ (List.getElem_mem hx)
    rwa [hlPA] at this
  have r0:=grabP k (P:=P++A) (M:=N) (S:=B++S) (by omega)
  have rx:=grabM k (P:=P++A) (M:=N) (S:=B++S) hx
  rw[hlPA] at r0 rx
  generalize gt (P++A) (P.length+A.length-1)=z at *
  have c1:=c142 ((z / k:Nat):Int) ((z%k:Nat):Int) ((N[x] / k:Nat):Int) ((N[x]%k:Nat):Int)
  have o1:=(ord_code (k:=k) (c:=z) (d:=N[x]) hk0).1
  rw[decide_eq_true hlt] at o1
  have b0:P.length+A.length-1<n:=by omega
  have bx:P.length+A.length+x<n:=by omega
  obtain⟨s2,N',q,fl,hcal,hI2,hq,hl⟩:=next e (s.upto (s.next+17)) (fun _ _=>rfl) (srt_upto ⟨hmem,fun _ _ _=>rfl,Nat.le_refl _,fr⟩ (by omega))
  simp (maxSteps:=2000000) +contextual only[go_sem,↓reduceIte,r184_d,g0,g1,g2,g4,g13,d0,w1,hmem,r0,rx,c1,o1,b0,bx,Nat.zero_add,k229',hcal]
  refine fin _ _ N' q fl hI2 hq hl ?_ ?_ ?_ ?_ ?_ ?_ ?_ ?_
  all_goals simp +contextual only[go_sem,↓reduceIte,g0,g1,g2,g3,g4,g12]
theorem l184c {k n b:Nat}{cap:Option Nat}{P M S A N B:List Nat}(hk0:0<k)(hL:P.length+M.length+S.length=n)(hn:n≤2^20){s0:St}(hb:b<s0.next){Lp:RC}{x:Nat}(rcs:RecS k n b N.length cap)(IH:LoopS k n b N.length cap s0 P M S Lp)
  {e:Env}{s:St}{lim h:Int}{f1 f2:Bool}(hI:InvN k b s0 P M S A N B s)(hx:x<N.length)(g0:Env.get e 0=.sl b 0 n cap 2)(g1:Env.get e 1=.int .i64 (P.length+A.length:Nat))(g2:Env.get e 2=.int .i64 (P.length+A.length+N.length:Nat))(g3:Env.get e 3=.int .i64 lim)(g4:Env.get e 4=.fn (.func 142) [] [])(g10:Env.get e 10=.bool f1)(g11:Env.get e 11=.bool f2)(g12:Env.get e 12=.int .i64 (N.length:Nat))(g13:Env.get e 13=.int .i64 (P.length+A.length+x:Nat))(g14:Env.get e 14=.int .i64 h) :
  PPdq k b s0 P M S (go U (finB U []) [.bk 1,.lp Lp,.bk 0] r184_c e s):=by
 have hlPA:(P++A).length=P.length+A.length:=List.length_append
 have hlen:=hI.len
 obtain⟨hmem,hs,hnx,fr⟩:=id hI.mem
 have skip:∀E:Env,(∀t:Nat,t<15→Env.get E t=Env.get e t)→PPdq k b s0 P M S (go U (finB U []) [.bk 1,.lp Lp,.bk 0] r184_d E s):=fun E hE =>
  l184d hk0 hL hn hb rcs IH hI hx ((hE 0 (by omega)).trans g0) ((hE 1 (by omega)).trans g1) ((hE 2 (by omega)).trans g2) ((hE 3 (by omega)).trans g3) ((hE 4 (by omega)).trans g4) ((hE 12 (by omega)).trans g12) ((hE 13 (by omega)).trans g13)
 have hne:∀t:Nat,t<15→∀k:Nat,15≤k→(k=t)=False:=fun t h1 k hk=>by simp;omega
 cases f1 with
 |false =>
  simp (maxSteps:=2000000) +contextual only[go_sem,↓reduceIte,r184_c,g10,g11,g14]
  exact skip _ fun t ht=>by simp +contextual only[go_sem,↓reduceIte,hne t ht]
 |true =>
 cases f2 with
 |false =>
  simp (maxSteps:=2000000) +contextual only[go_sem,↓reduceIte,r184_c,g10,g11,g14]
  exact skip _ fun t ht=>by simp +contextual only[go_sem,↓reduceIte,hne t ht]
 |true =>
 cases hh:h==1 with
 |false =>
  simp (maxSteps:=2000000) +contextual only[go_sem,↓reduceIte,r184_c,g10,g11,g14,hh]
  exact skip _ fun t ht=>by simp +contextual only[go_sem,↓reduceIte,hne t ht]
 |true =>
  obtain⟨s2,N',fl,hcal,hR2,hp,hsrt⟩:=c227 (cap:=cap) (P:=P++A) (M:=N) (S:=B++S) (n:=n) hk0 (by rw[hlPA,List.length_append];omega) hn (by omega) hI.above hmem (by omega) fr
  rw[hlPA] at hcal
  cases fl with
  |true =>
   simp (maxSteps:=2000000) +contextual only[go_sem,↓reduceIte,r184_c,g0,g1,g2,g4,g10,g11,g14,hh,k227',hcal]
   exact hI.done hp (hsrt rfl) hR2 _
  |false =>
   simp (maxSteps:=2000000) +contextual only[go_sem,↓reduceIte,r184_c,g0,g1,g2,g4,g10,g11,g14,hh,k227',hcal]
   have hl:=hp.length_eq
   refine l184d hk0 hL hn hb (N:=N') (x:=x) (lim:=lim) (by rw[hl];exact rcs) (by rw[hl];exact IH) (hI.swap hp hR2) (by omega) ?_ ?_ ?_ ?_ ?_ ?_ ?_
   all_goals simp +contextual only[go_sem,↓reduceIte,g0,g1,g2,g3,g4,g12,g13,hl]
theorem l184b {k n b:Nat}{cap:Option Nat}{P M S A N B:List Nat}(hk0:0<k)(hL:P.length+M.length+S.length=n)(hn:n≤2^20){s0:St}(hb:b<s0.next){Lp:RC}(rcs:RecS k n b N.length cap)(IH:LoopS k n b N.length cap s0 P M S Lp)(h8:8≤N.length)
  {e:Env}{s:St}{lim:Int}{f1 f2:Bool}(hI:InvN k b s0 P M S A N B s)(g0:Env.get e 0=.sl b 0 n cap 2)(g1:Env.get e 1=.int .i64 (P.length+A.length:Nat))(g2:Env.get e 2=.int .i64 (P.length+A.length+N.length:Nat))(g3:Env.get e 3=.int .i64 lim)(g4:Env.get e 4=.fn (.func 142) [] [])(g10:Env.get e 10=.bool f1)(g11:Env.get e 11=.bool f2)(g12:Env.get e 12=.int .i64 (N.length:Nat)) :
  PPdq k b s0 P M S (go U (finB U []) [.bk 1,.lp Lp,.bk 0] r184_b e s):=by
 have hlPA:(P++A).length=P.length+A.length:=List.length_append
 have hlen:=hI.len
 obtain⟨hmem,hs,hnx,fr⟩:=id hI.mem
 obtain⟨x,h,s1,hcal,hx,hh,hR1⟩:=c225 (cap:=cap) (P:=P++A) (M:=N) (S:=B++S) (n:=n) hk0 (by rw[hlPA,List.length_append];omega) hn h8 hmem (by omega) fr
 rw[hlPA] at hcal
 have hI1:InvN k b s0 P M S A N B s1:=hI.swap (List.Perm.refl _) hR1
 cases h2:h==2 with
 |false =>
  simp (maxSteps:=2000000) +contextual only[go_sem,↓reduceIte,r184_b,g0,g1,g2,g4,k225',hcal,h2]
  refine l184c hk0 hL hn hb (x:=x) (lim:=lim) (h:=h) (f1:=f1) (f2:=f2) rcs IH hI1 hx ?_ ?_ ?_ ?_ ?_ ?_ ?_ ?_ ?_ ?_
  all_goals simp +contextual only[go_sem,↓reduceIte,g0,g1,g2,g3,g4,g10,g11,g12]
 |true =>
  obtain⟨v,s2,N',hcal2,hR2,hp⟩:=c226 (k:=k) (cap:=cap) (P:=P++A) (M:=N) (S:=B++S) (n:=n) (fn:=.fn (.func 142) [] []) (by rw[hlPA,List.length_append];omega) hn (by omega) hI1.mem.1 (by have:=hI1.mem.2.2.1;omega) hI1.mem.2.2.2
  rw[hlPA] at hcal2
  have hl:=hp.length_eq
  have w1:IntKind.i64.wrap (((P.length+A.length+N.length:Nat):Int)-1)=((P.length+A.length+(N.length-1):Nat):Int):=wrapN (by omega) (by omega)
  have w2:IntKind.i64.wrap (((P.length+A.length+x:Nat):Int)-((P.length+A.length:Nat):Int))=((x:Nat):Int):=wrapN (by omega) (by omega)
  have w3:IntKind.i64.wrap (((P.length+A.length+(N.length-1):Nat):Int)-((x:Nat):Int))=((P.length+A.length+(N.length-1-x):Nat):Int):=wrapN (by omega) (by omega)
  simp (maxSteps:=2000000) +contextual only[go_sem,↓reduceIte,r184_b,g0,g1,g2,g4,k225',k226',hcal,hcal2,h2,w1,w2,w3]
  refine l184c hk0 hL hn hb (N:=N') (x:=N.length-1-x) (lim:=lim) (h:=1) (f1:=f1) (f2:=f2) (by rw[hl];exact rcs) (by rw[hl];exact IH) (hI1.swap hp hR2) (by omega) ?_ ?_ ?_ ?_ ?_ ?_ ?_ ?_ ?_ ?_
  all_goals simp +contextual only[go_sem,↓reduceIte,g0,g1,g2,g3,g4,g10,g11,g12,hl]
theorem c184 {k n b:Nat}{cap:Option Nat}(hk0:0<k)(hn:n≤2^20):∀m,m≤65→RecS k n b m cap:=by
 intro m
 induction m with
 |zero=>intro _ P N S lim s h;omega
 |succ m ih =>
  intro hm P M S lim s hlt hnd hab hL gb hb fr
  by_cases hlt':M.length<m
  ·exact ih (by omega) P M S lim s hlt' hnd hab hL gb hb fr
  have hMm:M.length=m:=by omega
  have rec0:=ih (by omega)
  suffices hgo:PPdq k b s P M S (go U (finB U []) [] r184 (bindArgs 0 [.sl b 0 n cap 2,.int .i64 (P.length:Nat),.int .i64 (P.length+M.length:Nat),.int .i64 lim,.fn (.func 142) [] []] .nil) s) by
   obtain⟨x,M',h1,h2,h3,h4⟩:=hgo
   exact⟨x.1,x.2,M',kept_go k184 (by kernel_rfl) h1,h2,h3,h4⟩
  simp (maxSteps:=2000000) +contextual only[go_sem,↓reduceIte,r184]
  refine loop_ex (Post:=PPdq k b s P M S) (σ:=Nat) (fun l=>l) (fun l e' s'=>∃A N B lim f1 f2,N.length=l∧InvN k b s P M S A N B s'∧Env.get e' 0=.sl b 0 n cap 2∧Env.get e' 1=.int .i64 (P.length+A.length:Nat)∧Env.get e' 2=.int .i64 (P.length+A.length+N.length:Nat)∧Env.get e' 3=.int .i64 lim∧Env.get e' 4=.fn (.func 142) [] []∧Env.get e' 10=.bool f1∧Env.get e' 11=.bool f2) M.length ?_
   ⟨[],M,[],lim,true,true,rfl,⟨by simp,hnd,by simp,by simp,by simp,by simp,hab,by simp only[List.append_nil,List.nil_append];exact⟨gb,fun _ _ _=>rfl,Nat.le_refl _,fr⟩⟩,?_,?_,?_,?_,?_,?_,?_⟩
  ·rintro Lp l e1 s1 ⟨A,N,B,lim,f1,f2,hNl,hI,q0,q1,q2,q3,q4,q10,q11⟩ IH0
   have hlen:=hI.len
   have hlPA:(P++A).length=P.length+A.length:=List.length_append
   obtain⟨hmem,hs,hnx,fr1⟩:=id hI.mem
   have rcs:RecS k n b N.length cap:=fun P' N' S' lim s h1=>rec0 P' N' S' lim s (by omega)
   have IH:LoopS k n b N.length cap s P M S Lp:=fun A' N' B' e s' lim f1 f2 h1 h2 p0 p1 p2 p3 p4 p10 p11=>IH0 N'.length _ _ (by omega) ⟨A',N',B',lim,f1,f2,rfl,h2,p0,p1,p2,p3,p4,p10,p11⟩
   have w1:IntKind.i64.wrap (((P.length+A.length+N.length:Nat):Int)-((P.length+A.length:Nat):Int))=((N.length:Nat):Int):=wrapN (by omega) (by omega)
   cases h12:decide (((N.length:Nat):Int)≤12) with
   |true =>
    obtain⟨v,s2,hcal,hR2⟩:=c222 (cap:=cap) (P:=P++A) (M:=N) (S:=B++S) (n:=n) hk0 (by rw[hlPA,List.length_append];omega) hn hmem (by omega) fr1
    rw[hlPA] at hcal
    simp (maxSteps:=2000000) +contextual only[go_sem,↓reduceIte,r184_l0,q0,q1,q2,q4,w1,h12,k222',hcal]
    exact hI.done (sortL_spec N).1 (sortL_spec N).2 hR2 _
   |false =>
    have h12':13≤N.length:=by have:=of_decide_eq_false h12;omega
    cases h0:lim==0 with
    |true =>
     obtain⟨v,s2,hcal,hR2⟩:=c223 (cap:=cap) (P:=P++A) (M:=N) (S:=B++S) (n:=n) hk0 (by rw[hlPA,List.length_append];omega) hn (by omega) hmem (by omega) fr1
     rw[hlPA] at hcal
     simp (maxSteps:=2000000) +contextual only[go_sem,↓reduceIte,r184_l0,q0,q1,q2,q3,q4,w1,h12,h0,k223',hcal]
     exact hI.done (hsort_spec N).1 (hsort_spec N).2 hR2 _
    |false =>
     cases f1 with
     |true =>
      simp (maxSteps:=2000000) +contextual only[go_sem,↓reduceIte,r184_l0,q0,q1,q2,q3,q4,q10,w1,h12,h0]
      refine l184b hk0 hL hn hb (lim:=lim) (f1:=true) (f2:=f2) rcs IH (by omega) hI ?_ ?_ ?_ ?_ ?_ ?_ ?_ ?_
      all_goals simp +contextual only[go_sem,↓reduceIte,q0,q1,q2,q3,q4,q10,q11]
     |false =>
      obtain⟨v,s2,N',hcal,hR2,hp⟩:=c224 (k:=k) (cap:=cap) (P:=P++A) (M:=N) (S:=B++S) (n:=n) (fn:=.fn (.func 142) [] []) (by rw[hlPA,List.length_append];omega) hn (by omega) (by omega) hmem (by omega) fr1
      rw[hlPA] at hcal
      have hl:=hp.length_eq
      simp (maxSteps:=2000000) +contextual only[go_sem,↓reduceIte,r184_l0,q0,q1,q2,q3,q4,q10,w1,h12,h0,k224',hcal]
      refine l184b hk0 hL hn hb (N:=N') (lim:=IntKind.i64.wrap (lim-1)) (f1:=false) (f2:=f2) (by rw[hl];exact rcs) (by rw[hl];exact IH) (by omega) (hI.swap hp hR2) ?_ ?_ ?_ ?_ ?_ ?_ ?_ ?_
      all_goals simp +contextual only[go_sem,↓reduceIte,q0,q1,q2,q3,q4,q10,q11,hl]
  all_goals simp +contextual only[go_sem,↓reduceIte,List.length_nil,Nat.add_zero]
theorem k184z (args:List AV)(s:St):callK U (calV U 184 args) 184 args s=cal U 184 args s:=(callK_eq ..).symm
theorem c141 {k n b:Nat}{cap:Option Nat}{L:List Nat}(hk0:0<k)(hL:L.length=n)(hn:n≤64)(hnd:L.Nodup){s:St}(gb:s.get b=some (.cells (pcs k L) 116 false 0 0))(hb:b<s.next)(fr:Fr s) :
  ∃v s' L',cal U 141 [.sl b 0 n cap 2,.fn (.func 142) [] []] s=some (v,s')∧SrtR k b s L' s'∧L'.Perm L∧L'.Pairwise (·≤·):=by
 suffices hgo:∃x L',go U (finB U []) [] r141 (bindArgs 0 [.sl b 0 n cap 2,.fn (.func 142) [] []] .nil) s=some x∧SrtR k b s L' x.2∧L'.Perm L∧L'.Pairwise (·≤·) by
  obtain⟨x,L',h1,h2⟩:=hgo
  exact⟨x.1,x.2,L',kept_go k141 (by kernel_rfl) h1,h2⟩
 have wu:IntKind.u64.wrap ((n:Nat):Int)=((n:Nat):Int):=wrapU rfl (by omega)
 obtain⟨lim,hlim⟩:=c185 (n:=n) hn
 obtain⟨v,s',L',hcal,hR,hp,hs⟩:=c184 (k:=k) (n:=n) (b:=b) (cap:=cap) hk0 (by omega) 65 (Nat.le_refl _) [] L [] lim s (by omega) hnd (.inl rfl) (by simp;exact hL) (by simpa using gb) hb fr
 rw[List.length_nil,Nat.zero_add,hL] at hcal
 have hcal:cal U 184 [.sl b 0 n cap 2,.int .i64 0,.int .i64 (n:Nat),.int .i64 lim,.fn (.func 142) [] []] s=some (v,s'):=hcal
 rw[List.nil_append,List.append_nil] at hR
 simp (maxSteps:=2000000) +contextual only[go_sem,↓reduceIte,r141,wu,hlim,k184z,hcal]
 exact⟨_,L',rfl,hR,hp,hs⟩
theorem c140 (x y:Int):calV U 140 [.agg [.int .i64 x,.int .i64 y]]=some (.agg [.int .i64 x,.int .i64 y]):=by
 refine pure_go k140 (by kernel_rfl) rfl ?_
 simp (maxSteps:=2000000) +contextual only[go_sem,↓reduceIte,r140]
theorem pcs_take_succ (k:Nat){L:List Nat}{i:Nat}(h:i<L.length):pcs k (L.take (i+1))=pcs k (L.take i)++[.int .i64 ((L[i] / k:Nat):Int),.int .i64 ((L[i]%k:Nat):Int)]:=by
 rw[List.take_succ_eq_append_getElem h,pcs_app]
theorem c139 {k N:Nat}{L:List Nat}{pv:AV}(hn:L.length≤2^20)(h0:L≠[]){s:St}(hp:PrI s N 186 L.length (pcs k L) pv)(fr:Fr s) :
  ∃s' b,cal U 139 [pv,.fn (.func 140) [] []] s=some (.sl b 0 L.length none 2,s')∧s'.get b=some (.cells (pcs k L) 116 false 0 0)∧s.next≤b∧b<s'.next∧(∀j,j<s.next→s'.get j=s.get j)∧s.next≤s'.next∧Fr s':=by
 suffices hgo:∃x b,go U (finB U [.tmp 4]) [] r139 (bindArgs 0 [pv,.fn (.func 140) [] []] .nil) s=some x∧x.1=.sl b 0 L.length none 2∧x.2.get b=some (.cells (pcs k L) 116 false 0 0)∧s.next≤b∧b<x.2.next∧(∀j,j<s.next→x.2.get j=s.get j)∧s.next≤x.2.next∧Fr x.2 by
  obtain⟨⟨v,s'⟩,b,h1,h2,h3⟩:=hgo
  simp only at h2
  subst h2
  exact⟨s',b,kept_go k139 (by kernel_rfl) h1,h3⟩
 obtain⟨bp,cap,rfl,h2,h3,h4,h5,h6⟩:=hp
 simp (maxSteps:=2000000) +contextual only[go_sem,↓reduceIte,r139]
 refine loop_ex (Post:=fun (o:Option (AV×St))=>∃x b,o=some x∧x.1=.sl b 0 L.length none 2∧x.2.get b=some (.cells (pcs k L) 116 false 0 0)∧s.next≤b∧b<x.2.next∧(∀j,j<s.next→x.2.get j=s.get j)∧s.next≤x.2.next∧Fr x.2) (σ:=Nat) (fun i=>L.length-i) (fun i e' s'=>i≤L.length∧Env.get e' 1=.fn (.func 140) [] []∧Env.get e' 8=.sl bp 0 L.length cap 2∧Env.get e' 9=.int .i64 (L.length:Nat)∧Env.get e' 10=.int .i64 (i:Nat)∧(∀j,j<s.next→s'.get j=s.get j)∧s.next≤s'.next∧Fr s' ∧
   ∃v,Env.get e' 5=v∧RowI s' s.next 116 2 i (pcs k (L.take i)) v) 0 ?_
  ⟨Nat.zero_le _,?_,?_,?_,?_,fun _ _=>rfl,Nat.le_refl _,fr,.nils,?_,RowI.nil _ _ _ _⟩
 ·rintro Lp i e1 s1 ⟨hi,q1,q8,q9,q10,hs,hnx,fr1,v,q5,hv⟩ IH
  have ub:=(hs bp h6).trans h3
  by_cases hd:i<L.length
  ·have hw:=wrap_succ hd (by omega)
   have gr:=pcs_grab k L i hd
   unfold pcell at gr
   have c:=c140 ((L[i] / k:Nat):Int) ((L[i]%k:Nat):Int)
   have hl:=hv.lenA
   have hb1:(i+1)*16≤1099511627776:=by omega
   have hb2:i+1≤1099511627776:=by omega
   simp (maxSteps:=2000000) +contextual only[go_sem,↓reduceIte,r139_l0,q1,q5,q8,q9,q10,nat_lt_dec,hd,ub,gr,c,hl,Nat.mul_one,Nat.one_mul,appK_some,Nat.reducePow,hb1,hb2,Nat.zero_add]
   obtain⟨S2,hS2⟩:∃S2,S2=((s1.new (.cells [.int .i64 0,.int .i64 0] 186 false 0 0)).put s1.next (.cells [.int .i64 ((L[i] / k:Nat):Int),.int .i64 ((L[i]%k:Nat):Int)] 186 false 0 0)).new (.cells [.int .i64 ((L[i] / k:Nat):Int),.int .i64 ((L[i]%k:Nat):Int)] 116 false 0 0):=⟨_,rfl⟩
   rw[←hS2]
   have hSn:S2.next=s1.next+2:=by rw[hS2,next_new,next_put,next_new]
   have kS:∀j,j<s1.next→S2.get j=s1.get j:=fun j h=>by rw[hS2,get_new,next_put,next_new,if_neg (by omega),get_put,if_neg (by omega),get_new,if_neg (by omega)]
   have frS:Fr S2:=by rw[hS2];exact ((fr1.new _).put (by rw[next_new];omega) _).new _
   have hv2:RowI S2 s.next 116 2 i (pcs k (L.take i)) v:=by
    rcases hv with h|⟨a0,a1,c,a2,a3,a4,a5⟩
    ·exact .inl h
    ·exact .inr ⟨a0,a1,c,a2,by omega,a4,by rw[kS c a3];exact a5⟩
   obtain⟨s4,d1,d2,d3,d4,d5⟩:=hv2.app2 (by omega) (m:=1) (new:=[.int .i64 ((L[i] / k:Nat):Int),.int .i64 ((L[i]%k:Nat):Int)]) (by omega) rfl rfl
   rw[d1]
   simp (maxSteps:=2000000) +contextual only[go_sem,↓reduceIte,q10,hw]
   refine IH (i+1) _ _ (by omega) ⟨by omega,?_,?_,?_,?_,fun j h=>?_,by omega,d5 frS,.sl S2.next 0 (i+1) none 2,?_,by rw[pcs_take_succ k hd];exact d3⟩
   case refine_5=>rw[d4 j (by omega) (hv2.far (.inr h)),kS j (by omega)];exact hs j h
   all_goals simp +contextual only[go_sem,↓reduceIte,q1,q8,q9]
  ·have hie:i=L.length:=by omega
   subst hie
   simp (maxSteps:=2000000) +contextual only[go_sem,↓reduceIte,r139_l0,q9,q10,nat_lt_dec,Nat.lt_irrefl,q5]
   rcases hv with⟨h,_⟩|⟨_,_,b,a1,a2,a3,a4⟩
   ·exact absurd (List.length_eq_zero_iff.1 h) h0
   ·rw[List.take_length] at a4
    exact⟨_,b,rfl,a3,a4,a1,a2,hs,hnx,fr1⟩
 all_goals simp +contextual only[go_sem,↓reduceIte]
 all_goals rfl
theorem scs_get:∀(l:List (Int×Int)) (i:Nat) (h:i<l.length),(scs l)[i*2]? = some (.int .i64 l[i].1)∧(scs l)[i*2+1]? = some (.int .i64 l[i].2)
 |p::l,0,_=>⟨rfl,rfl⟩
 |p::l,i+1,h=>by
  have:=scs_get l i (by rw[List.length_cons] at h;omega)
  rw[show (i+1)*2=i*2+2 by omega]
  exact this
theorem stp_get {T:List Trip}{k:Nat}{t:Trip}(h:T[k+1]? = some t):∃h':k+1<(stp T).length,(stp T)[k+1]=((t.2.1:Int),(t.2.2:Int)):=by
 cases T with
 |nil=>simp at h
 |cons a l =>
  rw[List.getElem?_cons_succ] at h
  obtain⟨h1,h2⟩:=List.getElem?_eq_some_iff.1 h
  exact⟨by simp[stp,h1],by simp[stp,h2]⟩
theorem l114c {β:Type}{fin:Fl→β}{ks:List K}{Post:β→Prop}{A:Fa}{T:List Trip}(hT:VisI A T)(hTl:T.length≤262144){N k w:Nat}{cap:Option Nat}{sv:AV}{L:List Nat}(hk:k<T.length)(hcap:cap=none∨cap=some L.length)(hL:k+L.length≤2^20)
  {e:Env}{s:St}(g10:Env.get e 10=sv)(g11:Env.get e 11=.int .i64 (k:Nat))(g12:Env.get e 12=.sl w 0 L.length cap 1)(hs:PrI s N 262 T.length (scs (stp T)) sv)(gw:s.get w=some (.cells (nats L) 3 false 0 0))(nw:w<s.next)(fr:Fr s)
  (hk:∀e' s' w' cap',Env.get e' 9=Env.get e 9→Env.get e' 12=.sl w' 0 (L++(sigT T k k).reverse).length cap' 1→s'.get w'=some (.cells (nats (L++(sigT T k k).reverse)) 3 false 0 0)→(w'=w∨s.next≤w')→w'<s'.next→(∀j,j<s.next→j≠w→s'.get j=s.get j)→s.next≤s'.next→Fr s'→Post (goN U fin ks e' s')) :
  Post (goL U fin (.bk 4::ks) r114_l2 e s):=by
 have hk0:=hk
 generalize hR:L++(sigT T k k).reverse=R at *
 refine loop_ex (σ:=Nat) (fun k=>k) (fun k' e' s'=>k'<T.length∧Env.get e' 9=Env.get e 9∧Env.get e' 10=sv∧Env.get e' 11=.int .i64 (k':Nat)∧PrI s' N 262 T.length (scs (stp T)) sv∧(∀j,j<s.next→j≠w→s'.get j=s.get j)∧s.next≤s'.next∧Fr s' ∧
   ∃L' w' cap',Env.get e' 12=.sl w' 0 L'.length cap' 1∧(cap'=none∨cap'=some L'.length)∧L'++(sigT T k' k').reverse=R∧k'+L'.length≤2^20∧s'.get w'=some (.cells (nats L') 3 false 0 0)∧(w'=w∨s.next≤w')∧w'<s'.next) k ?_
  ⟨by omega,rfl,g10,g11,hs,fun _ _ _=>rfl,Nat.le_refl _,fr,L,w,cap,g12,hcap,hR,hL,gw,.inl rfl,nw⟩
 rintro Lp k' e' s' ⟨hk',q9,q10,q11,hs',hsf,hnx,fr',L',w',cap',q12,hcap',hR',hL',gw',hw',nw'⟩ IH
 cases k' with
 |zero =>
  have hR':L'=R:=by rw[←hR'];simp[sigT]
  subst hR'
  have hd:decide (((0:Nat):Int)>0)=false:=rfl
  simp (maxSteps:=2000000) +contextual only[go_sem,↓reduceIte,r114_l2,q11,hd]
  refine hk0 _ _ w' cap' ?_ ?_ gw' hw' nw' hsf hnx fr'
  ·simp +contextual only[go_sem,↓reduceIte,q9]
  ·simp +contextual only[go_sem,↓reduceIte,q12]
 |succ k' =>
  have ht:T[k'+1]? = some T[k'+1]:=List.getElem?_eq_getElem hk'
  obtain⟨f1,f2⟩:=hT.fr k' _ ht
  obtain⟨hst,hst2⟩:=stp_get ht
  obtain⟨c1,c2⟩:=scs_get (stp T) (k'+1) hst
  rw[hst2] at c1 c2
  simp only at c1 c2
  have hsg:sigT T (k'+1) (k'+1)=sigT T T[k'+1].2.1 T[k'+1].2.1++[T[k'+1].2.2]:=by
   rw[sigT,ht]
   simp only
   rw[sigT_fuel hT k' _ f1 (by omega)]
  rw[hsg,List.reverse_append,List.reverse_singleton,←List.append_assoc] at hR'
  generalize T[k'+1].2.1=fm at *
  generalize T[k'+1].2.2=x at *
  have hd:decide (((k'+1:Nat):Int)>0)=true:=by simp
  obtain⟨bs,caps,rfl,hp2,hp3,hp4,hp5,hp6⟩:=hs'
  have hws:w'≠bs:=blk_ne gw' hp3 (by decide)
  have hkT:k'+1<T.length:=hk'
  have hb3:(L'.length+1)*8≤1099511627776:=by omega
  have hb4:L'.length+1≤1099511627776:=by omega
  simp (maxSteps:=2000000) +contextual only[go_sem,↓reduceIte,r114_l2,q10,q11,q12,hd,hkT,hp3,c1,c2,Nat.zero_add,Nat.mul_one,Nat.one_mul,appK_some,Nat.reducePow,hb3,hb4]
  obtain⟨s4,d1,d2,d3,d4,d5⟩:=appC (b:=w') (L:=L') (s:=s'.new (.cells [.int .i64 (x:Int)] 3 false 0 0)) hcap' rfl (by rw[get_new,if_neg (by omega)];exact gw') (by rw[next_new];omega) x
  simp only[next_new] at d1 d2 d3 d4
  rw[d1]
  have k4:∀j,j<s'.next→j≠w'→s4.get j=s'.get j:=fun j h1 h2=>by rw[d4 j (by omega) h2,get_new,if_neg (by omega)]
  have u3:=(k4 bs hp6 hws.symm).trans hp3
  simp (maxSteps:=2000000) +contextual only[go_sem,↓reduceIte,q10,q11,hkT,u3,c1,Nat.zero_add,Nat.mul_one]
  refine IH fm _ _ (by omega) ⟨by omega,?_,?_,?_,⟨bs,caps,rfl,hp2,u3,hp4,hp5,by omega⟩,fun j h1 h2=>by rw[k4 j (by omega) (by omega),hsf j h1 h2],by omega,d5 (fr'.new _),L'++[x],s'.next+1,none,?_,.inl rfl,hR',by rw[List.length_append,List.length_singleton];omega,d3,.inr (by omega),by omega⟩
  ·simp +contextual only[go_sem,↓reduceIte,q9]
  ·simp +contextual only[go_sem,↓reduceIte,q10]
  ·simp +contextual only[go_sem,↓reduceIte]
  ·simp +contextual only[go_sem,↓reduceIte,List.length_append,List.length_singleton]
theorem c178 {s:St}{w:Nat}{L:List Nat}{cap:Option Nat}(hL:L≠[])(hlen:L.length≤2^30)(hg:s.get w=some (.cells (nats L) 3 false 0 0))(hw:w<s.next)(fr:Fr s) :
  ∃v s',cal U 178 [.sl w 0 L.length cap 1] s=some (v,s')∧s'.get w=some (.cells (nats L.reverse) 3 false 0 0)∧(∀j,j<s.next→j≠w→s'.get j=s.get j)∧s.next≤s'.next∧Fr s':=by
 suffices hgo:∃x,go U (finB U []) [] r178 (bindArgs 0 [.sl w 0 L.length cap 1] .nil) s=some x∧x.2.get w=some (.cells (nats L.reverse) 3 false 0 0)∧(∀j,j<s.next→j≠w→x.2.get j=s.get j)∧s.next≤x.2.next∧Fr x.2 by
  obtain⟨x,h1,h2⟩:=hgo
  exact⟨x.1,x.2,kept_go k178 (by kernel_rfl) h1,h2⟩
 obtain⟨m,hm⟩:∃m,L.length=m+1:=⟨L.length-1,by have:=List.length_pos_iff.2 hL;omega⟩
 have hwr:IntKind.i64.wrap ((L.length:Int)-1)=(m:Int):=by rw[wrap_i64] <;> omega
 simp (maxSteps:=2000000) +contextual only[go_sem,↓reduceIte,r178,hwr]
 refine loop_ex (Post:=fun (o:Option (AV×St))=>∃x,o=some x∧x.2.get w=some (.cells (nats L.reverse) 3 false 0 0)∧(∀j,j<s.next→j≠w→x.2.get j=s.get j)∧s.next≤x.2.next∧Fr x.2) (σ:=Nat×Nat) (fun p=>p.2) (fun p e' s'=>p.1+p.2+1=L.length∧Env.get e' 0=.sl w 0 L.length cap 1∧Env.get e' 2=.int .i64 (p.1:Nat)∧Env.get e' 3=.int .i64 (p.2:Nat)∧(∀j,j<s.next→j≠w→s'.get j=s.get j)∧s.next≤s'.next∧Fr s' ∧
   ∃M:List Nat,M.length=L.length∧s'.get w=some (.cells (nats M) 3 false 0 0)∧∀x,x<L.length→M[x]? = if x<p.1∨L.length≤x+p.1 then L[L.length-1-x]? else L[x]?) (0,m) ?_
  ⟨by simp only;omega,?_,?_,?_,fun _ _ _=>rfl,Nat.le_refl _,fr,L,rfl,hg,fun x hx=>by simp only;rw[if_neg (by omega)]⟩
 ·rintro Lp ⟨i,j⟩ e' s' ⟨hij,q0,q2,q3,hsf,hnx,fr',M,hM,gM,hMx⟩ IH
  simp only at hij q2 q3 hMx
  by_cases hd:i<j
  ·have hw1:=wrap_succ hd (by omega)
   have hw2:IntKind.i64.wrap ((j:Int)-1)=((j-1:Nat):Int):=by rw[wrap_i64] <;> omega
   have hi:i<L.length:=by omega
   have hj:j<L.length:=by omega
   have o1:=nats_get (l:=M) (i:=i) (by omega)
   have o2:=nats_get (l:=M) (i:=j) (by omega)
   have y1:=nats_lay (l:=M) (i:=i) (gt M j) (by omega)
   have y2:=nats_lay (l:=M.set i (gt M j)) (i:=j) (gt M i) (by rw[List.length_set];omega)
   have hws:w<s'.next:=by omega
   have f1:∀q,(s'.next+q=w)=False:=fun q=>by simp;omega
   have f2:∀q,(w=s'.next+q)=False:=fun q=>by simp;omega
   simp (maxSteps:=2000000) +contextual only[go_sem,↓reduceIte,r178_l0,q0,q2,q3,nat_lt_dec,hd,hi,hj,gM,o1,o2,y1,y2,Nat.zero_add,Nat.mul_one,hw1,hw2,f1,f2]
   have gj:M[j]? = some (gt M j):=by rw[gt_get (by omega)];exact List.getElem?_eq_getElem _
   have gi:M[i]? = some (gt M i):=by rw[gt_get (by omega)];exact List.getElem?_eq_getElem _
   have mj:=hMx j hj
   have mi:=hMx i hi
   rw[if_neg (by omega)] at mj mi
   refine IH (i+1,j-1) _ _ (by simp only;omega) ⟨by simp only;omega,?_,?_,?_,fun k h1 h2=>?_,?_,?_,(M.set i (gt M j)).set j (gt M i),by simp[hM],?_,fun x hx=>?_⟩
   ·simp +contextual only[go_sem,↓reduceIte,q0]
   ·simp +contextual only[go_sem,↓reduceIte]
   ·simp +contextual only[go_sem,↓reduceIte]
   ·rw[get_put,if_neg h2.symm,get_put,if_neg h2.symm,upto_get];exact hsf k h1 h2
   ·simp only[next_put,upto_next];omega
   ·repeat first|exact fr'|apply Fr.new|apply Fr.put|apply Fr.upto
    all_goals try simp only[next_put,next_new,upto_next]
    all_goals omega
   ·rw[get_put,if_pos rfl]
   ·simp only
    rw[List.getElem?_set,List.getElem?_set]
    by_cases e1:j=x
    ·subst e1
     rw[if_pos rfl,if_pos (by rw[List.length_set];omega),if_pos (by omega),show L.length-1-j=i by omega,←mi,gi]
    ·rw[if_neg e1]
     by_cases e2:i=x
     ·subst e2
      rw[if_pos rfl,if_pos (by omega),if_pos (by omega),show L.length-1-i=j by omega,←mj,gj]
     ·rw[if_neg e2,hMx x hx]
      by_cases e3:x<i∨L.length≤x+i
      ·rw[if_pos e3,if_pos (by omega)]
      ·rw[if_neg e3,if_neg (by omega)]
  ·simp (maxSteps:=2000000) +contextual only[go_sem,↓reduceIte,r178_l0,q2,q3,nat_lt_dec,hd]
   have hMe:M=L.reverse:=by
    refine List.ext_getElem? fun x=>?_
    by_cases hx:x<L.length
    ·rw[List.getElem?_reverse hx,hMx x hx]
     by_cases e3:x<i∨L.length≤x+i
     ·rw[if_pos e3]
     ·rw[if_neg e3,show L.length-1-x=x by omega]
    ·rw[List.getElem?_eq_none (by omega),List.getElem?_eq_none (by rw[List.length_reverse];omega)]
   rw[←hMe]
   exact⟨_,rfl,gM,hsf,hnx,fr'⟩
 all_goals simp +contextual only[go_sem,↓reduceIte]
 all_goals rfl
theorem k178' (args:List AV)(s:St):callK U (calV U 178 args) 178 args s=cal U 178 args s:=(callK_eq U 178 args s).symm
theorem k114' (args:List AV)(s:St):callK U (calV U 114 args) 114 args s=cal U 114 args s:=(callK_eq U 114 args s).symm
theorem c178n (s:St):∃v,cal U 178 [.nils] s=some (v,s):=by
 suffices hgo:∃v,go U (finB U []) [] r178 (bindArgs 0 [.nils] .nil) s=some (v,s) by
  obtain⟨v,h1⟩:=hgo
  exact⟨v,kept_go k178 (by kernel_rfl) h1⟩
 have hwr:IntKind.i64.wrap ((0:Int)-1) = -1:=rfl
 have hd:decide ((0:Int) < -1)=false:=rfl
 simp (maxSteps:=2000000) +contextual only[go_sem,↓reduceIte,r178,hwr]
 rw[goL_eq]
 simp (maxSteps:=2000000) +contextual only[go_sem,↓reduceIte,r178_l0,hwr,hd]
 exact⟨_,rfl⟩
theorem sigT_len (T:List Trip):∀(f k:Nat),(sigT T f k).length≤f
 |0,k=>by simp[sigT]
 |f+1,0=>by simp[sigT]
 |f+1,k+1=>by
  rw[sigT]
  cases T[k+1]? with
  |none=>simp
  |some t =>
   have:=sigT_len T f t.2.1
   simp only[List.length_append,List.length_singleton]
   omega
def EndI (s:St)(N:Nat)(L:List Nat)(v:AV):Prop:=(v=.nils∧L=[])∨∃w cap,v=.sl w 0 L.length cap 1∧s.get w=some (.cells (nats L) 3 false 0 0)∧N≤w∧w<s.next∧L≠[]
structure VisR {G:Type}(a b:Auto)(y:Nat→Nat→Bool)(CI:G→St→Prop)(fp:G→Nat→Prop)(nxt:G→Nat→Nat→G→Prop)(g:G)(s:St)(pv ev:AV)(s':St)(g':G):Prop where
 pairs:PrI s' s.next 186 (visAll (prodF a.fa b.fa) y).1.length (pcs b.fa.n (codes (visAll (prodF a.fa b.fa) y).1)) pv
 ends:EndI s' s.next (endS (visAll (prodF a.fa b.fa) y)) ev
 stps:(visAll (prodF a.fa b.fa) y).2=none→Stps nxt g ((codes (visAll (prodF a.fa b.fa) y).1).flatMap fun c=>rowC c (2^a.lines.toNat)) g'
 ci:CI g' s'
 same:∀j,j<s.next→¬fp g j→s'.get j=s.get j
 next:s.next≤s'.next
 foot:∀j,fp g' j→fp g j∨s.next≤j
 own:∀j,isB2 pv j→¬fp g' j
 fr:Fr s'
theorem c114 {a b:Auto}(ha:a.ok)(hb:b.ok)(hlb:a.lines=b.lines){fn:AV}{s:St}{G:Type}{CI:G→St→Prop}{fp:G→Nat→Prop}{dom:Nat→Nat→Prop}{y:Nat→Nat→Bool}{nxt:G→Nat→Nat→G→Prop}
  (Y:Yld fn b.fa.n s.next G CI fp dom y nxt)(hdom:∀c x,c<(prodF a.fa b.fa).n→x<2^a.lines.toNat→dom c x){g:G}(hci:CI g s)(fr:Fr s) :
  ∃pv ev s' g',cal U 114 [encA a,encA b,fn] s=some (.tup [pv,ev],s')∧VisR a b y CI fp nxt g s pv ev s' g':=by
 suffices hgo:∃x,go U (finB U [.tmp 6,.tmp 7]) [] r114 (bindArgs 0 [encA a,encA b,fn] .nil) s=some x∧∃pv ev g',x.1=.tup [pv,ev]∧VisR a b y CI fp nxt g s pv ev x.2 g' by
  obtain⟨x,h1,pv,ev,g',h2,h3⟩:=hgo
  exact⟨pv,ev,x.2,g',by rw[←h2];exact kept_go k114 (by kernel_rfl) h1,h3⟩
 have hP:=prodF_ok ha.faok hb.faok (by show 2^a.lines.toNat=2^b.lines.toNat;rw[hlb])
 have hnn:(prodF a.fa b.fa).n≤262144:=Nat.mul_le_mul ha.few hb.few
 have hV:=visAll_spec hP y
 have hVl:=hV.inv.len
 have hltg:=Y.lt g s hci
 have nn:=noAgg_encS a.nNl (a.next.map encRow)
 have nf:=noAgg_encS a.fNl (a.fires.map encFRow)
 have cn:=cells_encS a.nNl (a.next.map encRow)
 have cf:=cells_encS a.fNl (a.fires.map encFRow)
 have nn':=noAgg_encS b.nNl (b.next.map encRow)
 have nf':=noAgg_encS b.fNl (b.fires.map encFRow)
 have cn':=cells_encS b.nNl (b.next.map encRow)
 have cf':=cells_encS b.fNl (b.fires.map encFRow)
 have hz:pcell b.fa.n 0=[.int .i64 0,.int .i64 0]:=by simp[pcell]
 have up:=fun (S:St) (m:Nat) (h:S.get m=some (.map [] false))=>update260 (m:=m) (k:=b.fa.n) (ks:=[]) (c:=0) h (by simp)
 rw[hz] at up
 rw[encA_eq a,encA_eq b]
 unfold encN encFs
 simp (maxSteps:=2000000) +contextual only[go_sem,↓reduceIte,r114,nn,nf,cn,cf,nn',nf',cn',cf',up,Nat.add_assoc]
 obtain⟨S,hS⟩:∃S,S=((((((s.new (.cells [.int .i64 a.lines,encS a.nNl (a.next.map encRow),encS a.fNl (a.fires.map encFRow)] 69 false 0 0)).new (.cells [.int .i64 b.lines,encS b.nNl (b.next.map encRow),encS b.fNl (b.fires.map encFRow)] 69 false 0 0)).new (.map [] false)).put (s.next+2) (.map (entP b.fa.n (fun _=>.bool true) [0] 0) false)).new (.cells [.int .i64 0,.int .i64 0] 186 false 0 0)).new (.cells [.int .i64 (-1),.int .i64 0] 262 false 0 0)):=⟨_,rfl⟩
 rw[←hS]
 have hSn:S.next=s.next+5:=by rw[hS];simp only[next_new,next_put]
 have kS:∀j,j<s.next→S.get j=s.get j:=fun j h1=>by rw[hS];simp only[get_new,next_new,next_put,get_put];rw[if_neg (by omega),if_neg (by omega),if_neg (by omega),if_neg (by omega),if_neg (by omega),if_neg (by omega)]
 have u0:S.get s.next=some (.cells [.int .i64 a.lines,encS a.nNl (a.next.map encRow),encS a.fNl (a.fires.map encFRow)] 69 false 0 0):=by rw[hS];simp only[get_new,next_new,next_put,get_put];rw[if_neg (by omega),if_neg (by omega),if_neg (by omega),if_neg (by omega),if_neg (by omega)];exact if_pos trivial
 have u1:S.get (s.next+1)=some (.cells [.int .i64 b.lines,encS b.nNl (b.next.map encRow),encS b.fNl (b.fires.map encFRow)] 69 false 0 0):=by rw[hS];simp only[get_new,next_new,next_put,get_put];rw[if_neg (by omega),if_neg (by omega),if_neg (by omega),if_neg (by omega)];exact if_pos trivial
 have u2:S.get (s.next+2)=some (.map (entP b.fa.n (fun _=>.bool true) [0] 0) false):=by rw[hS];simp only[get_new,next_new,next_put,get_put];rw[if_neg (by omega),if_neg (by omega)];exact if_pos trivial
 have u3:S.get (s.next+3)=some (.cells [.int .i64 0,.int .i64 0] 186 false 0 0):=by rw[hS];simp only[get_new,next_new,next_put,get_put];rw[if_neg (by omega)];exact if_pos trivial
 have u4:S.get (s.next+4)=some (.cells [.int .i64 (-1),.int .i64 0] 262 false 0 0):=by rw[hS];simp only[get_new,next_new,next_put,get_put];exact if_pos trivial
 have frS:Fr S:=by
  rw[hS]
  repeat first|exact fr|apply Fr.new|apply Fr.put|apply Fr.upto
  all_goals try simp only[next_put,next_new,upto_next]
  all_goals omega
 have nfp:∀q,¬fp g (s.next+q):=fun q h=>by have:=hltg _ h;omega
 have V:Vis S s.next a b (fp g) s.next (s.next+1) (s.next+2) (s.next+4) [(0,0,0)] (.sl (s.next+3) 0 1 (some 1) 2) (.sl (s.next+4) 0 1 (some 1) 2):=by
  refine⟨u0,u1,u2,⟨s.next+3,some 1,rfl,.inr rfl,?_,rfl,by omega,by omega⟩,⟨s.next+4,some 1,rfl,.inr rfl,u4,rfl,by omega,by omega⟩,by omega,⟨nfp 0,nfp 1,nfp 2,nfp 4⟩,fun j hj=>?_,fun j hj=>?_,by omega⟩
  ·rw[u3]
   simp[pcs,codes,hz]
  ·rw[isB2_sl] at hj;subst hj;exact⟨nfp 3,by omega⟩
  ·rw[isB2_sl] at hj;subst hj;exact nfp 4
 have hciS:CI g S:=Y.keep g s S hci (by omega) fun j h1 _=>kS j h1
 refine l114b (Post:=fun (o:Option (AV×St))=>∃x,o=some x∧∃pv ev g',x.1=.tup [pv,ev]∧VisR a b y CI fp nxt g s pv ev x.2 g') ha hb hlb Y hdom ?_ ?_ ?_ ?_ ?_ ?_ ?_ V hciS frS (by omega) ?_ ?_
 case refine_8 =>
  intro hnone e2 s2 pv2 sv2 pt2 g2 p11 p12 p9 p10 V2 hst2 hci2 hs2 hn2 hfp2 fr2
  have p11:Env.get e2 11=.int .i64 (-1):=by rw[p11];simp +contextual only[go_sem,↓reduceIte]
  have p12:Env.get e2 12=.nils:=by rw[p12];simp +contextual only[go_sem,↓reduceIte]
  have hd:decide ((-1:Int)>0)=false:=rfl
  obtain⟨v,h178⟩:=c178n s2
  simp (maxSteps:=2000000) +contextual only[go_sem,↓reduceIte]
  rw[goL_eq]
  simp (maxSteps:=2000000) +contextual only[go_sem,↓reduceIte,r114_l2,p11,p12,p9,hd,k178',h178]
  refine⟨_,rfl,pv2,.nils,g2,rfl,⟨V2.hp,.inl ⟨rfl,by unfold endS;rw[hnone]⟩,fun _=>hst2,hci2,fun j h1 h2=>by rw[hs2 j h1 h2,kS j h1],Nat.le_trans (by omega:s.next≤S.next) hn2,hfp2,fun j hj=>(V2.fp j hj).1,fr2⟩⟩
 case refine_9 =>
  intro k z hkz e2 s2 pv2 sv2 pt2 w g2 p9 p10 p11 p12 hw hw1 hw2 hw3 V2 hci2 hs2 hn2 hfp2 fr2
  obtain⟨_,_,⟨t,ht,_⟩,_⟩:=hV.stop k z hkz
  have hkl:=(List.getElem?_eq_some_iff.1 ht).1
  simp (maxSteps:=2000000) +contextual only[go_sem,↓reduceIte]
  refine l114c (Post:=fun (o:Option (AV×St))=>∃x,o=some x∧∃pv ev g',x.1=.tup [pv,ev]∧VisR a b y CI fp nxt g s pv ev x.2 g') hV.inv (by omega) (L:=[z]) (cap:=some 1) hkl (.inr rfl) (by simp;omega) p10 p11 p12 V2.hs hw hw2 fr2 ?_
  intro e3 s3 w3 cap3 p39 p312 hw3' hw31 hw32 hs3 hn3 fr3
  generalize hL:[z]++(sigT (visAll (prodF a.fa b.fa) y).1 k k).reverse=L at *
  have hend:endS (visAll (prodF a.fa b.fa) y)=L.reverse:=by
   unfold endS
   rw[hkz,←hL]
   simp
  have hLn:L≠[]:=by rw[←hL];simp
  have hLl:L.length≤2^30:=by
   have h1:(sigT (visAll (prodF a.fa b.fa) y).1 k k).length≤k:=sigT_len _ k k
   rw[←hL]
   simp
   omega
  obtain⟨v,s5,h178,k51,k52,k53,k54⟩:=c178 (cap:=cap3) hLn hLl hw3' hw32 fr3
  have nf3:∀j,fp g2 j→j<s2.next∧j≠w:=fun j hj=>⟨Y.lt g2 s2 hci2 j hj,fun e=>hw3 (e ▸ hj)⟩
  have k5:∀j,j<s2.next→j≠w→s5.get j=s2.get j:=fun j h1 h2=>by rw[k52 j (by omega) (by omega),hs3 j h1 h2]
  have nB:∀j,isB2 pv2 j→j≠w:=fun j h1=>blk_ne (V2.hp.ltB h1).2.2 hw (by decide)
  have hP5:PrI s5 s.next 186 (visAll (prodF a.fa b.fa) y).1.length (pcs b.fa.n (codes (visAll (prodF a.fa b.fa) y).1)) pv2:=V2.hp.keepB (by omega) fun j h1 h2=>k5 j h1 (nB j h2)
  have hci5:CI g2 s5:=Y.keep g2 s2 s5 hci2 (by omega) fun j h1 h2=>k5 j h1 (by
   rcases h2 with h2|h2
   ·exact (nf3 j h2).2
   ·omega)
  simp (maxSteps:=2000000) +contextual only[go_sem,↓reduceIte,p312,p39,p9,k178',h178]
  refine⟨_,rfl,pv2,_,g2,rfl,⟨hP5,.inr ⟨w3,cap3,by rw[hend,List.length_reverse],by rw[hend];exact k51,by omega,Nat.lt_of_lt_of_le hw32 k53,by rw[hend];exact fun h=>hLn (List.reverse_eq_nil_iff.1 h)⟩,fun h=>(by rw[hkz] at h;cases h),hci5,fun j h1 h2=>?_,Nat.le_trans (Nat.le_trans (Nat.le_trans (by omega:s.next≤S.next) hn2) hn3) k53,hfp2,fun j hj=>(V2.fp j hj).1,k54⟩⟩
  exact (k5 j (by omega) (by omega)).trans (by rw[hs2 j h1 h2,kS j h1])
 all_goals simp +contextual only[go_sem,↓reduceIte]
 all_goals rfl
end Go.Am
namespace Go.Am
open Go
variable [MaxLen]
theorem visAll_true {A:Fa}(hA:A.ok):(visAll A fun _ _=>true).2=none:=by
 have h:=visAll_spec hA fun _ _=>true
 cases e:(visAll A fun _ _=>true).2 with
 |none=>rfl
 |some z =>
  obtain⟨k,x⟩:=z
  obtain⟨_,_,⟨t,_,h2⟩,_⟩:=h.stop k x e
  cases h2
def prodT (a b:Auto):List Nat:=codes (visAll (prodF a.fa b.fa) fun _ _=>true).1
structure ProdI (a b:Auto)(T:List Nat):Prop where
 pos:0<T.length
 nd:T.Nodup
 lt:∀c∈T,c<(prodF a.fa b.fa).n
 cl:∀c∈T,∀x,x<2^a.lines.toNat→(prodF a.fa b.fa).nx c x∈T
 hd:T[0]? = some 0
theorem prodF_okA {a b:Auto}(ha:a.ok)(hb:b.ok)(hlb:a.lines=b.lines):(prodF a.fa b.fa).ok:=prodF_ok ha.faok hb.faok (by show 2^a.lines.toNat=2^b.lines.toNat;rw[hlb])
theorem visI_prodI {a b:Auto}(ha:a.ok)(hb:b.ok)(hlb:a.lines=b.lines){y:Nat→Nat→Bool}(hn:(visAll (prodF a.fa b.fa) y).2=none):ProdI a b (codes (visAll (prodF a.fa b.fa) y).1):=by
 have h:=visAll_spec (prodF_okA ha hb hlb) y
 refine⟨by rw[codes_len];exact h.inv.pos,h.inv.nd,fun c hc=>?_,fun c hc x hx=>?_,?_⟩
 ·obtain⟨t,ht,rfl⟩:=List.mem_map.1 hc
  exact h.inv.lt t ht
 ·obtain⟨t,ht,rfl⟩:=List.mem_map.1 hc
  obtain⟨k,hk,e⟩:=List.mem_iff_getElem.1 ht
  exact (h.go hn k t (Nat.zero_le _) (by rw[List.getElem?_eq_getElem hk,e]) x hx).2
 ·obtain⟨R,hR⟩:=h.pre
  rw[hR];rfl
theorem prodI {a b:Auto}(ha:a.ok)(hb:b.ok)(hlb:a.lines=b.lines):ProdI a b (prodT a b):=visI_prodI ha hb hlb (visAll_true (prodF_okA ha hb hlb))
theorem ProdI.len {a b:Auto}{T:List Nat}(h:ProdI a b T):T.length≤a.fa.n*b.fa.n:=nodup_few (κ:=id) (by rw[List.map_id];exact h.nd) h.lt
end Go.Am
namespace Go.Am
open Go
variable [MaxLen]
set_option maxRecDepth 100000
set_option maxHeartbeats 8000000
theorem frzN_slR {s:St}{b d n:Nat}{cap:Option Nat}{t:TypeId}{l r:List AV}(hn:n=l.length)(hg:s.get b=some (.cells l t false 0 0))(hag:isAggT U t=some false)(hsz:size U t=some 1)(hna:l.all noAgg=true)(hf:mapO (frzN U s d) l=some r) :
  frzN U s (d+1) (.sl b 0 n cap 1)=some (.fz r):=by
 subst hn
 simp only[frzN,hg,Nat.mul_one,grab_all,hag,hsz]
 rw[if_pos ⟨trivial,by omega,fun _=>⟨trivial,hna⟩⟩,chunks_all,hf]
theorem frzN_intsV (s:St)(d:Nat)(l:List Int):mapO (frzN U s (d+1)) (ints l)=some (ints l):=mapO_self fun x hx=>by
 obtain⟨b,_,rfl⟩:=List.mem_map.1 hx;rfl
theorem frzN_boolsV (s:St)(d:Nat)(l:List Bool):mapO (frzN U s (d+1)) (bools l)=some (bools l):=mapO_self fun x hx=>by
 obtain⟨b,_,rfl⟩:=List.mem_map.1 hx;rfl
theorem BlkJ.frzN {s:St}{b d:Nat}{c:AV}{l:List AV}{t:TypeId}(h:BlkJ s b t c l)(hag:isAggT U t=some false)(hsz:size U t=some 1)(hna:l.all noAgg=true)(hf:mapO (Go.Am.frzN U s d) l=some l):Go.Am.frzN U s (d+1) c=some (.fz l):=by
 obtain⟨j,cap,rfl,_,_,_,h5⟩:=h
 exact frzN_slR rfl h5 hag hsz hna hf
theorem RowI.frzN_one {s:St}{B:Nat}{t:TypeId}{l:List AV}{v:AV}(h:RowI s B t 1 l.length l v)(hag:isAggT U t=some false)(hsz:size U t=some 1)(hna:l.all Go.Am.noAgg=true)
  {d:Nat}{r:List AV}(hf:mapO (Go.Am.frzN U s d) l=some r):Go.Am.frzN U s (d+1) v=some (encS true r):=by
 rcases h with⟨h0,rfl,_⟩|⟨h0,h1,b,_,_,rfl,hg⟩
 ·have:l=[]:=List.length_eq_zero_iff.1 h0
  subst this
  cases hf
  rfl
 ·rw[frzN_slR rfl hg hag hsz hna hf]
  cases r with
  |nil =>
   cases l with
   |nil=>simp at h0
   |cons x l =>
    rw[mapO] at hf
    cases h1:Go.Am.frzN U s d x with
    |none=>rw[h1] at hf;cases hf
    |some y =>
     rw[h1] at hf
     cases h2:mapO (Go.Am.frzN U s d) l with
     |none=>rw[h2] at hf;cases hf
     |some z=>rw[h2] at hf;cases hf
  |cons x r=>rfl
theorem chkTwo_256 {a b:Auto}(h:chkTwo a b=0):a.next.length≤256∧b.next.length≤256:=by
 unfold chkTwo at h
 rw[firstOf,firstOf] at h
 cases h1:ckA a != 0 with
 |true=>rw[h1,br_true] at h;rw[h] at h1;cases h1
 |false =>
  rw[h1,br_false] at h
  cases h2:ckA b != 0 with
  |true=>rw[h2,br_true] at h;rw[h] at h2;cases h2
  |false=>exact⟨ckA_256 (by simpa using h1),ckA_256 (by simpa using h2)⟩
theorem chkTwo_ok {a b:Auto}(h:chkTwo a b=0):a.ok∧b.ok∧a.lines=b.lines:=by
 have e:∀l:List Int,firstOf l=0→∀x∈l,x=0:=by
  intro l
  induction l with
  |nil=>intro _ x hx;cases hx
  |cons y l ih =>
   intro h x hx
   rw[firstOf] at h
   by_cases hy:y=0
   ·subst hy
    rcases List.mem_cons.1 hx with rfl|hx
    ·rfl
    ·exact ih (by simpa[br] using h) x hx
   ·have:(y != 0)=true:=by simpa using hy
    rw[this] at h
    simp[br] at h
    exact absurd h hy
 have h':=e _ h
 refine⟨Auto.ok_of (h' _ (by simp)),Auto.ok_of (h' _ (by simp)),?_⟩
 have:=h' (br (a.lines != b.lines) 2 0) (by simp)
 by_cases hl:a.lines=b.lines
 ·exact hl
 ·have hb:(a.lines != b.lines)=true:=by simpa using hl
  rw[hb] at this
  simp[br] at this
theorem EndI.frz {s:St}{N:Nat}{L:List Nat}{v:AV}(h:EndI s N L v)(d:Nat):Go.Am.frz U s (d+2) v=some (encS true (nats L)):=by
 rcases h with⟨rfl,rfl⟩|⟨w,cap,rfl,h2,h3,h4,h5⟩
 ·rfl
 ·rw[frz_sl,h2,frzS_cells,Nat.mul_one,←nats_len L,grab_all,ag_3,sz_3,frzT_one]
  unfold nats
  rw[if_pos (noAgg_ints _),chunks_all,frz_ints s d (nIs L),fzK_some]
  cases L with
  |nil=>exact absurd rfl h5
  |cons x l=>rfl
theorem EndI.len {s:St}{N:Nat}{L:List Nat}{v:AV}(h:EndI s N L v):lenRL v=some (.int .i64 (L.length:Nat)):=by
 rcases h with⟨rfl,rfl⟩|⟨w,cap,rfl,_⟩ <;> rfl
theorem EndI.na {s:St}{N:Nat}{L:List Nat}{v:AV}(h:EndI s N L v):noAgg v=true:=by
 rcases h with⟨rfl,rfl⟩|⟨w,cap,rfl,_⟩ <;> rfl
end Go.Am
namespace Go.Am
open Go
def sx (l:List Bool)(t:Nat):Prop:=l.getD t false=true
structure PutS (n:Nat)(z z':List Bool×List Nat)(P:Nat→Prop):Prop where
 len:z'.1.length=n
 seen:∀t,sx z'.1 t↔sx z.1 t∨P t
 lay:∀t,t∈z'.2↔t∈z.2∨(P t∧¬sx z.1 t)
theorem PutS.trans {n:Nat}{z z1 z2:List Bool×List Nat}{P Q:Nat→Prop}(h:PutS n z z1 P)(h':PutS n z1 z2 Q):PutS n z z2 fun t=>P t∨Q t:=by
 refine⟨h'.len,fun t=>?_,fun t=>?_⟩
 ·rw[h'.seen,h.seen,or_assoc]
 ·rw[h'.lay,h.lay,h.seen]
  by_cases h1:P t <;> by_cases h2:Q t <;> by_cases h3:sx z.1 t <;> simp[h1,h2,h3]
theorem PutS.congr {n:Nat}{z z':List Bool×List Nat}{P Q:Nat→Prop}(h:PutS n z z' P)(e:∀t,P t↔Q t):PutS n z z' Q:=by
 have:P=Q:=funext fun t=>propext (e t)
 rw[←this];exact h
end Go.Am
namespace Go.Am
open Go
variable [MaxLen]
end Go.Am
namespace Go.Am
open Go
variable [MaxLen]
set_option maxRecDepth 100000
set_option maxHeartbeats 8000000
structure SpI (s:St)(b5 b6 sb n:Nat)(z:List Bool×List Nat)(lv:AV):Prop where
 g5:s.get b5=some (.cells [.sl sb 0 n (some n) 1] 43 false 0 0)
 gs:s.get sb=some (.cells (bools z.1) 4 false 0 0)
 g6:s.get b6=some (.cells [lv] 40 false 0 0)
 gl:SlI s 0 z.2 lv
 lt:b5<s.next∧b6<s.next∧sb<s.next
 len:z.1.length=n
 cnt:z.2.length+z.1.count false≤n
theorem count_set {l:List Bool}{q:Nat}(hq:q<l.length)(h:l.getD q false=false):(l.set q true).count false+1=l.count false:=by
 rw[List.getD_eq_getElem?_getD,List.getElem?_eq_getElem hq] at h
 simp only[Option.getD_some] at h
 rw[List.count_set hq,h]
 have:0<l.count false:=List.count_pos_iff.2 (h ▸ List.getElem_mem hq)
 simp
 omega
theorem SpI.keep {s s':St}{b5 b6 sb n:Nat}{z:List Bool×List Nat}{lv:AV}(h:SpI s b5 b6 sb n z lv)(hn:s.next≤s'.next)(hg:∀j,j<s.next→j=b5∨j=b6∨j=sb∨isB lv j→s'.get j=s.get j):SpI s' b5 b6 sb n z lv:=by
 obtain⟨g5,gs,g6,gl,⟨l1,l2,l3⟩,len,cnt⟩:=h
 exact⟨(hg _ l1 (by simp)).trans g5,(hg _ l3 (by simp)).trans gs,(hg _ l2 (by simp)).trans g6,gl.keep hn fun j h1 _ h3=>hg j h1 (by simp[h3]),by omega,len,cnt⟩
theorem Stps.map {G H:Type}{nxt:G→Nat→Nat→G→Prop}{nxt':H→Nat→Nat→H→Prop}{φ:G→H}(h:∀g c x g',nxt g c x g'→nxt' (φ g) c x (φ g')){g g':G}{l:List (Nat×Nat)}(hs:Stps nxt g l g'):Stps nxt' (φ g) l (φ g'):=by
 induction hs with
 |nil=>exact .nil _
 |snoc h1 h2 ih=>exact .snoc ih (h _ _ _ _ h2)
theorem bin_neqP (a b c d:Int):binA U .neq 116 false (.agg [.int .i64 a,.int .i64 b]) (.agg [.int .i64 c,.int .i64 d])=some (.bool (!(a==c&&b==d))):=by
 have hk:U.eqOk 116=true:=by kernel_rfl
 have hu:U.und 116=some (.array 2 3):=by kernel_rfl
 have h3:U.und 3=some (.int .i64):=by kernel_rfl
 have hs:size U 3=some 1:=by kernel_rfl
 have ha:isAggT U 3=some false:=by kernel_rfl
 simp only[binA,eqTop,hk,if_true]
 rw[show (20:Nat)=18+1+1 from rfl]
 simp only[eqT,hu,hs]
 simp[eqElems,partA,ha,hs,eqT,h3,grab]
 cases a==c <;> cases b==d <;> rfl
theorem pair_beq (k x c:Nat):((((x / k:Nat):Int)==((c / k:Nat):Int))&&(((x%k:Nat):Int)==((c%k:Nat):Int)))=(x==c):=by
 rw[Bool.eq_iff_iff]
 simp only[Bool.and_eq_true,beq_iff_eq]
 constructor
 ·rintro⟨h1,h2⟩
  have:=Nat.div_add_mod x k
  have h3:=Nat.div_add_mod c k
  have h1:x / k=c / k:=by omega
  have h2:x%k=c%k:=by omega
  rw[h1,h2] at this
  omega
 ·rintro rfl;exact⟨rfl,rfl⟩
def ecs (k:Nat)(E:List (Nat×AV)):List AV:=E.flatMap fun p=>[.int .i64 ((p.1 / k:Nat):Int),.int .i64 ((p.1%k:Nat):Int),p.2]
theorem ecs_cons (k:Nat)(p:Nat×AV)(E:List (Nat×AV)):ecs k (p::E)=.int .i64 ((p.1 / k:Nat):Int)::.int .i64 ((p.1%k:Nat):Int)::p.2::ecs k E:=rfl
theorem ecs_app (k:Nat)(E:List (Nat×AV))(p:Nat×AV):ecs k (E++[p])=ecs k E++[.int .i64 ((p.1 / k:Nat):Int),.int .i64 ((p.1%k:Nat):Int),p.2]:=by simp[ecs]
theorem ecs_get (k:Nat):∀(E:List (Nat×AV)) (i:Nat) (h:i<E.length),(ecs k E)[i*3]? = some (.int .i64 ((E[i].1 / k:Nat):Int))∧(ecs k E)[i*3+1]? = some (.int .i64 ((E[i].1%k:Nat):Int))∧(ecs k E)[i*3+2]? = some E[i].2
 |p::E,0,_=>⟨rfl,rfl,rfl⟩
 |p::E,i+1,h=>by
  have:=ecs_get k E i (by rw[List.length_cons] at h;omega)
  rw[show (i+1)*3=i*3+3 by omega,ecs_cons]
  exact this
theorem ecs_grab (k:Nat):∀(E:List (Nat×AV)) (i:Nat) (h:i<E.length),grab 3 (i*3) (ecs k E)=some [.int .i64 ((E[i].1 / k:Nat):Int),.int .i64 ((E[i].1%k:Nat):Int),E[i].2]
 |p::E,0,_=>by
  rw[ecs_cons,Nat.zero_mul]
  simp[grab_head,grab_zero]
 |p::E,i+1,h=>by
  have:=ecs_grab k E i (by rw[List.length_cons] at h;omega)
  rw[show (i+1)*3=i*3+3 by omega,ecs_cons]
  exact this
def Pr3 (s:St)(N:Nat)(t:TypeId)(n:Nat)(cs:List AV)(v:AV):Prop:=∃b cap,v=.sl b 0 n cap 3∧(cap=none∨cap=some n)∧s.get b=some (.cells cs t false 0 0)∧cs.length=n*3∧N≤b∧b<s.next
def isB3 (v:AV)(j:Nat):Prop:=∃n cap,v=.sl j 0 n cap 3
theorem isB3_sl (b n j:Nat)(cap:Option Nat):isB3 (.sl b 0 n cap 3) j↔b=j:=by
 constructor
 ·rintro⟨m,c,h⟩;cases h;rfl
 ·rintro rfl;exact⟨n,cap,rfl⟩
theorem Pr3.appB {s:St}{N n:Nat}{t:TypeId}{cs:List AV}{v:AV}(h:Pr3 s N t n cs v)(hN:N≤s.next)(x y z:AV)(hx:noAgg x=true)(hy:noAgg y=true)(hz:noAgg z=true) :
  ∃s1,appD t 3 1 [x,y,z] v s=some (.sl s.next 0 (n+1) none 3,s1)∧s1.next=s.next+1∧Pr3 s1 N t (n+1) (cs++[x,y,z]) (.sl s.next 0 (n+1) none 3)∧(∀j,j<s.next→¬isB3 v j→s1.get j=s.get j)∧(Fr s→Fr s1):=by
 obtain⟨b,cap,rfl,h2,h3,h4,h5,h6⟩:=h
 rcases h2 with rfl|rfl
 ·refine⟨(s.put b .gone).new (.cells (cs++[x,y,z]) t false 0 0),by rw[appD_sl,h3,appS_cells h4 (by omega) (by simp[hx,hy,hz])],rfl,⟨s.next,none,rfl,.inl rfl,by rw[get_new,next_put,if_pos rfl],by simp[h4];omega,hN,by rw[next_new,next_put];omega⟩,fun j hj hne=>?_,fun hf=>(hf.put h6 _).new _⟩
  rw[isB3_sl] at hne
  rw[get_new,next_put,if_neg (by omega),get_put,if_neg hne]
 ·refine⟨s.new (.cells (cs++[x,y,z]) t false 0 0),by rw[appD_slk h3 h4 (by omega)],rfl,⟨s.next,none,rfl,.inl rfl,by rw[get_new,if_pos rfl],by simp[h4];omega,hN,by rw[next_new];omega⟩,fun j hj hne=>?_,fun hf=>hf.new _⟩
  rw[get_new,if_neg (by omega)]
theorem gBool_undef (b:Bool):gBool undef b=false:=by cases b <;> rfl
theorem l120a {β:Type}{fin:Fl→β}{ks:List K}{Post:β→Prop}{k N c p2:Nat}{E:List (Nat×AV)}{pv z:AV}(hLl:E.length≤2^20)
  {e:Env}{s:St}(g7:Env.get e 7=pv)(g12:Env.get e 12=.ptr p2 0)(g13:Env.get e 13=.bool false)(g14:Env.get e 14=.int .i64 (0:Nat))(hp:Pr3 s N 195 E.length (ecs k E) pv)(gp2:s.get p2=some (.cells [.int .i64 ((c / k:Nat):Int),.int .i64 ((c%k:Nat):Int),z] 195 false 0 0))(fr:Fr s)
  (hk:∀e' s',(∀t:Nat,t<82→t≠13→t≠14→Env.get e' t=Env.get e t)→Env.get e' 13=.bool (decide (c∈E.map (·.1)))→(∀j,s'.get j=s.get j)→s.next≤s'.next→Fr s'→Post (goN U fin ks e' s')) :
  Post (goL U fin (.bk 4::ks) r120_l0 e s):=by
 obtain⟨bp,cap,hpv,hp2,hp3,hp4,hp5,hp6⟩:=hp
 rw[hpv] at g7
 refine loop_ex (σ:=Nat) (fun i=>E.length-i) (fun i e' s'=>i≤E.length∧(∀t:Nat,t<82→t≠13→t≠14→Env.get e' t=Env.get e t)∧Env.get e' 14=.int .i64 (i:Nat)∧Env.get e' 13=.bool (decide (c∈(E.take i).map (·.1)))∧(∀j,s'.get j=s.get j)∧s.next≤s'.next∧Fr s') 0 ?_
  ⟨Nat.zero_le _,fun _ _ _ _=>rfl,g14,by rw[g13];simp,fun _=>rfl,Nat.le_refl _,fr⟩
 rintro Lp i e' s' ⟨hi,hold,q14,q13,hs,hnx,fr'⟩ IH
 have q7:=(hold 7 (by omega) (by omega) (by omega)).trans g7
 have q12:=(hold 12 (by omega) (by omega) (by omega)).trans g12
 have u3:=(hs bp).trans hp3
 have u2:=(hs p2).trans gp2
 by_cases hd:i<E.length
 ·have hwr:=wrap_succ hd (by omega)
  obtain⟨o1,o2,_⟩:=ecs_get k E i hd
  have hmem:decide (c∈(E.take (i+1)).map (·.1))=(decide (c∈(E.take i).map (·.1))||(E[i].1==c)):=by
   rw[List.take_succ_eq_append_getElem hd,List.map_append,Bool.eq_iff_iff]
   simp
   exact or_congr Iff.rfl ⟨fun h=>h.symm,fun h=>h.symm⟩
  have hpb:=pair_beq k E[i].1 c
  generalize E[i].1=x at *
  have key:∀(E':Env),(∀t:Nat,t<82→t≠13→t≠14→Env.get E' t=Env.get e' t)→Env.get E' 14=.int .i64 ((i+1:Nat):Int)→Env.get E' 13=.bool (decide (c∈(E.take (i+1)).map (·.1)))→Post (goL U fin (.bk 4::ks) Lp E' (s'.upto (s'.next+22))):=fun E' h1 h2 h3 =>
   IH (i+1) _ _ (by omega) ⟨by omega,fun t a b c=>(h1 t a b c).trans (hold t a b c),h2,h3,fun j=>by rw[upto_get];exact hs j,by rw[upto_next];omega,fr'.upto (by omega)⟩
  have hnt:∀t:Nat,t<82→t≠13→t≠14→(13=t)=False∧(14=t)=False∧∀k:Nat,82≤k→(k=t)=False:=fun t h1 h2 h3=>⟨by simp;omega,by simp;omega,fun k hk=>by simp;omega⟩
  cases hf:decide (c∈(E.take i).map (·.1)) with
  |true =>
   rw[hf] at q13
   rw[hf,Bool.true_or] at hmem
   simp (maxSteps:=2000000) +contextual only[go_sem,↓reduceIte,r120_l0,q7,q12,q13,q14,nat_lt_dec,hd,hwr,gBool_undef,cond_false]
   refine key _ (fun t h1 h2 h3=>?_) ?_ ?_
   ·obtain⟨n13,n14,hne⟩:=hnt t h1 h2 h3
    simp +contextual only[go_sem,↓reduceIte,n13,n14,hne]
   ·simp +contextual only[go_sem,↓reduceIte]
   ·simp +contextual only[go_sem,↓reduceIte,hmem]
  |false =>
   rw[hf] at q13
   rw[hf,Bool.false_or,←hpb] at hmem
   cases hA:(((x / k:Nat):Int)==((c / k:Nat):Int)) with
   |true =>
    rw[hA,Bool.true_and] at hmem
    simp (maxSteps:=2000000) +contextual only[go_sem,↓reduceIte,r120_l0,q7,q12,q13,q14,nat_lt_dec,hd,hwr,u2,u3,o1,o2,Nat.zero_add,hA]
    refine key _ (fun t h1 h2 h3=>?_) ?_ ?_
    ·obtain⟨n13,n14,hne⟩:=hnt t h1 h2 h3
     simp +contextual only[go_sem,↓reduceIte,n13,n14,hne]
    ·simp +contextual only[go_sem,↓reduceIte]
    ·simp +contextual only[go_sem,↓reduceIte,hmem]
   |false =>
    rw[hA,Bool.false_and] at hmem
    simp (maxSteps:=2000000) +contextual only[go_sem,↓reduceIte,r120_l0,q7,q12,q13,q14,nat_lt_dec,hd,hwr,u2,u3,o1,o2,Nat.zero_add,hA]
    refine key _ (fun t h1 h2 h3=>?_) ?_ ?_
    ·obtain⟨n13,n14,hne⟩:=hnt t h1 h2 h3
     simp +contextual only[go_sem,↓reduceIte,n13,n14,hne]
    ·simp +contextual only[go_sem,↓reduceIte]
    ·simp +contextual only[go_sem,↓reduceIte,hmem]
 ·have hie:i=E.length:=by omega
  have hd:decide ((i:Int)<(E.length:Int))=false:=by rw[nat_lt_dec];simp;omega
  simp (maxSteps:=2000000) +contextual only[go_sem,↓reduceIte,r120_l0,q7,q14,hd]
  refine hk _ _ (fun t h1 h2 h3=>?_) ?_ hs hnx fr'
  ·have hne:∀k:Nat,82≤k→(k=t)=False:=fun k hk=>by simp;omega
   simp +contextual only[go_sem,↓reduceIte,hne]
   exact hold t h1 h2 h3
  ·simp +contextual only[go_sem,↓reduceIte,q13,hie,List.take_length]
theorem grab_nats (L:List Nat):grab L.length 0 (nats L)=some (nats L):=by
 have:=grab_all (nats L)
 rwa [nats_len] at this
theorem l120s {β:Type}{fin:Fl→β}{ks:List K}{Post:β→Prop}{N pb x:Nat}{sig:List Nat}{A B v:AV}(hl:sig.length≤2^20)
  {e:Env}{s:St}(g10:Env.get e 10=.ptr pb 0)(g9:Env.get e 9=.int .i64 (x:Nat))(gp:s.get pb=some (.cells [A,B,v] 195 false 0 0))(hpb:pb<s.next)(hs:SlI s N sig v)(fr:Fr s)
  (hk:∀e' s' w,(∀t:Nat,t<34→t≠11→Env.get e' t=Env.get e t)→Env.get e' 11=.sl w 0 (sig.length+1) none 1→s'.get w=some (.cells (nats (sig++[x])) 3 false 0 0)→s.next≤w→w<s'.next→(∀j,j<s.next→s'.get j=s.get j)→s.next≤s'.next→Fr s'→Post (goN U fin ks e' s')) :
  Post (go U fin ks r120_s e s):=by
 have f1:(s.next=pb)=False:=by simp;omega
 have hb3:(sig.length+1)*8≤1099511627776:=by omega
 have hb4:sig.length+1≤1099511627776:=by omega
 have hnt:∀t:Nat,t<34→t≠11→(11=t)=False∧∀k:Nat,34≤k→(k=t)=False:=fun t h1 h2=>⟨by simp;omega,fun k hk=>by simp;omega⟩
 rcases hs with⟨rfl,rfl⟩|⟨b,rfl,h2,h3,h4⟩
 ·simp (maxSteps:=2000000) +contextual only[go_sem,↓reduceIte,r120_s,g10,g9,gp,f1,appK_zero,app0,Nat.mul_one,Nat.one_mul,Nat.zero_mul,Nat.reducePow,Nat.zero_le,appK_some]
  obtain⟨s4,d1,d2,d3,d4,d5⟩:=appC (b:=s.next) (L:=[]) (n:=0) (cap:=some 0) (s:=(s.new (.cells [] 3 false 0 0)).new (.cells [.int .i64 (x:Int)] 3 false 0 0)) (.inr rfl) rfl (by rw[get_new,next_new,if_neg (by omega),get_new,if_pos rfl];rfl) (by simp only[next_new];omega) x
  simp only[next_new] at d1 d2 d3 d4
  rw[d1]
  simp (maxSteps:=2000000) +contextual only[go_sem,↓reduceIte]
  refine hk _ _ (s.next+1+1) (fun t h1 h2=>?_) ?_ d3 (by omega) (by omega) (fun j h1=>?_) (by omega) (d5 ((fr.new _).new _))
  ·obtain⟨n11,hne⟩:=hnt t h1 h2
   simp +contextual only[go_sem,↓reduceIte,n11,hne]
  ·simp +contextual only[go_sem,↓reduceIte,Nat.zero_add,List.length_nil]
  ·rw[d4 j (by omega) (by omega)]
   simp only[get_new,next_new]
   rw[if_neg (by omega),if_neg (by omega)]
 ·have f2:(s.next=b)=False:=by simp;omega
  have hg:=grab_nats sig
  simp (maxSteps:=2000000) +contextual only[go_sem,↓reduceIte,r120_s,g10,g9,gp,f1,f2,h2,Nat.mul_one,Nat.one_mul,Nat.zero_add,Nat.reducePow,hg]
  by_cases hs0:sig=[]
  ·subst hs0
   simp (maxSteps:=2000000) +contextual only[go_sem,↓reduceIte,List.length_nil,show nats []=[] from rfl,appK_zero,app0,g9,Nat.mul_one,Nat.one_mul,Nat.zero_mul,Nat.reducePow,Nat.zero_le,appK_some]
   obtain⟨s4,d1,d2,d3,d4,d5⟩:=appC (b:=s.next) (L:=[]) (n:=0) (cap:=some 0) (s:=(s.new (.cells [] 3 false 0 0)).new (.cells [.int .i64 (x:Int)] 3 false 0 0)) (.inr rfl) rfl (by rw[get_new,next_new,if_neg (by omega),get_new,if_pos rfl];rfl) (by simp only[next_new];omega) x
   simp only[next_new] at d1 d2 d3 d4
   rw[d1]
   simp (maxSteps:=2000000) +contextual only[go_sem,↓reduceIte]
   refine hk _ _ (s.next+1+1) (fun t h1 h2=>?_) ?_ d3 (by omega) (by omega) (fun j h1=>?_) (by omega) (d5 ((fr.new _).new _))
   ·obtain⟨n11,hne⟩:=hnt t h1 h2
    simp +contextual only[go_sem,↓reduceIte,n11,hne]
   ·simp +contextual only[go_sem,↓reduceIte,Nat.zero_add,List.length_nil]
   ·rw[d4 j (by omega) (by omega)]
    simp only[get_new,next_new]
    rw[if_neg (by omega),if_neg (by omega)]
  ·have hp0:sig.length≠0:=fun h=>hs0 (List.length_eq_zero_iff.1 h)
   have e1:appK 3 1 8 (.sl s.next 0 0 (some 0) 1) (some (sig.length,nats sig)) (s.new (.cells [] 3 false 0 0))=some (.sl (s.next+1) 0 sig.length none 1,(s.new (.cells [] 3 false 0 0)).new (.cells (nats sig) 3 false 0 0)):=by
    have hz:Go.Am.lenA (.sl s.next 0 0 (some 0) 1)=0:=rfl
    rw[appK_some (by rw[nats_len];omega) (by rw[hz];omega) (by rw[hz];omega) hp0,appD_slk (cs:=[]) (lo:=0) (hi:=0) (by rw[get_new,if_pos rfl]) rfl (by omega)]
    simp only[next_new,Nat.zero_add,List.nil_append]
   rw[e1]
   have a1:=fun (S:St) (h:S.get (s.next+1)=some (.cells (nats sig) 3 false 0 0))=>appX' rfl h x
   have f3:(s.next+1=s.next)=False:=by simp
   simp (maxSteps:=2000000) +contextual only[go_sem,↓reduceIte,g9,Nat.mul_one,Nat.one_mul,Nat.reducePow,appK_some,hb3,hb4,a1,f3,if_false]
   refine hk _ _ (s.next+1+1+1) (fun t h1 h2=>?_) ?_ ?_ (by omega) ?_ (fun j h1=>?_) ?_ ?_
   ·obtain⟨n11,hne⟩:=hnt t h1 h2
    simp +contextual only[go_sem,↓reduceIte,n11,hne]
   ·simp +contextual only[go_sem,↓reduceIte]
   ·simp only[get_new,get_put,next_new,next_put]
    exact if_pos trivial
   ·simp only[next_new,next_put];omega
   ·simp only[get_new,get_put,next_new,next_put]
    rw[if_neg (by omega),if_neg (by omega),if_neg (by omega),if_neg (by omega),if_neg (by omega)]
   ·simp only[next_new,next_put];omega
   ·repeat first|exact fr|apply Fr.new|apply Fr.put|apply Fr.upto
    all_goals try simp only[next_put,next_new,upto_next]
    all_goals omega
def SgI (s:St)(N:Nat)(L:List Nat)(v:AV):Prop:=(v=.nils∧L=[])∨(L≠[]∧∃b,v=.sl b 0 L.length none 1∧s.get b=some (.cells (nats L) 3 false 0 0)∧N≤b∧b<s.next)
theorem SgI.sl {s:St}{N:Nat}{L:List Nat}{v:AV}(h:SgI s N L v):SlI s N L v:=by
 rcases h with h|⟨_,h⟩
 ·exact .inl h
 ·exact .inr h
theorem SgI.keep {s s':St}{N:Nat}{L:List Nat}{v:AV}(h:SgI s N L v)(hn:s.next≤s'.next)(hg:∀j c,s.get j=some (.cells c 3 false 0 0)→j<s.next→s'.get j=some (.cells c 3 false 0 0)):SgI s' N L v:=by
 rcases h with h|⟨h0,b,h1,h2,h3,h4⟩
 ·exact .inl h
 ·exact .inr ⟨h0,b,h1,hg b _ h2 h4,h3,by omega⟩
theorem SgI.na {s:St}{N:Nat}{L:List Nat}{v:AV}(h:SgI s N L v):noAgg v=true:=by
 rcases h with⟨rfl,_⟩|⟨_,b,rfl,_⟩ <;> rfl
theorem SgI.frz {s:St}{N:Nat}{L:List Nat}{v:AV}(h:SgI s N L v)(d:Nat):Go.Am.frz U s (d+2) v=some (encS true (nats L)):=by
 rcases h with⟨rfl,rfl⟩|⟨h5,w,rfl,h2,h3,h4⟩
 ·rfl
 ·rw[frz_slN rfl h2]
  cases L with
  |nil=>exact absurd rfl h5
  |cons x l=>rfl
def ents (k:Nat)(T:List Trip):List AV:=(List.range T.length).map fun j=>.agg [.int .i64 ((gt (codes T) j / k:Nat):Int),.int .i64 ((gt (codes T) j%k:Nat):Int),encS true (nats (sigT T j j))]
structure EnI (s:St)(N k:Nat)(T:List Trip)(E:List (Nat×AV))(pv:AV):Prop where
 row:Pr3 s N 195 E.length (ecs k E) pv
 cd:E.map (·.1)=codes T
 sg:∀j (h:j<E.length),SgI s N (sigT T j j) E[j].2
theorem EnI.len {s:St}{N k:Nat}{T:List Trip}{E:List (Nat×AV)}{pv:AV}(h:EnI s N k T E pv):E.length=T.length:=by
 have:=congrArg List.length h.cd
 rwa [List.length_map,codes_len] at this
theorem EnI.keep {s s':St}{N k:Nat}{T:List Trip}{E:List (Nat×AV)}{pv:AV}(h:EnI s N k T E pv)(hn:s.next≤s'.next)(hg:∀j c t,(t=3∨t=195)→s.get j=some (.cells c t false 0 0)→j<s.next→s'.get j=some (.cells c t false 0 0)):EnI s' N k T E pv:=by
 obtain⟨⟨b,cap,h1,h2,h3,h4,h5,h6⟩,h7,h8⟩:=h
 exact⟨⟨b,cap,h1,h2,hg b _ _ (.inr rfl) h3 h6,h4,h5,by omega⟩,h7,fun j hj=>(h8 j hj).keep hn fun i c h9 h10=>hg i c 3 (.inl rfl) h9 h10⟩
theorem chunks3 (k:Nat):∀E:List (Nat×AV),chunksA true 3 E.length (ecs k E)=E.map fun p=>.agg [.int .i64 ((p.1 / k:Nat):Int),.int .i64 ((p.1%k:Nat):Int),p.2]
 |[]=>rfl
 |p::E=>by
  rw[List.length_cons,chunks_agg,ecs_cons,List.map_cons]
  simp only[List.take_succ_cons,List.take_zero,List.drop_succ_cons,List.drop_zero]
  rw[chunks3 k E]
theorem EnI.frz {s:St}{N k:Nat}{T:List Trip}{E:List (Nat×AV)}{pv:AV}(h:EnI s N k T E pv)(d:Nat):Go.Am.frz U s (d+4) pv=some (.fz (ents k T)):=by
 have hl:=h.len
 obtain⟨⟨b,cap,rfl,h2,h3,h4,h5,h6⟩,h7,h8⟩:=h
 have h195:isAggT U 195=some true:=by kernel_rfl
 have s195:size U 195=some 3:=by kernel_rfl
 rw[frz_sl,h3,frzS_cells,←h4,grab_all,h195,s195]
 have e:=frzT_agg (X:=U) s (d+3) E.length 2 (ecs k E)
 rw[show (2:Nat)+1=3 from rfl] at e
 rw[e,chunks3]
 have hm:mapO (Go.Am.frz U s (d+3)) (E.map fun p=>AV.agg [.int .i64 ((p.1 / k:Nat):Int),.int .i64 ((p.1%k:Nat):Int),p.2])=some (ents k T):=by
  refine mapO_idx (by simp[ents,hl]) fun j h h'=>?_
  have hj:j<E.length:=by rw[List.length_map] at h;exact h
  have hf:=(h8 j hj).frz d
  have hg:gt (codes T) j=E[j].1:=by
   have hc:j<(codes T).length:=by rw[codes_len];omega
   rw[gt_get hc]
   have:(codes T)[j]? = some E[j].1:=by rw[←h7];simp[hj]
   rw[List.getElem?_eq_getElem hc] at this
   exact Option.some.inj this
  simp only[List.getElem_map,ents,List.getElem_range,hg]
  rw[frz_agg]
  simp only[mapO,hf]
  rfl
 rw[hm,fzK_some]
theorem bin_neqb (a b:Bool):binA U .neq 4 false (.bool a) (.bool b)=some (.bool (a != b)):=by cases a <;> cases b <;> kernel_rfl
theorem ensI_keep {s s':St}{N k:Nat}{T:List Trip}{E:List (Nat×AV)}{pv:AV}(h:EnI s N k T E pv)(hn:s.next≤s'.next)(hg:∀j,j<s.next→s'.get j=s.get j):EnI s' N k T E pv :=
 h.keep hn fun j c t _ h1 h2=>by rw[hg j h2];exact h1
def yeq (a b:Auto)(c x:Nat):Bool:=a.fa.fr (c / b.fa.n) x==b.fa.fr (c%b.fa.n) x
theorem sigT_new {A:Fa}{T:List Trip}{c i x:Nat}(h:VisI A T)(h2:VisI A (T++[(c,i,x)]))(hi:i<T.length):sigT (T++[(c,i,x)]) T.length T.length=sigT T i i++[x]:=by
 obtain⟨k,hk⟩:∃k,T.length=k+1:=⟨T.length-1,by omega⟩
 have hg:(T++[(c,i,x)])[k+1]? = some (c,i,x):=by rw[←hk];simp
 rw[hk,sigT,hg]
 simp only
 rw[sigT_fuel h2 k i (by omega) (by rw[List.length_append];omega),sigT_app _ _ h _ _ hi]
theorem l120b {ks:List K}{Post:Option AV→Prop}{a b:Auto}(ha:a.ok)(hb:b.ok)(hlb:a.lines=b.lines){c i:Nat}{TT:List Trip}{EE:List (Nat×AV)}{pv:AV}{vr:List Trip×Option Nat}
  (hT:VisI (prodF a.fa b.fa) TT)(hi:i<TT.length)(hcx:(codes TT)[i]? = some c)(hvr:visRow ((prodF a.fa b.fa).nx c) (yeq a b c) i (2^a.lines.toNat) 0 TT=vr)
  {e:Env}{s:St}(g2:Env.get e 2=.ptr 8 0)(g3:Env.get e 3=.ptr 9 0)(g7:Env.get e 7=pv)(g8:Env.get e 8=.int .i64 (i:Nat))(g9:Env.get e 9=.int .i64 (0:Nat))
  (gA:s.get 8=some (.cells [.int .i64 a.lines,encS a.nNl (a.next.map encRow),encS a.fNl (a.fires.map encFRow)] 72 false 0 0))(gB:s.get 9=some (.cells [.int .i64 b.lines,encS b.nNl (b.next.map encRow),encS b.fNl (b.fires.map encFRow)] 72 false 0 0))
  (hE:EnI s 10 b.fa.n TT EE pv)(hnx0:10≤s.next)(fr:Fr s)
  (hret:∀z,vr.2=some z→Post (some (.tup [.fz (ents b.fa.n vr.1),encS true (nats (sigT vr.1 i i++[z])),.bool true])))
  (hk:vr.2=none→∀e' s' pv' E',(∀t:Nat,t<9→t≠7→Env.get e' t=Env.get e t)→Env.get e' 7=pv'→EnI s' 10 b.fa.n vr.1 E' pv'→(∀j,j<10→s'.get j=s.get j)→s.next≤s'.next→Fr s'→Post (goN U (finP U [.tmp 4,.tmp 5,.tmp 6]) ks e' s')) :
  Post (goL U (finP U [.tmp 4,.tmp 5,.tmp 6]) (.bk 2::ks) r120_l1 e s):=by
 have hm16:=ha.m16
 have hA:=prodF_okA ha hb hlb
 have hcT:c∈codes TT:=List.mem_of_getElem? hcx
 have hc:c<(prodF a.fa b.fa).n:=by
  obtain⟨t,ht,rfl⟩:=List.mem_map.1 hcT
  exact hT.lt t ht
 have hnn:(prodF a.fa b.fa).n≤262144:=Nat.mul_le_mul ha.few hb.few
 have hc1:c / b.fa.n<a.next.length:=Nat.div_lt_of_lt_mul (by rw[Nat.mul_comm];exact hc)
 have hc2:c%b.fa.n<b.next.length:=Nat.mod_lt _ hb.pos
 have hsh:=bin_shl1 U 3 true .i64 (n:=a.lines) (by have:=ha.lines;omega)
 have hpw:((2:Int)^a.lines.toNat)=((2^a.lines.toNat:Nat):Int):=by simp
 rw[hpw] at hsh
 refine loop_ex (σ:=Nat) (fun x=>2^a.lines.toNat-x) (fun x e' s'=>x≤2^a.lines.toNat∧(∀t:Nat,t<9→t≠7→Env.get e' t=Env.get e t)∧Env.get e' 9=.int .i64 (x:Nat)∧(∀j,j<10→s'.get j=s.get j)∧s.next≤s'.next∧Fr s' ∧
   ∃T' E' pv',Env.get e' 7=pv'∧visRow ((prodF a.fa b.fa).nx c) (yeq a b c) i (2^a.lines.toNat-x) x T'=vr∧VisI (prodF a.fa b.fa) T'∧i<T'.length∧(codes T')[i]? = some c∧EnI s' 10 b.fa.n T' E' pv') 0 ?_
  ⟨Nat.zero_le _,fun _ _ _=>rfl,g9,fun _ _=>rfl,Nat.le_refl _,fr,TT,EE,pv,g7,by rw[Nat.sub_zero];exact hvr,hT,hi,hcx,hE⟩
 rintro Lp x e' s' ⟨hx0,hold,q9,hs,hnx,fr',T',E',pv',q7,hrun,hT',hi',hcx',hE'⟩ IH
 have q2:=(hold 2 (by omega) (by omega)).trans g2
 have q3:=(hold 3 (by omega) (by omega)).trans g3
 have q8:=(hold 8 (by omega) (by omega)).trans g8
 have hTl:=hT'.len
 have hEl:=hE'.len
 have uA:=(hs 8 (by omega)).trans gA
 have uB:=(hs 9 (by omega)).trans gB
 have f1:(s'.next=8)=False:=by simp;omega
 obtain⟨bp,cap,hpv,hp2,hp3,hp4,hp5,hp6⟩:=hE'.row
 have q7':=q7.trans hpv
 by_cases hd:x<2^a.lines.toNat
 ·have hw:=wrap_succ hd (by omega)
  have hi2:i<E'.length:=by omega
  have gr:=ecs_grab b.fa.n E' i hi2
  have hE1:E'[i].1=c:=by
   have:(E'.map (·.1))[i]? = some c:=by rw[hE'.cd];exact hcx'
   simpa[hi2] using this
  have hsg:=hE'.sg i hi2
  rw[hE1] at gr
  generalize E'[i].2=sv at *
  have hsl:(sigT T' i i).length≤i:=sigT_len T' i i
  have na:=hsg.na
  simp (maxSteps:=2000000) +contextual only[go_sem,↓reduceIte,r120_l1,q2,q7',q8,q9,uA,hsh,f1,nat_lt_dec,hd,hi2,hp3,gr,na]
  obtain⟨S,hS⟩:∃S,S=(s'.new (.cells [.int .i64 0,.int .i64 0,.nils] 195 false 0 0)).put s'.next (.cells [.int .i64 ((c / b.fa.n:Nat):Int),.int .i64 ((c%b.fa.n:Nat):Int),sv] 195 false 0 0):=⟨_,rfl⟩
  rw[←hS]
  have hSn:S.next=s'.next+1:=by rw[hS,next_put,next_new]
  have kS:∀j,j<s'.next→S.get j=s'.get j:=fun j h1=>by rw[hS,get_put,if_neg (by omega),get_new,if_neg (by omega)]
  have uS:S.get s'.next=some (.cells [.int .i64 ((c / b.fa.n:Nat):Int),.int .i64 ((c%b.fa.n:Nat):Int),sv] 195 false 0 0):=by rw[hS,get_put,if_pos rfl]
  have frS:Fr S:=by rw[hS];exact (fr'.new _).put (by rw[next_new];omega) _
  have sgS:SgI S 10 (sigT T' i i) sv:=hsg.keep (by omega) fun j c' h1 h2=>by rw[kS j h2];exact h1
  refine l120s (Post:=Post) (N:=10) (pb:=s'.next) (x:=x) (by omega) ?_ ?_ uS (by omega) sgS.sl frS ?_
  case refine_3 =>
   intro e2 s2 w h2a p11 gw hw1 hw2 hs2 hn2 fr2
   have E2:∀t:Nat,t<10→Env.get e2 t=Env.get e' t:=fun t ht=>by
    rw[h2a t (by omega) (by omega)]
    have hne:∀k:Nat,10≤k→(k=t)=False:=fun k hk=>by simp;omega
    simp +contextual only[go_sem,↓reduceIte,hne]
   have p2:=(E2 2 (by omega)).trans q2
   have p3:=(E2 3 (by omega)).trans q3
   have p7:=(E2 7 (by omega)).trans q7'
   have p8:=(E2 8 (by omega)).trans q8
   have p9:=(E2 9 (by omega)).trans q9
   have p10:Env.get e2 10=.ptr s'.next 0:=by rw[h2a 10 (by omega) (by omega)];simp +contextual only[go_sem,↓reduceIte]
   have k2:∀j,j<s'.next→s2.get j=s'.get j:=fun j h1=>(hs2 j (by omega)).trans (kS j h1)
   have u2:s2.get s'.next=some (.cells [.int .i64 ((c / b.fa.n:Nat):Int),.int .i64 ((c%b.fa.n:Nat):Int),sv] 195 false 0 0):=(hs2 _ (by omega)).trans uS
   have vA:=(k2 8 (by omega)).trans uA
   have vB:=(k2 9 (by omega)).trans uB
   have vp:=(k2 bp hp6).trans hp3
   have hE2:EnI s2 10 b.fa.n T' E' pv':=ensI_keep hE' (by omega) fun j h=>k2 j h
   have hE3:EnI (s2.upto (s2.next+19)) 10 b.fa.n T' E' pv':=ensI_keep hE2 (by rw[upto_next];omega) fun j h=>upto_get _ _ _
   have hSg:∀z,z=x→SgI (s2.upto (s2.next+19)) 10 (sigT T' i i++[z]) (.sl w 0 ((sigT T' i i).length+1) none 1):=fun z hz=>.inr ⟨by simp,w,by simp,by rw[upto_get,hz];exact gw,by omega,by rw[upto_next];omega⟩
   have hEf:=hE3.frz 35
   have hSf:=(hSg x rfl).frz 37
   rw[hpv] at hEf
   rw[frz_sl,upto_get] at hEf hSf
   have n1:=ha.nxAt hc1 hd
   have n2:=hb.nxAt hc2 (by rw[←hlb];exact hd)
   have r1:=ixa_rowI (nl:=a.nNl) hc1
   have r2:=ixa_rowI (nl:=b.nNl) hc2
   have n3:=ha.frAt hc1 hd
   have n4:=hb.frAt hc2 (by rw[←hlb];exact hd)
   have r3:=ixa_rowB (nl:=a.fNl) (l:=a.fires) (i:=c / b.fa.n) (by rw[ha.fl];exact hc1)
   have r4:=ixa_rowB (nl:=b.fNl) (l:=b.fires) (i:=c%b.fa.n) (by rw[hb.fl];exact hc2)
   have hfk:=fr2.at
   rw[show 2^a.lines.toNat-x=(2^a.lines.toNat-(x+1))+1 by omega,visRow] at hrun
   have hyq:(a.fa.fr (c / b.fa.n) x != b.fa.fr (c%b.fa.n) x)=!yeq a b c x:=rfl
   cases hy:yeq a b c x with
   |false =>
    rw[hy,cond_false] at hrun
    rw[hy,Bool.not_false] at hyq
    simp (maxSteps:=2000000) +contextual only[go_sem,↓reduceIte,p2,p3,p7,p8,p9,p10,p11,vA,vB,u2,n3,n4,r3,r4,bin_neqb,hyq,hfk,hEf,hSf,frz_tup]
    rw[←hrun] at hret
    exact hret x rfl
   |true =>
    rw[hy,cond_true] at hrun
    rw[hy,Bool.not_true] at hyq
    simp (maxSteps:=2000000) +contextual only[go_sem,↓reduceIte,p2,p3,p7,p8,p9,p10,p11,vA,vB,u2,n1,n2,n3,n4,r1,r2,r3,r4,bin_neqb,hyq,hfk,Nat.add_assoc]
    have hpn:=pcell_nx hb hlb hc hd
    have hlt3:=hA.lt c x hc hd
    generalize hcn:(prodF a.fa b.fa).nx c x=cn at *
    unfold pcell at hpn
    rw[List.cons.injEq,List.cons.injEq] at hpn
    obtain⟨h1n,h2n,_⟩:=hpn
    rw[←h1n,←h2n]
    obtain⟨S3,hS3⟩:∃S3,S3=(((s2.upto (s2.next+19)).upto (s2.next+41)).put (s2.next+39) (.cells [.int .i64 0,.int .i64 0,.nils] 195 false 0 0)).put (s2.next+39) (.cells [.int .i64 ((cn / b.fa.n:Nat):Int),.int .i64 ((cn%b.fa.n:Nat):Int),.sl w 0 ((sigT T' i i).length+1) none 1] 195 false 0 0):=⟨_,rfl⟩
    rw[←hS3]
    have hS3n:S3.next=s2.next+41:=by rw[hS3];simp only[next_put,upto_next]
    have k3:∀j,j<s2.next→S3.get j=s2.get j:=fun j h1=>by rw[hS3,get_put,if_neg (by omega),get_put,if_neg (by omega),upto_get,upto_get]
    have u3:S3.get (s2.next+39)=some (.cells [.int .i64 ((cn / b.fa.n:Nat):Int),.int .i64 ((cn%b.fa.n:Nat):Int),.sl w 0 ((sigT T' i i).length+1) none 1] 195 false 0 0):=by rw[hS3,get_put,if_pos rfl]
    have fr3:Fr S3:=by
     rw[hS3]
     repeat first|exact fr2|apply Fr.new|apply Fr.put|apply Fr.upto
     all_goals try simp only[next_put,next_new,upto_next]
     all_goals omega
    have hE4:EnI S3 10 b.fa.n T' E' pv':=ensI_keep hE2 (by omega) fun j h=>k3 j h
    refine l120a (Post:=Post) (k:=b.fa.n) (N:=10) (c:=cn) (p2:=s2.next+39) (E:=E') (pv:=pv') (z:=.sl w 0 ((sigT T' i i).length+1) none 1) (by omega) ?_ ?_ ?_ ?_ hE4.row u3 fr3 ?_
    case refine_5 =>
     intro e4 s4 h4a p13 hs4 hn4 fr4
     have hne16:∀t:Nat,t<10→∀k:Nat,10≤k→(k=t)=False:=fun t ht k hk=>by simp;omega
     have E4:∀t:Nat,t<10→Env.get e4 t=Env.get e' t:=fun t ht=>by
      rw[h4a t (by omega) (by omega) (by omega)]
      simp +contextual only[go_sem,↓reduceIte,hne16 t ht]
      exact E2 t ht
     have m7:=(E4 7 (by omega)).trans q7'
     have m9:=(E4 9 (by omega)).trans q9
     have m12:Env.get e4 12=.ptr (s2.next+39) 0:=by rw[h4a 12 (by omega) (by omega) (by omega)];simp +contextual only[go_sem,↓reduceIte]
     have u4:=(hs4 (s2.next+39)).trans u3
     have hE5:EnI s4 10 b.fa.n T' E' pv':=ensI_keep hE4 hn4 fun j h=>hs4 j
     rw[hE'.cd] at p13
     by_cases hin:cn∈T'.map (·.1)
     ·rw[decide_eq_true (show cn∈codes T' from hin)] at p13
      rw[decide_eq_true hin,cond_true] at hrun
      simp (maxSteps:=2000000) +contextual only[go_sem,↓reduceIte,p13,m9,hw]
      refine IH (x+1) _ _ (by omega) ⟨by omega,fun t h1 h2=>?_,?_,fun j h1=>?_,by omega,fr4,T',E',pv',?_,hrun,hT',hi',hcx',hE5⟩
      ·have hne:∀k:Nat,9≤k→(k=t)=False:=fun k hk=>by simp;omega
       simp +contextual only[go_sem,↓reduceIte,hne]
       exact (E4 t (by omega)).trans (hold t h1 h2)
      ·simp +contextual only[go_sem,↓reduceIte]
      ·rw[hs4 j,k3 j (by omega),k2 j (by omega),hs j h1]
      ·simp +contextual only[go_sem,↓reduceIte,m7,hpv]
     ·rw[decide_eq_false (show ¬cn∈codes T' from hin)] at p13
      rw[decide_eq_false hin,cond_false] at hrun
      have hlA:=hE'.row
      have hb1:(E'.length+1)*40≤1099511627776:=by omega
      have hb2:E'.length+1≤1099511627776:=by omega
      simp (maxSteps:=2000000) +contextual only[go_sem,↓reduceIte,p13,m7,m12,u4,Nat.mul_one,Nat.one_mul,appK_some,Nat.reducePow,hb1,hb2]
      have hE6:EnI (s4.new (.cells [.int .i64 ((cn / b.fa.n:Nat):Int),.int .i64 ((cn%b.fa.n:Nat):Int),.sl w 0 ((sigT T' i i).length+1) none 1] 195 false 0 0)) 10 b.fa.n T' E' pv':=ensI_keep hE5 (by rw[next_new];omega) fun j h=>by rw[get_new,if_neg (by omega)]
      obtain⟨s6,d1,d2,d3,d4,d5⟩:=hE6.row.appB (by rw[next_new];omega) (.int .i64 ((cn / b.fa.n:Nat):Int)) (.int .i64 ((cn%b.fa.n:Nat):Int)) (.sl w 0 ((sigT T' i i).length+1) none 1) rfl rfl rfl
      have hnB:∀j,isB3 pv' j↔bp=j:=fun j=>by rw[hpv,isB3_sl]
      have hg3:∀j c',s4.get j=some (.cells c' 3 false 0 0)→j<s4.next→s6.get j=some (.cells c' 3 false 0 0):=fun j c' h1 h2=>by
       rw[d4 j (by rw[next_new];omega) fun h=>?_,get_new,if_neg (by omega)]
       ·exact h1
       ·rw[hnB] at h;subst h
        rw[hs4,k3 _ (by omega),vp] at h1;cases h1
      rw[hpv] at d1
      simp only[next_new] at d1 d2 d3 d4
      rw[d1]
      simp (maxSteps:=2000000) +contextual only[go_sem,↓reduceIte,m9,hw]
      have hT2:VisI (prodF a.fa b.fa) (T'++[(cn,i,x)]):=hT'.put hlt3 hi' hd hin
      refine IH (x+1) _ _ (by omega) ⟨by omega,fun t h1 h2=>?_,?_,fun j h1=>?_,by omega,d5 (fr4.new _),T'++[(cn,i,x)],E'++[(cn,.sl w 0 ((sigT T' i i).length+1) none 1)],.sl (s4.next+1) 0 (E'.length+1) none 3,?_,hrun,hT2,by rw[List.length_append];omega,by rw[codes_app,List.getElem?_append_left (by rw[codes_len];omega)];exact hcx',?_,?_,fun j hj=>?_⟩
      ·have hne:∀k:Nat,9≤k→(k=t)=False:=fun k hk=>by simp;omega
       have h7:(7=t)=False:=by simp;omega
       simp +contextual only[go_sem,↓reduceIte,hne,h7]
       exact (E4 t (by omega)).trans (hold t h1 h2)
      ·simp +contextual only[go_sem,↓reduceIte]
      ·rw[d4 j (by omega) fun h=>by rw[hnB] at h;omega,get_new,if_neg (by omega),hs4 j,k3 j (by omega),k2 j (by omega),hs j h1]
      ·simp +contextual only[go_sem,↓reduceIte]
      ·rw[List.length_append,List.length_singleton,ecs_app]
       exact d3
      ·rw[List.map_append,codes_app,hE'.cd];rfl
      ·by_cases hj':j<E'.length
       ·rw[List.getElem_append_left hj',sigT_app _ _ hT' _ _ (by omega)]
        exact (hE5.sg j hj').keep (by omega) fun j' c' h1 h2=>hg3 j' c' h1 h2
       ·have hje:j=E'.length:=by rw[List.length_append,List.length_singleton] at hj;omega
        subst hje
        rw[List.getElem_append_right (by omega)]
        simp only[List.getElem_singleton]
        rw[hEl,sigT_new hT' hT2 hi']
        have hw4:s4.get w=some (.cells (nats (sigT T' i i++[x])) 3 false 0 0):=by rw[hs4,k3 w hw2];exact gw
        exact .inr ⟨by simp,w,by simp,hg3 w _ hw4 (by omega),by omega,by omega⟩
    all_goals simp +contextual only[go_sem,↓reduceIte,p7,hpv]
    all_goals rfl
  all_goals simp +contextual only[go_sem,↓reduceIte,q9]
 ·have hxe:x=2^a.lines.toNat:=by omega
  subst hxe
  rw[Nat.sub_self,visRow] at hrun
  subst hrun
  simp (maxSteps:=2000000) +contextual only[go_sem,↓reduceIte,r120_l1,q2,q9,uA,hsh,nat_lt_dec,Nat.lt_irrefl]
  refine hk rfl _ _ pv' E' (fun t h1 h2=>?_) ?_ hE' hs hnx fr'
  ·have hne:∀k:Nat,9≤k→(k=t)=False:=fun k hk=>by simp;omega
   simp +contextual only[go_sem,↓reduceIte,hne]
   exact hold t h1 h2
  ·simp +contextual only[go_sem,↓reduceIte,q7]
def vsE (a b:Auto):List Trip×Option (Nat×Nat):=visAll (prodF a.fa b.fa) (yeq a b)
theorem l120c {ks:List K}{Post:Option AV→Prop}{a b:Auto}(ha:a.ok)(hb:b.ok)(hlb:a.lines=b.lines){pv:AV}{E0:List (Nat×AV)}
  {e:Env}{s:St}(g2:Env.get e 2=.ptr 8 0)(g3:Env.get e 3=.ptr 9 0)(g7:Env.get e 7=pv)(g8:Env.get e 8=.int .i64 (0:Nat))
  (gA:s.get 8=some (.cells [.int .i64 a.lines,encS a.nNl (a.next.map encRow),encS a.fNl (a.fires.map encFRow)] 72 false 0 0))(gB:s.get 9=some (.cells [.int .i64 b.lines,encS b.nNl (b.next.map encRow),encS b.fNl (b.fires.map encFRow)] 72 false 0 0))
  (hE:EnI s 10 b.fa.n [(0,0,0)] E0 pv)(hnx0:10≤s.next)(fr:Fr s)
  (hret:∀i z,(vsE a b).2=some (i,z)→Post (some (.tup [.fz (ents b.fa.n (vsE a b).1),encS true (nats (sigT (vsE a b).1 i i++[z])),.bool true])))
  (hk:(vsE a b).2=none→∀e' s' pv' E',Env.get e' 7=pv'→EnI s' 10 b.fa.n (vsE a b).1 E' pv'→10≤s'.next→Fr s'→Post (goN U (finP U [.tmp 4,.tmp 5,.tmp 6]) ks e' s')) :
  Post (goL U (finP U [.tmp 4,.tmp 5,.tmp 6]) (.bk 0::ks) r120_l2 e s):=by
 have hA:=prodF_okA ha hb hlb
 have hnn:(prodF a.fa b.fa).n≤262144:=Nat.mul_le_mul ha.few hb.few
 refine loop_ex (σ:=Nat) (fun i=>(prodF a.fa b.fa).n-i) (fun i e' s'=>Env.get e' 2=.ptr 8 0∧Env.get e' 3=.ptr 9 0∧Env.get e' 8=.int .i64 (i:Nat)∧(∀j,j<10→s'.get j=s.get j)∧10≤s'.next∧Fr s' ∧
   ∃T' E' pv',visT (prodF a.fa b.fa) (yeq a b) ((prodF a.fa b.fa).n+1-i) i T'=vsE a b∧VisI (prodF a.fa b.fa) T'∧i≤T'.length∧Env.get e' 7=pv'∧EnI s' 10 b.fa.n T' E' pv') 0 ?_
  ⟨g2,g3,g8,fun _ _=>rfl,hnx0,fr,[(0,0,0)],E0,pv,rfl,visI0 hA,Nat.zero_le _,g7,hE⟩
 rintro Lp i e' s' ⟨q2,q3,q8,hs,hnx,fr',T',E',pv',hrun,hT',hi,q7,hE'⟩ IH
 have hTl:=hT'.len
 have hEl:=hE'.len
 have uA:=(hs 8 (by omega)).trans gA
 have uB:=(hs 9 (by omega)).trans gB
 obtain⟨bp,cap,hpv,hp2,hp3,hp4,hp5,hp6⟩:=hE'.row
 have q7':=q7.trans hpv
 rw[show (prodF a.fa b.fa).n+1-i=((prodF a.fa b.fa).n-i)+1 by omega,visT] at hrun
 by_cases hd:i<T'.length
 ·have hwr:=wrap_succ hd (by omega)
  have hi2:i<E'.length:=by omega
  rw[List.getElem?_eq_getElem hd] at hrun
  simp only at hrun
  have hcx:(codes T')[i]? = some T'[i].1:=by simp[codes,hd]
  have hc:T'[i].1<(prodF a.fa b.fa).n:=hT'.lt _ (List.getElem_mem hd)
  generalize T'[i].1=c at *
  have hm:(prodF a.fa b.fa).m=2^a.lines.toNat:=rfl
  rw[hm] at hrun
  obtain⟨⟨i1,R1,hR1⟩,_,hstop⟩:=visRow_spec hA hc (yeq a b c) (2^a.lines.toNat) 0 (T:=T') (i:=i) (by rw[hm];omega) hT' hd
  obtain⟨vr,hvr⟩:∃vr,visRow ((prodF a.fa b.fa).nx c) (yeq a b c) i (2^a.lines.toNat) 0 T'=vr:=⟨_,rfl⟩
  rw[hvr] at hrun i1 hR1 hstop
  simp (maxSteps:=2000000) +contextual only[go_sem,↓reduceIte,r120_l2,q7',q8,nat_lt_dec,hi2]
  refine l120b (Post:=Post) ha hb hlb (c:=c) (i:=i) (TT:=T') (EE:=E') (pv:=pv') (vr:=vr) hT' hd hcx hvr ?_ ?_ ?_ ?_ ?_ uA uB hE' hnx fr' (fun z hz=>?_) (fun hz e2 s2 pv2 E2 h2a p7 hE2 hs2 hn2 fr2=>?_)
  case refine_6 =>
   obtain⟨T2,o2⟩:=vr
   simp only at hz hrun
   subst hz
   simp only at hrun
   rw[←hrun] at hret
   exact hret i z rfl
  case refine_7 =>
   obtain⟨T2,o2⟩:=vr
   simp only at hz hrun i1 hR1 hE2
   subst hz
   simp only at hrun
   have G2:∀t:Nat,t<9→t≠7→Env.get e2 t=Env.get e' t:=fun t ht h7=>by
    rw[h2a t ht h7]
    have hne:∀k:Nat,9≤k→(k=t)=False:=fun k hk=>by simp;omega
    simp +contextual only[go_sem,↓reduceIte,hne]
   have p2:=(G2 2 (by omega) (by omega)).trans q2
   have p3:=(G2 3 (by omega) (by omega)).trans q3
   have p8:=(G2 8 (by omega) (by omega)).trans q8
   have hlT:i+1≤T2.length:=by rw[hR1,List.length_append];omega
   simp (maxSteps:=2000000) +contextual only[go_sem,↓reduceIte,p8,hwr]
   refine IH (i+1) _ _ (by have:=i1.len;omega) ⟨?_,?_,?_,fun j h1=>(hs2 j h1).trans (hs j h1),by omega,fr2,T2,E2,pv2,?_,i1,hlT,?_,hE2⟩
   case refine_4=>rw[show (prodF a.fa b.fa).n+1-(i+1)=(prodF a.fa b.fa).n-i by omega];exact hrun
   all_goals simp +contextual only[go_sem,↓reduceIte,p2,p3,p7,p8]
  all_goals simp +contextual only[go_sem,↓reduceIte,q2,q3,q7,q8]
  all_goals rfl
 ·have hie:i=E'.length:=by omega
  have hdd:decide ((i:Int)<(E'.length:Int))=false:=by rw[nat_lt_dec];simp;omega
  rw[List.getElem?_eq_none (by omega)] at hrun
  simp only at hrun
  rw[←hrun] at hk
  simp (maxSteps:=2000000) +contextual only[go_sem,↓reduceIte,r120_l2,q7',q8,hdd]
  exact hk rfl _ _ pv' E' (by simp +contextual only[go_sem,↓reduceIte,q7]) hE' hnx fr'
theorem c120 {a b:Auto}(ha:a.ok)(hb:b.ok)(hlb:a.lines=b.lines):calV U 120 [encA a,encA b]=some (.tup [.fz (ents b.fa.n (vsE a b).1),encS true (nats (endS (vsE a b))),.bool (vsE a b).2.isSome]):=by
 refine pure_go k120 (by kernel_rfl) (by simp[stills,still_encA,still]) ?_
 have nn:=noAgg_encS a.nNl (a.next.map encRow)
 have nf:=noAgg_encS a.fNl (a.fires.map encFRow)
 have cn:=cells_encS a.nNl (a.next.map encRow)
 have cf:=cells_encS a.fNl (a.fires.map encFRow)
 have nn':=noAgg_encS b.nNl (b.next.map encRow)
 have nf':=noAgg_encS b.fNl (b.fires.map encFRow)
 have cn':=cells_encS b.nNl (b.next.map encRow)
 have cf':=cells_encS b.fNl (b.fires.map encFRow)
 rw[encA_eq a,encA_eq b]
 unfold encN encFs
 simp (maxSteps:=2000000) +contextual only[go_sem,↓reduceIte,r120,nn,nf,cn,cf,nn',nf',cn',cf']
 refine l120c (Post:=fun (o:Option AV)=>o=some (.tup [.fz (ents b.fa.n (vsE a b).1),encS true (nats (endS (vsE a b))),.bool (vsE a b).2.isSome])) ha hb hlb (pv:=.sl 10 0 1 (some 1) 3) (E0:=[(0,.nils)]) ?_ ?_ ?_ ?_ ?_ ?_ ⟨⟨10,some 1,rfl,.inr rfl,?_,rfl,by omega,?_⟩,rfl,?_⟩ ?_ ?_ ?_ ?_
 case refine_12 =>
  intro i z hz
  unfold endS
  rw[hz]
  rfl
 case refine_13 =>
  intro hz e' s' pv' E' p7 hE hn fr'
  unfold endS
  rw[hz]
  obtain⟨bp,cap,hpv,hp2,hp3,hp4,hp5,hp6⟩:=hE.row
  have hf:=hE.frz 35
  rw[hpv] at hf p7
  rw[frz_sl] at hf
  simp (maxSteps:=2000000) +contextual only[go_sem,↓reduceIte,p7,hf,frz_tup]
  rfl
 case refine_11 =>
  repeat first|exact Fr.own|apply Fr.new|apply Fr.put|apply Fr.upto
  all_goals simp +contextual only[go_sem,↓reduceIte]
 all_goals simp +contextual only[go_sem,↓reduceIte]
 case refine_7=>simp[ecs]
 case refine_9 =>
  intro j hj
  have:j=0:=by omega
  subst this
  exact .inl ⟨rfl,rfl⟩
 all_goals rfl
theorem c183 {a b:Auto}(ha:a.ok)(hb:b.ok)(hlb:a.lines=b.lines){c x:Nat}(hc:c<(prodF a.fa b.fa).n)(hx:x<2^a.lines.toNat){A0 B0:Nat}{s:St}(hlA:A0<s.next)(hlB:B0<s.next)(gA:s.get A0=some (.cells [.int .i64 a.lines,encS a.nNl (a.next.map encRow),encS a.fNl (a.fires.map encFRow)] 69 false 0 0))(gB:s.get B0=some (.cells [.int .i64 b.lines,encS b.nNl (b.next.map encRow),encS b.fNl (b.fires.map encFRow)] 69 false 0 0))(fr:Fr s) :
  ∃s',cal U 183 [.agg (pcell b.fa.n c),.int .i64 (x:Nat),.ptr A0 0,.ptr B0 0] s=some (.bool (yeq a b c x),s')∧(∀j,j<s.next→s'.get j=s.get j)∧s.next≤s'.next∧Fr s':=by
 suffices hgo:∃o,go U (finB U [.tmp 6]) [] r183 (bindArgs 0 [.agg (pcell b.fa.n c),.int .i64 (x:Nat),.ptr A0 0,.ptr B0 0] .nil) s=some o∧o.1=.bool (yeq a b c x)∧(∀j,j<s.next→o.2.get j=s.get j)∧s.next≤o.2.next∧Fr o.2 by
  obtain⟨⟨v,s'⟩,h1,h2,h3⟩:=hgo
  simp only at h2
  subst h2
  exact⟨s',kept_go k183 (by kernel_rfl) h1,h3⟩
 have hc1:c / b.fa.n<a.next.length:=Nat.div_lt_of_lt_mul (by rw[Nat.mul_comm];exact hc)
 have hc2:c%b.fa.n<b.next.length:=Nat.mod_lt _ hb.pos
 have n3:=ha.frAt hc1 hx
 have n4:=hb.frAt hc2 (by rw[←hlb];exact hx)
 have r3:=ixa_rowB (nl:=a.fNl) (l:=a.fires) (i:=c / b.fa.n) (by rw[ha.fl];exact hc1)
 have r4:=ixa_rowB (nl:=b.fNl) (l:=b.fires) (i:=c%b.fa.n) (by rw[hb.fl];exact hc2)
 have f1:∀q,(s.next+q=A0)=False:=fun q=>by simp;omega
 have f2:∀q,(s.next+q=B0)=False:=fun q=>by simp;omega
 have f1':(s.next=A0)=False:=by simp;omega
 have f2':(s.next=B0)=False:=by simp;omega
 unfold pcell
 simp (maxSteps:=2000000) +contextual only[go_sem,↓reduceIte,r183,gA,gB,n3,n4,r3,r4,bin_eqb,f1,f2,f1',f2']
 exact⟨_,rfl,rfl,fun j h=>by rw[upto_get,get_new,if_neg (by omega)],by rw[upto_next];omega,(fr.new _).upto (by rw[next_new];omega)⟩
theorem yld183 {a b:Auto}(ha:a.ok)(hb:b.ok)(hlb:a.lines=b.lines){A0 B0 N:Nat}(hA:A0<N)(hB:B0<N):Yld (.fn (.func 183) [] [.ptr A0 0,.ptr B0 0]) b.fa.n N Unit (fun _ s=>A0<s.next∧B0<s.next∧s.get A0=some (.cells [.int .i64 a.lines,encS a.nNl (a.next.map encRow),encS a.fNl (a.fires.map encFRow)] 69 false 0 0)∧s.get B0=some (.cells [.int .i64 b.lines,encS b.nNl (b.next.map encRow),encS b.fNl (b.fires.map encFRow)] 69 false 0 0)) (fun _ _=>False) (fun c x=>c<(prodF a.fa b.fa).n∧x<2^a.lines.toNat) (yeq a b) (fun _ _ _ _=>True):=by
 refine⟨fun g c x s hd hci hf=>?_,fun g s s' hci hn hs=>⟨by omega,by omega,(hs A0 hci.1 (.inr hA)).trans hci.2.2.1,(hs B0 hci.2.1 (.inr hB)).trans hci.2.2.2⟩,fun _ _ _ _ h=>h.elim⟩
 obtain⟨h1,h2,h3,h4⟩:=hci
 obtain⟨s',e,k1,k2,k3⟩:=c183 ha hb hlb hd.1 hd.2 h1 h2 h3 h4 hf
 refine⟨(),s',?_,trivial,⟨by omega,by omega,(k1 A0 h1).trans h3,(k1 B0 h2).trans h4⟩,fun j hj=>hj.elim,fun j hj _=>k1 j hj,k2,k3⟩
 rw[calv_fn,←callK_eq]
 exact e
theorem c137 {a b:Auto}(ha:a.ok)(hb:b.ok)(hlb:a.lines=b.lines):calV U 137 [encA a,encA b]=some (encS true (nats (endS (vsE a b)))):=by
 refine pure_go k137 (by kernel_rfl) (by simp[stills,still_encA,still]) ?_
 have nn:=noAgg_encS a.nNl (a.next.map encRow)
 have nf:=noAgg_encS a.fNl (a.fires.map encFRow)
 have cn:=cells_encS a.nNl (a.next.map encRow)
 have cf:=cells_encS a.fNl (a.fires.map encFRow)
 have nn':=noAgg_encS b.nNl (b.next.map encRow)
 have nf':=noAgg_encS b.fNl (b.fires.map encFRow)
 have cn':=cells_encS b.nNl (b.next.map encRow)
 have cf':=cells_encS b.fNl (b.fires.map encFRow)
 obtain⟨S,hS⟩:∃S,S=((ownSt U).new (.cells [.int .i64 a.lines,encS a.nNl (a.next.map encRow),encS a.fNl (a.fires.map encFRow)] 69 false 0 0)).new (.cells [.int .i64 b.lines,encS b.nNl (b.next.map encRow),encS b.fNl (b.fires.map encFRow)] 69 false 0 0):=⟨_,rfl⟩
 have hSn:S.next=10:=by rw[hS];simp +contextual only[go_sem,↓reduceIte]
 have gA:S.get 8=some (.cells [.int .i64 a.lines,encS a.nNl (a.next.map encRow),encS a.fNl (a.fires.map encFRow)] 69 false 0 0):=by rw[hS];simp +contextual only[go_sem,↓reduceIte]
 have gB:S.get 9=some (.cells [.int .i64 b.lines,encS b.nNl (b.next.map encRow),encS b.fNl (b.fires.map encFRow)] 69 false 0 0):=by rw[hS];simp +contextual only[go_sem,↓reduceIte]
 have frS:Fr S:=by rw[hS];exact (Fr.own.new _).new _
 obtain⟨pv,ev,s1,g',h114,VR⟩:=c114 ha hb hlb (s:=S) (yld183 ha hb hlb (A0:=8) (B0:=9) (N:=S.next) (by omega) (by omega)) (fun c x hc hx=>⟨hc,hx⟩) (g:=()) ⟨by omega,by omega,gA,gB⟩ frS
 have hE:=VR.ends
 have hEf:=hE.frz
 have hEn:=hE.na
 rw[encA_eq a,encA_eq b] at h114 ⊢
 unfold encN encFs at h114 ⊢
 rw[hS] at h114
 simp (maxSteps:=2000000) +contextual only[go_sem,↓reduceIte,r137,nn,nf,cn,cf,nn',nf',cn',cf',k114',h114,hEn,hEf]
 rfl
def distP (a b:Auto):AV:=bif chkTwo a b != 0 then .tup [.nils,.int .i64 (chkTwo a b)] else .tup [encS true (nats (endS (vsE a b))),.int .i64 (br ((endS (vsE a b)).length==0) 7 0)]
theorem c68 (a b:Auto)(ha:a.next.length≤2^40)(hra:∀r∈a.next,r.2.length≤2^40)(hb:b.next.length≤2^40)(hrb:∀r∈b.next,r.2.length≤2^40):calV U 68 [encA a,encA b]=some (distP a b):=by
 refine pure_go k68 (by kernel_rfl) (by simp[stills,still_encA,still]) ?_
 have h136:=c136 a b ha hra hb hrb
 unfold distP
 have nn:=noAgg_encS a.nNl (a.next.map encRow)
 have nf:=noAgg_encS a.fNl (a.fires.map encFRow)
 have cn:=cells_encS a.nNl (a.next.map encRow)
 have cf:=cells_encS a.fNl (a.fires.map encFRow)
 have nn':=noAgg_encS b.nNl (b.next.map encRow)
 have nf':=noAgg_encS b.fNl (b.fires.map encFRow)
 have cn':=cells_encS b.nNl (b.next.map encRow)
 have cf':=cells_encS b.fNl (b.fires.map encFRow)
 cases hc:chkTwo a b != 0 with
 |true =>
  rw[encA_eq a,encA_eq b] at h136 ⊢
  unfold encN encFs at h136 ⊢
  simp (maxSteps:=2000000) +contextual only[go_sem,↓reduceIte,r68,nn,nf,cn,cf,nn',nf',cn',cf',h136,hc,cond_true]
 |false =>
  have h0:chkTwo a b=0:=by simpa using hc
  obtain⟨oa,ob,hlb⟩:=chkTwo_ok h0
  rw[h0] at h136
  have h137:=c137 oa ob hlb
  have ls:=lenL_encS true (nats (endS (vsE a b)))
  rw[nats_len] at ls
  have c6:=c116 ((endS (vsE a b)).length==0) 7
  have hq:(((endS (vsE a b)).length:Int)==0)=((endS (vsE a b)).length==0):=by rw[Bool.eq_iff_iff];simp
  rw[encA_eq a,encA_eq b] at h136 h137 ⊢
  unfold encN encFs at h136 h137 ⊢
  simp (maxSteps:=2000000) +contextual only[go_sem,↓reduceIte,r68,nn,nf,cn,cf,nn',nf',cn',cf',h136,h137,cond_false,ls,hq,c6,frz_encS,frz_tup]
def prs (k:Nat)(L:List Nat):List AV:=L.map fun c=>.agg (pcell k c)
theorem chunks2P (k:Nat):∀L:List Nat,chunksA true 2 L.length (pcs k L)=prs k L
 |[]=>rfl
 |c::L=>by
  have e:pcs k (c::L)=.int .i64 ((c / k:Nat):Int)::.int .i64 ((c%k:Nat):Int)::pcs k L:=rfl
  rw[List.length_cons,chunks_agg,e]
  simp only[List.take_succ_cons,List.take_zero,List.drop_succ_cons,List.drop_zero]
  rw[chunks2P k L]
  rfl
theorem ag_116':isAggT U 116=some true:=by kernel_rfl
theorem sz_116':size U 116=some 2:=by kernel_rfl
theorem frz_prs {s:St}{b k d:Nat}{cap:Option Nat}{L:List Nat}(h:s.get b=some (.cells (pcs k L) 116 false 0 0)):frz U s (d+3) (.sl b 0 L.length cap 2)=some (.fz (prs k L)):=by
 rw[frz_sl,h,frzS_cells,←pcs_len k L,grab_all,ag_116',sz_116']
 have e:=frzT_agg (X:=U) s (d+2) L.length 1 (pcs k L)
 rw[show (1:Nat)+1=2 from rfl] at e
 rw[e,chunks2P]
 have hm:mapO (frz U s (d+2)) (prs k L)=some (prs k L):=by
  refine mapO_self fun x hx=>?_
  obtain⟨c,_,rfl⟩:=List.mem_map.1 hx
  unfold pcell
  rw[frz_agg]
  rfl
 rw[hm,fzK_some]
theorem sorted_unique {L L':List Nat}(hp:L'.Perm L)(hs:L'.Pairwise (·≤·)):L'=sortL L:=by
 obtain⟨p,s⟩:=sortL_spec L
 exact (hp.trans p.symm).eq_of_pairwise (fun a b _ _ h1 h2=>Nat.le_antisymm h1 h2) hs s
theorem k139' (args:List AV)(s:St):callK U (calV U 139 args) 139 args s=cal U 139 args s:=(callK_eq ..).symm
theorem k141' (args:List AV)(s:St):callK U (calV U 141 args) 141 args s=cal U 141 args s:=(callK_eq ..).symm
theorem c138 {k c x:Nat}{s:St}:cal U 138 [.agg (pcell k c),.int .i64 (x:Int)] s=some (.bool true,s.new (.cells (pcell k c) 186 false 0 0)):=by
 refine kept_go k138 (by kernel_rfl) ?_
 unfold pcell
 simp (maxSteps:=2000000) +contextual only[go_sem,↓reduceIte,r138]
theorem yld138 (k N:Nat)(dom:Nat→Nat→Prop):Yld (.fn (.func 138) [] []) k N Unit (fun _ _=>True) (fun _ _=>False) dom (fun _ _=>true) (fun _ _ _ _=>True):=by
 refine⟨fun g c x s hd hci hf=>⟨(),s.new (.cells (pcell k c) 186 false 0 0),?_,trivial,trivial,fun j hj=>hj.elim,fun j hj _=>by rw[get_new,if_neg (by omega)],by rw[next_new];omega,hf.new _⟩,fun g s s' hci hn hs=>trivial,fun _ _ _ _ h=>h.elim⟩
 rw[calv_fn,←callK_eq]
 exact c138
def relP (a b:Auto):AV:=bif chkTwo a b != 0 then .tup [.nils,.int .i64 (chkTwo a b)] else bif decide ((endS (vsE a b)).length=0) then .tup [.fz (prs b.fa.n (sortL (prodT a b))),.int .i64 0] else .tup [.nils,.int .i64 29]
theorem c69 (a b:Auto)(ha:a.next.length≤2^40)(hra:∀r∈a.next,r.2.length≤2^40)(hb:b.next.length≤2^40)(hrb:∀r∈b.next,r.2.length≤2^40)(hn:chkTwo a b=0→a.fa.n*b.fa.n≤64):calV U 69 [encA a,encA b]=some (relP a b):=by
 refine pure_go k69 (by kernel_rfl) (by simp[stills,still_encA,still]) ?_
 have h136:=c136 a b ha hra hb hrb
 unfold relP
 have nn:=noAgg_encS a.nNl (a.next.map encRow)
 have nf:=noAgg_encS a.fNl (a.fires.map encFRow)
 have cn:=cells_encS a.nNl (a.next.map encRow)
 have cf:=cells_encS a.fNl (a.fires.map encFRow)
 have nn':=noAgg_encS b.nNl (b.next.map encRow)
 have nf':=noAgg_encS b.fNl (b.fires.map encFRow)
 have cn':=cells_encS b.nNl (b.next.map encRow)
 have cf':=cells_encS b.fNl (b.fires.map encFRow)
 cases hc:chkTwo a b != 0 with
 |true =>
  rw[encA_eq a,encA_eq b] at h136 ⊢
  unfold encN encFs at h136 ⊢
  simp (maxSteps:=2000000) +contextual only[go_sem,↓reduceIte,r69,nn,nf,cn,cf,nn',nf',cn',cf',h136,hc,cond_true]
 |false =>
  have h0:chkTwo a b=0:=by simpa using hc
  obtain⟨oa,ob,hlb⟩:=chkTwo_ok h0
  rw[h0] at h136
  have h137:=c137 oa ob hlb
  have ls:=lenL_encS true (nats (endS (vsE a b)))
  rw[nats_len] at ls
  by_cases hz:(endS (vsE a b)).length=0
  ·have hgt:decide ((((endS (vsE a b)).length:Nat):Int)>0)=false:=decide_eq_false (by omega)
   obtain⟨S,hS⟩:∃S,S=((ownSt U).new (.cells [.int .i64 a.lines,encS a.nNl (a.next.map encRow),encS a.fNl (a.fires.map encFRow)] 69 false 0 0)).new (.cells [.int .i64 b.lines,encS b.nNl (b.next.map encRow),encS b.fNl (b.fires.map encFRow)] 69 false 0 0):=⟨_,rfl⟩
   have frS:Fr S:=by rw[hS];exact (Fr.own.new _).new _
   obtain⟨pv,ev,s1,g',h114,VR⟩:=c114 oa ob hlb (s:=S) (yld138 b.fa.n S.next (fun _ _=>True)) (fun _ _ _ _=>trivial) (g:=()) trivial frS
   have hP:=prodI oa ob hlb
   have hpr:=VR.pairs
   rw[←codes_len] at hpr
   have hpr:PrI s1 S.next 186 (prodT a b).length (pcs b.fa.n (prodT a b)) pv:=hpr
   have hle:=hP.len
   have h64:=hn h0
   obtain⟨s2,bb,h139,gbb,b1,b2,k2,n2,fr2⟩:=c139 (by omega) (fun e=>by have:=hP.pos;rw[e] at this;simp at this) hpr VR.fr
   obtain⟨v3,s3,L',h141,hR3,hp3,hs3⟩:=c141 (cap:=none) (k:=b.fa.n) ob.pos rfl (by omega) hP.nd gbb b2 fr2
   have hL':=sorted_unique hp3 hs3
   subst hL'
   have hfz:=frz_prs (d:=36) (cap:=none) hR3.1
   rw[hp3.length_eq] at hfz
   rw[encA_eq a,encA_eq b] at h136 h137 h114 ⊢
   unfold encN encFs at h136 h137 h114 ⊢
   rw[hS] at h114
   simp (maxSteps:=2000000) +contextual only[go_sem,↓reduceIte,r69,nn,nf,cn,cf,nn',nf',cn',cf',h136,h137,cond_false,ls,hgt,k114',h114,k139',h139,k141',h141]
   rw[decide_eq_true hz,cond_true]
   rw[frz_sl] at hfz
   rw[hfz]
   rfl
  ·have hgt:decide ((((endS (vsE a b)).length:Nat):Int)>0)=true:=decide_eq_true (by omega)
   rw[decide_eq_false hz]
   rw[encA_eq a,encA_eq b] at h136 h137 ⊢
   unfold encN encFs at h136 h137 ⊢
   simp (maxSteps:=2000000) +contextual only[go_sem,↓reduceIte,r69,nn,nf,cn,cf,nn',nf',cn',cf',h136,h137,cond_false,ls,hgt]
noncomputable def r70_c:RC:=(.ops [o 37 (.ixp 2 1 (.t 10) (.v (.int .i64 0))),o 38 (.ld1 (.t 37)),o 39 (.bin .lss 3 true (.t 38) (.v (.int .i64 0))),om 40 39,oF 41 40 (.ixp 2 1 (.t 10) (.v (.int .i64 0))),oF 42 40 (.ld1 (.t 41)),oF 43 40 (.fa 1 (.t 3)),oF 44 40 (.ld1 (.t 43)),oF 45 40 (.lenL (.t 44)),oF 46 40 (.bin .geq 3 false (.t 42) (.t 45)),o 47 (.pick (.t 40) (.v (.bool true)) (.t 46)),om 48 47,oF 49 48 (.ixp 2 1 (.t 10) (.v (.int .i64 1))),oF 50 48 (.ld1 (.t 49)),oF 51 48 (.bin .lss 3 true (.t 50) (.v (.int .i64 0))),o 52 (.pick (.t 48) (.v (.bool true)) (.t 51)),om 53 52,oF 54 53 (.ixp 2 1 (.t 10) (.v (.int .i64 1))),oF 55 53 (.ld1 (.t 54)),oF 56 53 (.fa 1 (.t 4)),oF 57 53 (.ld1 (.t 56)),oF 58 53 (.lenL (.t 57)),oF 59 53 (.bin .geq 3 false (.t 55) (.t 58)),o 60 (.pick (.t 53) (.v (.bool true)) (.t 59)),om 11 60])
noncomputable def r70_d:RC:=(.seq (.drw 19 [om 61 11,o 62 (.call 116 [(.t 61),(.v (.int .i64 10))]),om 63 9,o 64 (.bin .gtr 3 true (.t 63) (.v (.int .i64 0))),om 65 64,oT 66 65 (.mov (.t 2)),oT 67 65 (.mov (.t 9)),oT 68 65 (.bin .sub 3 true (.t 67) (.v (.int .i64 1))),oT 69 65 (.raw (.call { callee:=.builtin .max,args:=#[(.const (.int .i64 0)),(.tmp 68)],argTypes:=#[3,3] })),oT 70 65 (.ixa 2 (.t 66) (.t 69)),oT 71 65 (.ldn 2 (.t 70)),oT 72 65 (.ldn 2 (.t 10)),oT 73 65 (.call 142 [(.t 71),(.t 72)]),oT 74 65 (.bin .geq 3 true (.t 73) (.v (.int .i64 0))),o 75 (.pick (.t 65) (.t 74) (.v (.bool false))),o 76 (.call 116 [(.t 75),(.v (.int .i64 11))]),
 ⟨some 77,none,some 16,false,.bsl 26 1 2 [(.int .i64 0),(.int .i64 0)] [(0,1,(.t 62)),(1,1,(.t 76))]⟩,o 78 (.call 89 [(.t 77)]),om 12 78]) (.seq (.ops [om 79 12,o 80 (.bin .neq 26 true (.t 79) (.v (.int .i64 0)))]) (.cond (.t 80) (.seq (.ops [om 81 12,om 6 81]) .ret) .skip)))
noncomputable def r70_e:RC:=(.seq (.ops [om 85 2,o 86 (.lenL (.t 85)),o 87 (.bin .gtr 3 true (.t 86) (.v (.int .i64 0))),om 88 87,oT 89 88 (.mov (.t 2)),oT 90 88 (.ixa 2 (.t 89) (.v (.int .i64 0))),oT 91 88 (.ldn 2 (.t 90)),oT 92 88 (.bld [(.int .i64 0),(.int .i64 0)] []),oT 93 88 (.bin .eql 116 false (.t 91) (.t 92)),o 94 (.pick (.t 88) (.t 93) (.v (.bool false))),om 13 94]) (.seq (.seq (.ops [om 95 2,o 96 (.lenL (.t 95)),o 97 (.mov (.v (.int .i64 0)))]) (.block 2 (.loop r70_l2))) (.seq (.ops [om 154 13,o 155 (.un .not (.t 154)),o 156 (.call 116 [(.t 155),(.v (.int .i64 21))]),om 6 156]) .ret)))
theorem r70_eq:r70=(.seq (.ops [o 3 (.box 69 (.t 0)),o 4 (.box 69 (.t 1)),o 6 (.mov (.v (.int .i64 0)))]) (.seq (.seq (.ops [o 17 (.ldn 3 (.t 3)),o 18 (.ldn 3 (.t 4)),o 19 (.call 136 [(.t 17),(.t 18)]),om 20 2,o 21 (.lenL (.t 20)),o 22 (.bin .gtr 3 true (.t 21) (.v (.int .i64 65536))),o 23 (.call 116 [(.t 22),(.v (.int .i64 5))]),o 24 (.bsl 26 1 2 [(.int .i64 0),(.int .i64 0)] [(0,1,(.t 19)),(1,1,(.t 23))]),o 25 (.call 89 [(.t 24)]),om 7 25]) (.seq (.ops [om 26 7,o 27 (.bin .neq 26 true (.t 26) (.v (.int .i64 0)))]) (.cond (.t 27) (.seq (.ops [om 28 7,om 6 28]) .ret) .skip))) (.seq (.ops [o 29 (.raw (.makeMap 222 none)),om 8 29]) (.seq (.seq (.ops [om 30 2,o 31 (.lenL (.t 30)),o 32 (.mov (.v (.int .i64 0)))]) (.block 0 (.loop r70_l0))) r70_e)))):=rfl
theorem r70_l0_eq:r70_l0=(.seq (.ops [o 33 (.bin .lss 3 false (.t 32) (.t 31))]) (.seq (.cond (.t 33) .skip (.exit 0)) (.seq (.block 1 (.seq (.ops [om 34 32,o 35 (.ixa 2 (.t 30) (.t 32)),o 36 (.ldn 2 (.t 35)),o 10 (.al [(.int .i64 0),(.int .i64 0)] 116),om 9 34,oS (.st 2 (.t 10) (.t 36))]) (.seq r70_c (.seq r70_d (.ops [om 82 8,o 83 (.ldn 2 (.t 10)),oS (.raw (.mapUpdate 222 (.tmp 82) (.tmp 83) (.const (.bool true))))]))))) (.ops [o 84 (.bin .add 3 true (.t 32) (.v (.int .i64 1))),om 32 84])))):=rfl
noncomputable def r143:RC:=(.seq (.ops [o 2 (.box 116 (.t 0)),o 3 (.box 116 (.t 1)),o 4 (.mov (.v (.bool false)))]) (.seq (.ops [o 5 (.ixp 2 1 (.t 2) (.v (.int .i64 0))),o 6 (.ld1 (.t 5)),o 7 (.ixp 2 1 (.t 3) (.v (.int .i64 0))),o 8 (.ld1 (.t 7)),o 9 (.bin .gtr 3 false (.t 6) (.t 8)),om 10 9,oF 11 10 (.ixp 2 1 (.t 2) (.v (.int .i64 0))),oF 12 10 (.ld1 (.t 11)),oF 13 10 (.ixp 2 1 (.t 3) (.v (.int .i64 0))),oF 14 10 (.ld1 (.t 13)),oF 15 10 (.bin .eql 3 false (.t 12) (.t 14)),oF 16 10 (.mov (.t 15)),oT 17 16 (.ixp 2 1 (.t 2) (.v (.int .i64 1))),oT 18 16 (.ld1 (.t 17)),oT 19 16 (.ixp 2 1 (.t 3) (.v (.int .i64 1))),oT 20 16 (.ld1 (.t 19)),oT 21 16 (.bin .gtr 3 false (.t 18) (.t 20)),oF 22 10 (.pick (.t 16) (.t 21) (.v (.bool false))),o 23 (.pick (.t 10) (.v (.bool true)) (.t 22)),om 4 23]) .ret))
theorem k143:fnRC 143=some ([.tmp 4],r143):=by kernel_rfl
noncomputable def r144_l0:RC:=(.seq (.seq (.ops [om 6 5,om 7 0,o 8 (.lenL (.t 7)),o 9 (.bin .lss 3 false (.t 6) (.t 8))]) (.cond (.t 9) .skip (.exit 0))) (.seq (.block 1 (.seq (.drw 6 [om 12 0,om 13 5,o 14 (.ixa 2 (.t 12) (.t 13)),o 15 (.ldn 2 (.t 14)),o 16 (.ldn 2 (.t 3)),o 17 (.bin .eql 116 false (.t 15) (.t 16))]) (.cond (.t 17) (.seq (.ops [o 4 (.mov (.v (.bool true)))]) .ret) .skip))) (.ops [om 10 5,o 11 (.bin .add 3 true (.t 10) (.v (.int .i64 1))),om 5 11])))
noncomputable def r144:RC:=(.seq (.ops [o 3 (.box 116 (.t 1)),o 4 (.mov (.v (.bool false)))]) (.seq (.seq (.ops [o 5 (.mov (.v (.int .i64 0)))]) (.block 0 (.loop r144_l0))) (.seq (.ops [o 4 (.mov (.v (.bool false)))]) .ret)))
theorem k144:fnRC 144=some ([.tmp 4],r144):=by kernel_rfl
noncomputable def r72_l0:RC:=(.seq (.seq (.drw 14 [om 43 11,o 44 (.bin .gtr 3 true (.t 43) (.v (.int .i64 0))),om 45 44,oT 46 45 (.mov (.t 9)),oT 47 45 (.mov (.t 11)),oT 48 45 (.bin .sub 3 true (.t 47) (.v (.int .i64 1))),oT 49 45 (.ixa 2 (.t 46) (.t 48)),oT 50 45 (.ldn 2 (.t 49)),oT 51 45 (.mov (.t 9)),oT 52 45 (.mov (.t 11)),oT 53 45 (.ixa 2 (.t 51) (.t 52)),oT 54 45 (.ldn 2 (.t 53)),oT 55 45 (.call 143 [(.t 50),(.t 54)]),o 56 (.pick (.t 45) (.t 55) (.v (.bool false)))]) (.cond (.t 56) .skip (.exit 2))) (.seq (.block 3 (.drw 18 [om 59 9,om 60 11,om 61 9,om 62 11,o 63 (.bin .sub 3 true (.t 62) (.v (.int .i64 1))),om 64 9,om 65 11,o 66 (.bin .sub 3 true (.t 65) (.v (.int .i64 1))),o 67 (.ixa 2 (.t 64) (.t 66)),o 68 (.ldn 2 (.t 67)),om 69 9,om 70 11,o 71 (.ixa 2 (.t 69) (.t 70)),o 72 (.ldn 2 (.t 71)),o 73 (.ixa 2 (.t 59) (.t 60)),
 ⟨none,none,none,true,.st 2 (.t 73) (.t 68)⟩,o 74 (.ixa 2 (.t 61) (.t 63)),
 ⟨none,none,none,true,.st 2 (.t 74) (.t 72)⟩])) (.ops [om 57 11,o 58 (.bin .sub 3 true (.t 57) (.v (.int .i64 1))),om 11 58])))
noncomputable def r72_l1:RC:=(.seq (.seq (.ops [om 20 10,om 21 6,o 22 (.lenL (.t 21)),o 23 (.bin .lss 3 false (.t 20) (.t 22))]) (.cond (.t 23) .skip (.exit 0))) (.seq (.block 1 (.seq (.drw 15 [om 26 9,om 27 6,om 28 10,o 29 (.ixa 3 (.t 27) (.t 28)),o 30 (.fa 0 (.t 29)),o 31 (.ld1 (.t 30)),om 32 6,om 33 10,o 34 (.ixa 3 (.t 32) (.t 33)),o 35 (.fa 1 (.t 34)),o 36 (.ld1 (.t 35)),o 37 (.bld [(.int .i64 0),(.int .i64 0)] [(0,1,(.t 31)),(1,1,(.t 36))]),
 ⟨some 38,none,some 12,false,.bsl 116 2 1 [(.int .i64 0),(.int .i64 0)] [(0,2,(.t 37))]⟩,
 ⟨some 39,none,none,true,.app 116 2 16 (.t 26) (.t 38)⟩,om 9 39]) (.seq (.ops [om 40 9,o 41 (.lenL (.t 40)),o 42 (.bin .sub 3 true (.t 41) (.v (.int .i64 1))),om 11 42]) (.block 2 (.loop r72_l0))))) (.ops [om 24 10,o 25 (.bin .add 3 true (.t 24) (.v (.int .i64 1))),om 10 25])))
noncomputable def r72:RC:=(.seq (.ops [o 2 (.box 72 (.t 0)),o 3 (.box 72 (.t 1)),o 4 (.mov (.v .nils)),o 5 (.mov (.v (.bool false)))]) (.seq (.ops [o 13 (.ldn 3 (.t 2)),o 14 (.ldn 3 (.t 3)),o 15 (.call 120 [(.t 13),(.t 14)]),om 12 15,o 16 (.ext (.t 12) 0),o 17 (.ext (.t 12) 1),o 18 (.ext (.t 12) 2),om 6 16,om 7 17,om 8 18]) (.seq (.seq (.ops [om 19 8]) (.cond (.t 19) (.seq (.ops [o 4 (.mov (.v .nils)),o 5 (.mov (.v (.bool false)))]) .ret) .skip)) (.seq (.ops [o 9 (.mov (.v .nils))]) (.seq (.seq (.ops [o 10 (.mov (.v (.int .i64 0)))]) (.block 0 (.loop r72_l1))) (.seq (.ops [om 75 9,om 4 75,o 5 (.mov (.v (.bool true)))]) .ret))))))
theorem k72:fnRC 72=some ([.tmp 4,.tmp 5],r72):=by kernel_rfl
noncomputable def r73_l0:RC:=(.seq (.seq (.ops [om 15 7,om 16 2,o 17 (.lenL (.t 16)),o 18 (.bin .lss 3 false (.t 15) (.t 17))]) (.cond (.t 18) .skip (.exit 0))) (.seq (.block 1 (.seq (.seq (.drw 22 [om 21 2,om 22 7,o 23 (.ixa 2 (.t 21) (.t 22)),o 24 (.ixp 2 1 (.t 23) (.v (.int .i64 0))),o 25 (.ld1 (.t 24)),o 26 (.fa 1 (.t 3)),o 27 (.ld1 (.t 26)),o 28 (.lenL (.t 27)),o 29 (.bin .sub 3 true (.t 28) (.v (.int .i64 1))),o 30 (.call 94 [(.t 25),(.v (.int .i64 0)),(.t 29)]),om 31 30,oF 32 31 (.mov (.t 2)),oF 33 31 (.mov (.t 7)),oF 34 31 (.ixa 2 (.t 32) (.t 33)),oF 35 31 (.ixp 2 1 (.t 34) (.v (.int .i64 1))),oF 36 31 (.ld1 (.t 35)),oF 37 31 (.fa 1 (.t 4)),oF 38 31 (.ld1 (.t 37)),oF 39 31 (.lenL (.t 38)),oF 40 31 (.bin .sub 3 true (.t 39) (.v (.int .i64 1))),oF 41 31 (.call 94 [(.t 36),(.v (.int .i64 0)),(.t 40)]),o 42 (.pick (.t 31) (.v (.bool true)) (.t 41))]) (.cond (.t 42) (.seq (.ops [o 6 (.mov (.v (.int .i64 10)))]) .ret) .skip)) (.seq (.drw 15 [om 43 7,o 44 (.bin .gtr 3 true (.t 43) (.v (.int .i64 0))),om 45 44,oT 46 45 (.mov (.t 2)),oT 47 45 (.mov (.t 7)),oT 48 45 (.ixa 2 (.t 46) (.t 47)),oT 49 45 (.ldn 2 (.t 48)),oT 50 45 (.mov (.t 2)),oT 51 45 (.mov (.t 7)),oT 52 45 (.bin .sub 3 true (.t 51) (.v (.int .i64 1))),oT 53 45 (.ixa 2 (.t 50) (.t 52)),oT 54 45 (.ldn 2 (.t 53)),oT 55 45 (.call 143 [(.t 49),(.t 54)]),oT 56 45 (.un .not (.t 55)),o 57 (.pick (.t 45) (.t 56) (.v (.bool false)))]) (.cond (.t 57) (.seq (.ops [o 6 (.mov (.v (.int .i64 11)))]) .ret) .skip)))) (.ops [om 19 7,o 20 (.bin .add 3 true (.t 19) (.v (.int .i64 1))),om 7 20])))
noncomputable def r73_l1:RC:=(.seq (.seq (.ops [om 78 11,o 79 (.fa 0 (.t 3)),o 80 (.ld1 (.t 79)),o 81 (.bin .shl 3 true (.v (.int .i64 1)) (.t 80)),o 82 (.bin .lss 3 false (.t 78) (.t 81))]) (.cond (.t 82) .skip (.exit 4))) (.seq (.block 5 (.seq (.drw 39 [o 85 (.fa 2 (.t 3)),o 86 (.ld1 (.t 85)),om 87 9,o 88 (.ixa 1 (.t 86) (.t 87)),o 89 (.ld1 (.t 88)),om 90 11,o 91 (.ixa 1 (.t 89) (.t 90)),o 92 (.ld1 (.t 91)),o 93 (.fa 2 (.t 4)),o 94 (.ld1 (.t 93)),om 95 10,o 96 (.ixa 1 (.t 94) (.t 95)),o 97 (.ld1 (.t 96)),om 98 11,o 99 (.ixa 1 (.t 97) (.t 98)),o 100 (.ld1 (.t 99)),o 101 (.bin .neq 4 false (.t 92) (.t 100)),om 102 101,oF 103 102 (.mov (.t 2)),oF 104 102 (.fa 1 (.t 3)),oF 105 102 (.ld1 (.t 104)),oF 106 102 (.mov (.t 9)),oF 107 102 (.ixa 1 (.t 105) (.t 106)),oF 108 102 (.ld1 (.t 107)),oF 109 102 (.mov (.t 11)),oF 110 102 (.ixa 1 (.t 108) (.t 109)),oF 111 102 (.ld1 (.t 110)),oF 112 102 (.fa 1 (.t 4)),oF 113 102 (.ld1 (.t 112)),oF 114 102 (.mov (.t 10)),oF 115 102 (.ixa 1 (.t 113) (.t 114)),oF 116 102 (.ld1 (.t 115)),oF 117 102 (.mov (.t 11)),oF 118 102 (.ixa 1 (.t 116) (.t 117)),oF 119 102 (.ld1 (.t 118)),oF 120 102 (.bld [(.int .i64 0),(.int .i64 0)] [(0,1,(.t 111)),(1,1,(.t 119))]),oF 121 102 (.call 144 [(.t 103),(.t 120)]),oF 122 102 (.un .not (.t 121)),o 123 (.pick (.t 102) (.v (.bool true)) (.t 122))]) (.cond (.t 123) (.seq (.ops [o 6 (.mov (.v (.int .i64 21)))]) .ret) .skip))) (.ops [om 83 11,o 84 (.bin .add 3 true (.t 83) (.v (.int .i64 1))),om 11 84])))
noncomputable def r73_l2:RC:=(.seq (.seq (.ops [om 62 8,om 63 2,o 64 (.lenL (.t 63)),o 65 (.bin .lss 3 false (.t 62) (.t 64))]) (.cond (.t 65) .skip (.exit 2))) (.seq (.block 3 (.seq (.drw 12 [om 68 2,om 69 8,o 70 (.ixa 2 (.t 68) (.t 69)),o 71 (.ixp 2 1 (.t 70) (.v (.int .i64 0))),o 72 (.ld1 (.t 71)),om 73 2,om 74 8,o 75 (.ixa 2 (.t 73) (.t 74)),o 76 (.ixp 2 1 (.t 75) (.v (.int .i64 1))),o 77 (.ld1 (.t 76)),om 9 72,om 10 77]) (.seq (.ops [o 11 (.mov (.v (.int .i64 0)))]) (.block 4 (.loop r73_l1))))) (.ops [om 66 8,o 67 (.bin .add 3 true (.t 66) (.v (.int .i64 1))),om 8 67])))
noncomputable def r73:RC:=(.seq (.ops [o 3 (.box 72 (.t 0)),o 4 (.box 72 (.t 1)),o 6 (.mov (.v (.int .i64 0)))]) (.seq (.seq (.ops [om 12 2,o 13 (.lenL (.t 12)),o 14 (.bin .gtr 3 true (.t 13) (.v (.int .i64 65536)))]) (.cond (.t 14) (.seq (.ops [o 6 (.mov (.v (.int .i64 5)))]) .ret) .skip)) (.seq (.seq (.ops [o 7 (.mov (.v (.int .i64 0)))]) (.block 0 (.loop r73_l0))) (.seq (.seq (.ops [om 58 2,o 59 (.bld [(.int .i64 0),(.int .i64 0)] [(0,1,(.v (.int .i64 0))),(1,1,(.v (.int .i64 0)))]),o 60 (.call 144 [(.t 58),(.t 59)]),o 61 (.un .not (.t 60))]) (.cond (.t 61) (.seq (.ops [o 6 (.mov (.v (.int .i64 21)))]) .ret) .skip)) (.seq (.seq (.ops [o 8 (.mov (.v (.int .i64 0)))]) (.block 2 (.loop r73_l2))) (.seq (.ops [o 6 (.mov (.v (.int .i64 0)))]) .ret))))))
theorem k73:fnRC 73=some ([.tmp 6],r73):=by kernel_rfl
noncomputable def q13_0:Code:=rawAt 13 0
theorem d13_0:rcDrc U q13_0=some (6,[(o 38 (.ldn 3 (.t 3)),none),
 (o 39 (.ldn 3 (.t 4)),some (0,1)),
 (⟨some 7,none,some 2,false,.al [(.int .i64 0),.nils,.nils] 69⟩,none),
 (⟨some 8,none,some 3,false,.al [(.int .i64 0),.nils,.nils] 69⟩,none),
 (⟨none,none,none,true,.st 3 (.t 7) (.t 38)⟩,none),
 (⟨none,none,none,true,.st 3 (.t 8) (.t 39)⟩,none)]):=by kernel_rfl
noncomputable def r13_l0:RC:=(.seq (.seq (.ops [om 113 19,om 114 17,o 115 (.lenL (.t 114)),o 116 (.bin .lss 3 false (.t 113) (.t 115))]) (.cond (.t 116) .skip (.exit 0))) (.seq (.block 1 (.seq (.drw 9 [om 119 11,om 120 19,o 121 (.ixa 2 (.t 119) (.t 120)),o 122 (.ldn 2 (.t 121)),om 123 17,om 124 19,o 125 (.ixa 2 (.t 123) (.t 124)),o 126 (.ldn 2 (.t 125)),o 127 (.bin .neq 116 false (.t 122) (.t 126))]) (.cond (.t 127) (.seq (.ops [o 6 (.mov (.v (.bool false)))]) .ret) .skip))) (.ops [om 117 19,o 118 (.bin .add 3 true (.t 117) (.v (.int .i64 1))),om 19 118])))
noncomputable def r13:RC:=(.seq (.ops [o 3 (.box 72 (.t 0)),o 4 (.box 72 (.t 1)),o 6 (.mov (.v (.bool false)))]) (.seq (.seq (.ops [o 20 (.call 16 []),o 21 (.un .not (.t 20)),om 22 21,oF 23 22 (.ldn 3 (.t 3)),oF 24 22 (.call 44 [(.t 23),(.v (.int .i64 8))]),oF 25 22 (.un .not (.t 24)),o 26 (.pick (.t 22) (.v (.bool true)) (.t 25)),om 27 26,oF 28 27 (.ldn 3 (.t 4)),oF 29 27 (.call 44 [(.t 28),(.v (.int .i64 8))]),oF 30 27 (.un .not (.t 29)),o 31 (.pick (.t 27) (.v (.bool true)) (.t 30)),om 32 31,oF 33 32 (.mov (.t 2)),oF 34 32 (.lenL (.t 33)),oF 35 32 (.bin .gtr 3 true (.t 34) (.v (.int .i64 40))),o 36 (.pick (.t 32) (.v (.bool true)) (.t 35))]) (.cond (.t 36) (.seq (.ops [o 37 (.call 16 []),om 6 37]) .ret) .skip)) (.seq (.raw q13_0) (.seq (.ops [o 41 (.ldn 3 (.t 7)),o 42 (.ldn 3 (.t 8)),o 43 (.call 68 [(.t 41),(.t 42)]),om 40 43,o 44 (.ext (.t 40) 0),o 45 (.ext (.t 40) 1),om 9 44,om 10 45]) (.seq (.ops [o 47 (.ldn 3 (.t 7)),o 48 (.ldn 3 (.t 8)),o 49 (.call 69 [(.t 47),(.t 48)]),om 46 49,o 50 (.ext (.t 46) 0),o 51 (.ext (.t 46) 1),om 11 50,om 12 51]) (.seq (.ops [o 52 (.ldn 3 (.t 7)),o 53 (.ldn 3 (.t 8)),om 54 2,o 55 (.call 70 [(.t 52),(.t 53),(.t 54)]),om 13 55]) (.seq (.ops [o 56 (.ldn 3 (.t 3)),o 57 (.ldn 3 (.t 4)),o 58 (.call 49 [(.t 56),(.t 57)]),om 14 58]) (.seq (.seq (.ops [om 59 14,o 60 (.bin .neq 3 true (.t 59) (.v (.int .i64 0)))]) (.cond (.t 60) (.seq (.ops [om 61 9,om 62 10,om 63 14,o 64 (.call 36 [(.t 61),(.t 62),(.t 63),(.v .nils)]),om 65 64,oT 66 65 (.mov (.t 11)),oT 67 65 (.lenL (.t 66)),oT 68 65 (.bin .eql 3 true (.t 67) (.v (.int .i64 0))),o 69 (.pick (.t 65) (.t 68) (.v (.bool false))),om 70 69,oT 71 70 (.mov (.t 12)),oT 72 70 (.mov (.t 14)),oT 73 70 (.bin .eql 3 false (.t 71) (.t 72)),o 74 (.pick (.t 70) (.t 73) (.v (.bool false))),om 75 74,oT 76 75 (.mov (.t 13)),oT 77 75 (.mov (.t 14)),oT 78 75 (.bin .eql 3 false (.t 76) (.t 77)),o 79 (.pick (.t 75) (.t 78) (.v (.bool false))),om 6 79]) .ret) .skip)) (.seq (.ops [o 81 (.ldn 3 (.t 3)),o 82 (.ldn 3 (.t 4)),o 83 (.call 71 [(.t 81),(.t 82)]),om 80 83,o 84 (.ext (.t 80) 0),o 85 (.ext (.t 80) 1),om 15 84,om 16 85]) (.seq (.ops [o 87 (.ldn 3 (.t 3)),o 88 (.ldn 3 (.t 4)),o 89 (.call 72 [(.t 87),(.t 88)]),om 86 89,o 90 (.ext (.t 86) 0),o 91 (.ext (.t 86) 1),om 17 90,om 18 91]) (.seq (.seq (.ops [om 92 9,om 93 10,om 94 16,o 95 (.un .not (.t 94)),o 96 (.call 37 [(.t 95),(.v (.int .i64 7))]),om 97 15,o 98 (.call 36 [(.t 92),(.t 93),(.t 96),(.t 97)]),o 99 (.un .not (.t 98)),om 100 99,oF 101 100 (.mov (.t 12)),oF 102 100 (.mov (.t 16)),oF 103 100 (.call 37 [(.t 102),(.v (.int .i64 29))]),oF 104 100 (.bin .neq 3 false (.t 101) (.t 103)),o 105 (.pick (.t 100) (.v (.bool true)) (.t 104)),om 106 105,oF 107 106 (.mov (.t 11)),oF 108 106 (.lenL (.t 107)),oF 109 106 (.mov (.t 17)),oF 110 106 (.lenL (.t 109)),oF 111 106 (.bin .neq 3 false (.t 108) (.t 110)),o 112 (.pick (.t 106) (.v (.bool true)) (.t 111))]) (.cond (.t 112) (.seq (.ops [o 6 (.mov (.v (.bool false)))]) .ret) .skip)) (.seq (.seq (.ops [o 19 (.mov (.v (.int .i64 0)))]) (.block 0 (.loop r13_l0))) (.seq (.ops [om 128 13,o 129 (.ldn 3 (.t 3)),o 130 (.ldn 3 (.t 4)),om 131 2,o 132 (.call 73 [(.t 129),(.t 130),(.t 131)]),o 133 (.bin .eql 3 false (.t 128) (.t 132)),om 6 133]) .ret)))))))))))))
theorem k13:fnRC 13=some ([.tmp 6],r13):=by kernel_rfl
abbrev Pr:=Int×Int
def encQ (p:Pr):AV:=.agg [.int .i64 p.1,.int .i64 p.2]
def abvI (p o:Pr):Bool:=decide (p.1>o.1)||(p.1==o.1&&decide (p.2>o.2))
def badI (na nb:Nat)(p:Pr):Bool:=decide (p.1<0)||(decide (p.1≥na)||(decide (p.2<0)||decide (p.2≥nb)))
def pvI (o:Option Pr)(p:Pr):Bool:=match o with|none=>false|some q=>!abvI p q
def scanI (na nb:Nat):Option Pr→List Pr→Int
 |_,[]=>0
 |q,p::l=>br (badI na nb p) 10 (br (pvI q p) 11 (scanI na nb (some p) l))
theorem l70c {ks:List K}{Post:Option AV→Prop}{na nb:Nat}{p:Pr}{A B P:Nat}{e:Env}{s:St}{la lb:Int}{nla nlb:Bool}{ra rb:List AV}{fa fb:AV}(h3:Env.get e 3=.ptr A 0)(h4:Env.get e 4=.ptr B 0)(h10:Env.get e 10=.ptr P 0)
  (gA:s.get A=some (.cells [.int .i64 la,encS nla ra,fa] 69 false 0 0))(gB:s.get B=some (.cells [.int .i64 lb,encS nlb rb,fb] 69 false 0 0))(gP:s.get P=some (.cells [.int .i64 p.1,.int .i64 p.2] 116 false 0 0))(ha:ra.length=na)(hb:rb.length=nb)
  (hk:∀e',(∀t:Nat,t<37→t≠11→Env.get e' t=Env.get e t)→Env.get e' 11=.bool (badI na nb p)→Post (goN U (finP U [.tmp 6]) ks e' s)) :
  Post (go U (finP U [.tmp 6]) ks r70_c e s):=by
 have na':=lenL_encS nla ra
 have nb':=lenL_encS nlb rb
 rw[ha] at na'
 rw[hb] at nb'
 have fin:∀(E:Env),(∀t:Nat,t<37→t≠11→Env.get E t=Env.get e t)→Env.get E 11=.bool (badI na nb p)→Post (goN U (finP U [.tmp 6]) ks E s):=fun E h1 h2=>hk E h1 h2
 clear hk
 unfold badI at fin
 cases h1:decide (p.1<0) with
 |true =>
  simp (maxSteps:=2000000) +contextual only[go_sem,↓reduceIte,r70_c,h3,h4,h10,gA,gB,gP,na',nb',h1]
  refine fin _ (fun t q1 q2=>?_) ?_
  ·have hne:∀k:Nat,37≤k→(k=t)=False:=fun k hk=>by simp;omega
   have hne2:(11=t)=False:=by simp;omega
   simp +contextual only[go_sem,↓reduceIte,hne,hne2]
  ·simp +contextual only[go_sem,↓reduceIte,h1,Bool.or_true,Bool.true_or,Bool.or_false,Bool.false_or]
 |false =>
  cases h2:decide (p.1≥na) with
  |true =>
   simp (maxSteps:=2000000) +contextual only[go_sem,↓reduceIte,r70_c,h3,h4,h10,gA,gB,gP,na',nb',h1,h2]
   refine fin _ (fun t q1 q2=>?_) ?_
   ·have hne:∀k:Nat,37≤k→(k=t)=False:=fun k hk=>by simp;omega
    have hne2:(11=t)=False:=by simp;omega
    simp +contextual only[go_sem,↓reduceIte,hne,hne2]
   ·simp +contextual only[go_sem,↓reduceIte,h1,h2,Bool.or_true,Bool.true_or,Bool.or_false,Bool.false_or]
  |false =>
   cases h5:decide (p.2<0) with
   |true =>
    simp (maxSteps:=2000000) +contextual only[go_sem,↓reduceIte,r70_c,h3,h4,h10,gA,gB,gP,na',nb',h1,h2,h5]
    refine fin _ (fun t q1 q2=>?_) ?_
    ·have hne:∀k:Nat,37≤k→(k=t)=False:=fun k hk=>by simp;omega
     have hne2:(11=t)=False:=by simp;omega
     simp +contextual only[go_sem,↓reduceIte,hne,hne2]
    ·simp +contextual only[go_sem,↓reduceIte,h1,h2,h5,Bool.or_true,Bool.true_or,Bool.or_false,Bool.false_or]
   |false =>
    cases h6:decide (p.2≥nb) with
    |true =>
     simp (maxSteps:=2000000) +contextual only[go_sem,↓reduceIte,r70_c,h3,h4,h10,gA,gB,gP,na',nb',h1,h2,h5,h6]
     refine fin _ (fun t q1 q2=>?_) ?_
     ·have hne:∀k:Nat,37≤k→(k=t)=False:=fun k hk=>by simp;omega
      have hne2:(11=t)=False:=by simp;omega
      simp +contextual only[go_sem,↓reduceIte,hne,hne2]
     ·simp +contextual only[go_sem,↓reduceIte,h1,h2,h5,h6,Bool.or_true,Bool.true_or,Bool.or_false,Bool.false_or]
    |false =>
     simp (maxSteps:=2000000) +contextual only[go_sem,↓reduceIte,r70_c,h3,h4,h10,gA,gB,gP,na',nb',h1,h2,h5,h6]
     refine fin _ (fun t q1 q2=>?_) ?_
     ·have hne:∀k:Nat,37≤k→(k=t)=False:=fun k hk=>by simp;omega
      have hne2:(11=t)=False:=by simp;omega
      simp +contextual only[go_sem,↓reduceIte,hne,hne2]
     ·simp +contextual only[go_sem,↓reduceIte,h1,h2,h5,h6,Bool.or_true,Bool.true_or,Bool.or_false,Bool.false_or]
def ck1 (bd:Bool)(o:Option Pr)(p:Pr):Int:=br bd 10 (br (pvI o p) 11 0)
theorem ord_abv (q p:Pr):decide (ordI q.1 q.2 p.1 p.2≥0)=!abvI p q:=by
 unfold ordI cmpI abvI
 have g1:decide (q.1>p.1)=decide (p.1<q.1):=rfl
 have g2:decide (q.2>p.2)=decide (p.2<q.2):=rfl
 have g3:decide (p.1>q.1)=decide (q.1<p.1):=rfl
 have g4:decide (p.2>q.2)=decide (q.2<p.2):=rfl
 rw[g1,g2,g3,g4]
 have e1:(p.1==q.1)=(!decide (q.1<p.1)&&!decide (p.1<q.1)):=by rw[Bool.eq_iff_iff];simp;omega
 rw[e1]
 have x1:¬(q.1<p.1∧p.1<q.1):=by omega
 have x2:¬(q.2<p.2∧p.2<q.2):=by omega
 cases h1:decide (q.1<p.1) <;> cases h2:decide (p.1<q.1) <;> cases h3:decide (q.2<p.2) <;> cases h4:decide (p.2<q.2) <;> first|rfl|(exfalso;simp at h1 h2 h3 h4;omega)
theorem ixa_encQ {nl:Bool}{l:List Pr}{i:Nat}(h:i<l.length):ixRA 2 (encS nl (l.map encQ)) (.int .i64 (i:Int))=some (.fp [.int .i64 l[i].1,.int .i64 l[i].2] 0):=by
 have:=ixa_encS 2 nl (l.map encQ) .i64 (i:Int) (encQ l[i]) (by omega) (by simp[h]) rfl (by omega)
 rw[this]
 rfl
theorem l70d {ks:List K}{Post:Option AV→Prop}{nl:Bool}{l:List Pr}{i P:Nat}{bd:Bool}{o:Option Pr}(hi:i<l.length)(hl:l.length≤65536){e:Env}{s:St}(h2:Env.get e 2=encS nl (l.map encQ))(h9:Env.get e 9=.int .i64 (i:Nat))(h10:Env.get e 10=.ptr P 0)(h11:Env.get e 11=.bool bd)
  (gP:s.get P=some (.cells [.int .i64 l[i].1,.int .i64 l[i].2] 116 false 0 0))(hP:P<s.next)(fr:Fr s)(ho:(i=0∧o=none)∨(0<i∧o=l[i-1]?))
  (hret:ck1 bd o l[i]≠0→Post (some (.int .i64 (ck1 bd o l[i]))))
  (hk:ck1 bd o l[i]=0→∀e' s',(∀t:Nat,t<37→t≠12→t≠6→Env.get e' t=Env.get e t)→(∀j,j<s.next→s'.get j=s.get j)→s.next≤s'.next→Fr s'→Post (goN U (finP U [.tmp 6]) ks e' s')) :
  Post (go U (finP U [.tmp 6]) ks r70_d e s):=by
 have hz:=fun (S:St) (j:Nat)=>z89 (args:=[AV.sl j 0 2 (some 2) 1]) (s:=S) rfl
 have c1:=c116 bd 10
 have hfk:=fr.at
 have hv:∀x:Bool,firstOf [br bd 10 0,br x 11 0]=br bd 10 (br x 11 0):=fun x=>by cases bd <;> cases x <;> rfl
 generalize hw:ck1 bd o l[i]=v at *
 have fin:∀(E:Env) (S:St),(∀t:Nat,t<37→t≠12→t≠6→Env.get E t=Env.get e t)→(∀j,j<s.next→S.get j=s.get j)→s.next≤S.next→Fr S→Post (br (v != 0) (some (.int .i64 v)) (goN U (finP U [.tmp 6]) ks E S)):=fun E S h1 h2 h3 h4=>by
  cases hz:v != 0 with
  |true=>rw[br_true];exact hret (by simpa using hz)
  |false=>rw[br_false];exact hk (by simpa using hz) E S h1 h2 h3 h4
 clear hret hk
 rcases ho with⟨rfl,rfl⟩|⟨h0,ho⟩
 ·have c2:=c116 false 11
  have d0:decide (((0:Nat):Int)>0)=false:=rfl
  have hv0:firstOf [br bd 10 0,0]=v:=by rw[←hw];exact hv false
  simp (maxSteps:=2000000) +contextual only[go_sem,↓reduceIte,r70_d,h2,h9,h10,h11,gP,c1,c2,d0,hz,frz_sl,frzS_cells,grab_head,grab_zero,Option.map_some,cz89_2,frzT_one,chunks_all,hv0,hfk]
  refine fin _ _ (fun t q1 q2 q3=>?_) (fun j hj=>?_) ?_ ?_
  ·have hne:∀k:Nat,37≤k→(k=t)=False:=fun k hk=>by simp;omega
   have hne2:(12=t)=False:=by simp;omega
   simp +contextual only[go_sem,↓reduceIte,hne,hne2]
  ·rw[get_put,if_neg (by omega),upto_get]
  ·rw[next_put,upto_next];omega
  ·exact (fr.upto (by omega)).put (by rw[upto_next];omega) _
 ·have hl1:i-1<l.length:=by omega
  rw[List.getElem?_eq_getElem hl1] at ho
  subst ho
  have c2:=c116 (!abvI l[i] l[i-1]) 11
  have d0:decide (((i:Nat):Int)>0)=true:=decide_eq_true (by omega)
  have hv0:firstOf [br bd 10 0,br (!abvI l[i] l[i-1]) 11 0]=v:=by rw[←hw];exact hv _
  have w1:IntKind.i64.wrap (((i:Nat):Int)-1)=((i-1:Nat):Int):=wrapN (by omega) (by omega)
  have hmx:max (0:Int) ((i-1:Nat):Int)=((i-1:Nat):Int):=by omega
  have c3:=c142 l[i-1].1 l[i-1].2 l[i].1 l[i].2
  have oa:=ord_abv l[i-1] l[i]
  have ix:=ixa_encQ (nl:=nl) hl1
  simp (maxSteps:=2000000) +contextual only[go_sem,↓reduceIte,r70_d,h2,h9,h10,h11,gP,c1,c2,c3,oa,ix,w1,hmx,d0,hz,frz_sl,frzS_cells,grab_head,grab_zero,Option.map_some,cz89_2,frzT_one,chunks_all,hv0,hfk]
  refine fin _ _ (fun t q1 q2 q3=>?_) (fun j hj=>?_) ?_ ?_
  ·have hne:∀k:Nat,37≤k→(k=t)=False:=fun k hk=>by simp;omega
   have hne2:(12=t)=False:=by simp;omega
   simp +contextual only[go_sem,↓reduceIte,hne,hne2]
  ·rw[get_put,if_neg (by omega),upto_get]
  ·rw[next_put,upto_next];omega
  ·exact (fr.upto (by omega)).put (by rw[upto_next];omega) _
def cdI (k:Nat)(p:Pr):Nat:=(p.1*k+p.2).toNat
def prevI (l:List Pr)(i:Nat):Option Pr:=if i=0 then none else l[i-1]?
structure PreI (na k:Nat)(l:List Pr)(i:Nat):Prop where
 good:∀p∈l.take i,badI na k p=false
 asc:((l.take i).map (cdI k)).Pairwise (·<·)
theorem bad_iff {na k:Nat}{p:Pr}:badI na k p=false↔0≤p.1∧p.1<na∧0≤p.2∧p.2<k:=by
 unfold badI
 simp
theorem cd_nat {na k:Nat}{p:Pr}(h:badI na k p=false):∃x y:Nat,p=((x:Int),(y:Int))∧x<na∧y<k∧cdI k p=x*k+y:=by
 obtain⟨h1,h2,h3,h4⟩:=bad_iff.1 h
 obtain⟨p1,p2⟩:=p
 simp only at h1 h2 h3 h4
 obtain⟨x,rfl⟩:=Int.eq_ofNat_of_zero_le h1
 obtain⟨y,rfl⟩:=Int.eq_ofNat_of_zero_le h3
 refine⟨x,y,rfl,by omega,by omega,?_⟩
 unfold cdI
 simp only
 have:((x:Int)*(k:Int)+(y:Int))=((x*k+y:Nat):Int):=by simp
 rw[this,Int.toNat_natCast]
theorem cd_cell {na k:Nat}{p:Pr}(h:badI na k p=false):pcell k (cdI k p)=[.int .i64 p.1,.int .i64 p.2]:=by
 obtain⟨x,y,rfl,h1,h2,h3⟩:=cd_nat h
 rw[h3,pcell,pair_div h2,pair_mod h2]
theorem cd_lt {na k:Nat}{p:Pr}(h:badI na k p=false):cdI k p<na*k:=by
 obtain⟨x,y,rfl,h1,h2,h3⟩:=cd_nat h
 rw[h3]
 exact pair_lt h1 h2
theorem cd_abv {na k:Nat}{p q:Pr}(h:badI na k p=false)(h':badI na k q=false):abvI p q=true↔cdI k q<cdI k p:=by
 obtain⟨x,y,rfl,h1,h2,h3⟩:=cd_nat h
 obtain⟨x',y',rfl,h1',h2',h3'⟩:=cd_nat h'
 rw[h3,h3']
 unfold abvI
 simp only[Bool.or_eq_true,Bool.and_eq_true,decide_eq_true_eq,beq_iff_eq]
 rcases Nat.lt_trichotomy x x' with h|h|h
 ·have:(x+1)*k≤x'*k:=Nat.mul_le_mul_right k h
  rw[Nat.succ_mul] at this
  omega
 ·subst h;omega
 ·have:(x'+1)*k≤x*k:=Nat.mul_le_mul_right k h
  rw[Nat.succ_mul] at this
  omega
theorem PreI.zero (na k:Nat)(l:List Pr):PreI na k l 0:=⟨by simp,by simp⟩
theorem PreI.put {na k:Nat}{l:List Pr}{i:Nat}(h:PreI na k l i)(hi:i<l.length)(hb:badI na k l[i]=false)(hp:pvI (prevI l i) l[i]=false):PreI na k l (i+1)∧cdI k l[i]∉(l.take i).map (cdI k):=by
 have hlt:∀p∈l.take i,cdI k p<cdI k l[i]:=by
  intro p hpm
  cases i with
  |zero=>simp at hpm
  |succ i =>
   have hi':i<l.length:=by omega
   have ht:l.take (i+1)=l.take i++[l[i]]:=by rw[List.take_succ_eq_append_getElem hi']
   have hq:prevI l (i+1)=some l[i]:=by unfold prevI;simp[hi']
   rw[hq] at hp
   unfold pvI at hp
   have hgq:=h.good l[i] (by rw[ht];exact List.mem_append_right _ (List.mem_singleton.2 rfl))
   have h1:=(cd_abv hb hgq).1 (by simpa using hp)
   have ha:=h.asc
   rw[ht,List.map_append,List.pairwise_append] at ha
   rw[ht] at hpm
   rcases List.mem_append.1 hpm with h2|h2
   ·have:=ha.2.2 (cdI k p) (List.mem_map.2 ⟨p,h2,rfl⟩) (cdI k l[i]) (by simp)
    omega
   ·rw[List.mem_singleton.1 h2];exact h1
 have ht:l.take (i+1)=l.take i++[l[i]]:=by rw[List.take_succ_eq_append_getElem hi]
 refine⟨⟨fun p hpm=>?_,?_⟩,fun hm=>?_⟩
 ·rw[ht] at hpm
  rcases List.mem_append.1 hpm with h2|h2
  ·exact h.good p h2
  ·rw[List.mem_singleton.1 h2];exact hb
 ·rw[ht,List.map_append,List.pairwise_append]
  refine⟨h.asc,by simp,fun a ha b hb=>?_⟩
  obtain⟨p,hp1,rfl⟩:=List.mem_map.1 ha
  simp only[List.map_cons,List.map_nil,List.mem_singleton] at hb
  subst hb
  exact hlt p hp1
 ·obtain⟨p,hp1,hp2⟩:=List.mem_map.1 hm
  have:=hlt p hp1
  omega
theorem scan_step {na nb:Nat}{l:List Pr}{i:Nat}(hi:i<l.length):scanI na nb (prevI l i) (l.drop i)=br (badI na nb l[i]) 10 (br (pvI (prevI l i) l[i]) 11 (scanI na nb (prevI l (i+1)) (l.drop (i+1)))):=by
 rw[List.drop_eq_getElem_cons hi,scanI]
 have hq:prevI l (i+1)=some l[i]:=by unfold prevI;simp[hi]
 rw[hq]
theorem ck1_ne {bd:Bool}{o:Option Pr}{p:Pr}{v:Int}(h:ck1 bd o p≠0):(br bd 10 (br (pvI o p) 11 v):Int)=ck1 bd o p:=by
 unfold ck1 at *
 cases bd with
 |true=>rfl
 |false =>
  cases hx:pvI o p with
  |true=>rfl
  |false=>rw[hx] at h;exact absurd rfl h
theorem ck1_zero {bd:Bool}{o:Option Pr}{p:Pr}(h:ck1 bd o p=0):bd=false∧pvI o p=false:=by
 unfold ck1 at *
 cases bd with
 |true=>simp[br] at h
 |false =>
  cases hx:pvI o p with
  |true=>rw[hx] at h;simp[br] at h
  |false=>exact⟨rfl,rfl⟩
theorem update222 {s:St}{m k:Nat}{ks:List Nat}(h:s.get m=some (.map (entP k (fun _=>.bool true) ks 0) false)){c:Nat}(hc:c∉ks):updateA U 222 (.map m) (.agg (pcell k c)) (.bool true) s=some (s.put m (.map (entP k (fun _=>.bool true) (ks++[c]) 0) false)):=by
 have hu:U.und 222=some (.map 116 4):=by kernel_rfl
 have hk:keyOk U 116 (.agg (pcell k c))=true:=by
  have h1:U.und 116=some (.array 2 3):=by kernel_rfl
  have h2:U.und 3=some (.int .i64):=by kernel_rfl
  have h3:size U 3=some 1:=by kernel_rfl
  simp only[keyOk,h1,h2,h3,pcell]
  rfl
 have:=putA_entP k (fun _=>.bool true) c ks 0 hc
 unfold updateA
 rw[hu]
 simp only[hk,if_true,h,this]
theorem lookup222 {s:St}{m k:Nat}{ks:List Nat}(h:s.get m=some (.map (entP k (fun _=>.bool true) ks 0) false))(c:Nat):lookupA U 222 (.map m) (.agg (pcell k c)) false s=some (.bool (decide (idxN ks c<ks.length))):=by
 have hu:U.und 222=some (.map 116 4):=by kernel_rfl
 have hz:zero U 4=some (.bool false):=by kernel_rfl
 have hk:keyOk U 116 (.agg (pcell k c))=true:=by
  have h1:U.und 116=some (.array 2 3):=by kernel_rfl
  have h2:U.und 3=some (.int .i64):=by kernel_rfl
  have h3:size U 3=some 1:=by kernel_rfl
  simp only[keyOk,h1,h2,h3,pcell]
  rfl
 unfold lookupA
 rw[hu]
 simp only[hk,if_true,h,findA_entP]
 cases decide (idxN ks c<ks.length) with
 |true=>rfl
 |false=>simp only[cond_false,hz];rfl
theorem l70a {ks:List K}{Post:Option AV→Prop}{nl:Bool}{l:List Pr}{na k A B mp:Nat}(hl:l.length≤65536){e:Env}{s:St}{la lb:Int}{nla nlb:Bool}{ra rb:List AV}{fa fb:AV}
  (h2:Env.get e 2=encS nl (l.map encQ))(h3:Env.get e 3=.ptr A 0)(h4:Env.get e 4=.ptr B 0)(h8:Env.get e 8=.map mp)(h30:Env.get e 30=encS nl (l.map encQ))(h31:Env.get e 31=.int .i64 (l.length:Nat))(h32:Env.get e 32=.int .i64 (0:Nat))
  (gA:s.get A=some (.cells [.int .i64 la,encS nla ra,fa] 69 false 0 0))(gB:s.get B=some (.cells [.int .i64 lb,encS nlb rb,fb] 69 false 0 0))(ha:ra.length=na)(hb:rb.length=k)
  (gm:s.get mp=some (.map [] false))(hA:A<s.next)(hB:B<s.next)(hm:mp<s.next)(hAm:mp≠A)(hBm:mp≠B)(fr:Fr s)
  (hret:scanI na k none l≠0→Post (some (.int .i64 (scanI na k none l))))
  (hk:scanI na k none l=0→PreI na k l l.length→∀e' s',(∀t:Nat,t<9→t≠6→Env.get e' t=Env.get e t)→s'.get mp=some (.map (entP k (fun _=>.bool true) (l.map (cdI k)) 0) false)→(∀j,j<s.next→j≠mp→s'.get j=s.get j)→s.next≤s'.next→Fr s'→Post (goN U (finP U [.tmp 6]) ks e' s')) :
  Post (goL U (finP U [.tmp 6]) (.bk 0::ks) r70_l0 e s):=by
 refine loop_ex (σ:=Nat) (fun i=>l.length-i) (fun i e' s'=>i≤l.length∧(∀t:Nat,t<9∨t=30∨t=31→t≠6→Env.get e' t=Env.get e t)∧Env.get e' 32=.int .i64 (i:Nat)∧s'.get mp=some (.map (entP k (fun _=>.bool true) ((l.take i).map (cdI k)) 0) false)∧(∀j,j<s.next→j≠mp→s'.get j=s.get j)∧s.next≤s'.next∧Fr s'∧scanI na k (prevI l i) (l.drop i)=scanI na k none l∧PreI na k l i) 0 ?_
  ⟨Nat.zero_le _,fun _ _ _=>rfl,h32,by rw[List.take_zero];exact gm,fun _ _ _=>rfl,Nat.le_refl _,fr,rfl,PreI.zero ..⟩
 rintro Lp i e' s' ⟨hi0,hold,q32,qm,hs,hnx,fr',hrun,hpre⟩ IH
 have q2:=(hold 2 (by omega) (by omega)).trans h2
 have q3:=(hold 3 (by omega) (by omega)).trans h3
 have q4:=(hold 4 (by omega) (by omega)).trans h4
 have q8:=(hold 8 (by omega) (by omega)).trans h8
 have q30:=(hold 30 (by omega) (by omega)).trans h30
 have q31:=(hold 31 (by omega) (by omega)).trans h31
 have uA:=(hs A hA hAm.symm).trans gA
 have uB:=(hs B hB hBm.symm).trans gB
 rw[r70_l0_eq]
 by_cases hd:i<l.length
 ·have hw:=wrap_succ hd (by omega)
  have ix:=ixa_encQ (nl:=nl) hd
  have hfk:=fr'.at
  have hst:=scan_step (na:=na) (nb:=k) hd
  rw[hrun] at hst
  simp (maxSteps:=2000000) +contextual only[go_sem,↓reduceIte,q30,q31,q32,nat_lt_dec,hd,ix,hfk]
  obtain⟨S,hS⟩:∃S,S=(s'.new (.cells [.int .i64 0,.int .i64 0] 116 false 0 0)).put s'.next (.cells [.int .i64 l[i].1,.int .i64 l[i].2] 116 false 0 0):=⟨_,rfl⟩
  rw[←hS]
  have hSn:S.next=s'.next+1:=by rw[hS,next_put,next_new]
  have kS:∀j,j<s'.next→S.get j=s'.get j:=fun j h1=>by rw[hS,get_put,if_neg (by omega),get_new,if_neg (by omega)]
  have uS:S.get s'.next=some (.cells [.int .i64 l[i].1,.int .i64 l[i].2] 116 false 0 0):=by rw[hS,get_put,if_pos rfl]
  have frS:Fr S:=by rw[hS];exact (fr'.new _).put (by rw[next_new];omega) _
  refine l70c (Post:=Post) (na:=na) (nb:=k) (p:=l[i]) (A:=A) (B:=B) (P:=s'.next) ?_ ?_ ?_ ((kS A (by omega)).trans uA) ((kS B (by omega)).trans uB) uS ha hb ?_
  ·simp +contextual only[go_sem,↓reduceIte,q3]
  ·simp +contextual only[go_sem,↓reduceIte,q4]
  ·simp +contextual only[go_sem,↓reduceIte]
  intro e1 E1 e11
  simp (maxSteps:=2000000) +contextual only[go_sem,↓reduceIte]
  have E1':∀t:Nat,t<9∨t=30∨t=31∨t=32→t≠6→Env.get e1 t=Env.get e' t:=fun t h1 h2=>by
   rw[E1 t (by omega) (by omega)]
   have n1:(33=t)=False:=by simp;omega
   have n2:(34=t)=False:=by simp;omega
   have n3:(35=t)=False:=by simp;omega
   have n4:(36=t)=False:=by simp;omega
   have n5:(10=t)=False:=by simp;omega
   have n6:(9=t)=False:=by simp;omega
   simp +contextual only[go_sem,↓reduceIte,n1,n2,n3,n4,n5,n6]
  have p9:Env.get e1 9=.int .i64 (i:Nat):=by rw[E1 9 (by omega) (by omega)];simp +contextual only[go_sem,↓reduceIte]
  have p10:Env.get e1 10=.ptr s'.next 0:=by rw[E1 10 (by omega) (by omega)];simp +contextual only[go_sem,↓reduceIte]
  refine l70d (Post:=Post) (nl:=nl) (l:=l) (i:=i) (P:=s'.next) (bd:=badI na k l[i]) (o:=prevI l i) hd hl ((E1' 2 (by omega) (by omega)).trans q2) p9 p10 e11 uS (by omega) frS ?_ ?_ ?_
  ·unfold prevI
   by_cases h0:i=0
   ·exact .inl ⟨h0,if_pos h0⟩
   ·exact .inr ⟨by omega,if_neg h0⟩
  ·intro hc
   rw[ck1_ne hc] at hst
   rw[hst] at hret
   exact hret hc
  ·intro hc e2 s2 E2 hs2 hn2 fr2
   obtain⟨hb0,hp0⟩:=ck1_zero hc
   rw[hb0,hp0,br_false,br_false] at hst
   obtain⟨hpre2,hnin⟩:=hpre.put hd hb0 hp0
   have hcell:=cd_cell hb0
   have v8:Env.get e2 8=.map mp:=by rw[E2 8 (by omega) (by omega) (by omega),E1' 8 (by omega) (by omega),q8]
   have v10:Env.get e2 10=.ptr s'.next 0:=by rw[E2 10 (by omega) (by omega) (by omega),p10]
   have v32:Env.get e2 32=.int .i64 (i:Nat):=by rw[E2 32 (by omega) (by omega) (by omega),E1' 32 (by omega) (by omega),q32]
   have w2:s2.get s'.next=some (.cells [.int .i64 l[i].1,.int .i64 l[i].2] 116 false 0 0):=(hs2 _ (by omega)).trans uS
   have hmp:mp<s'.next:=by omega
   have wm:s2.get mp=some (.map (entP k (fun _=>.bool true) ((l.take i).map (cdI k)) 0) false):=(hs2 mp (by omega)).trans ((kS mp hmp).trans qm)
   have up:=update222 wm hnin
   rw[hcell] at up
   simp (maxSteps:=2000000) +contextual only[go_sem,↓reduceIte,v8,v10,v32,w2,up,hw]
   refine IH (i+1) _ _ (by omega) ⟨by omega,fun t h1 h2=>?_,?_,?_,fun j h1 h2=>?_,?_,?_,?_,hpre2⟩
   ·have n1:(82=t)=False:=by simp;omega
    have n2:(83=t)=False:=by simp;omega
    have n3:(84=t)=False:=by simp;omega
    have n4:(32=t)=False:=by simp;omega
    simp +contextual only[go_sem,↓reduceIte,n1,n2,n3,n4]
    rw[E2 t (by omega) (by omega) h2,E1' t (by omega) h2,hold t h1 h2]
   ·simp +contextual only[go_sem,↓reduceIte]
   ·rw[get_put,if_pos rfl,List.take_succ_eq_append_getElem hd,List.map_append];rfl
   ·rw[get_put,if_neg h2.symm,hs2 j (by omega),kS j (by omega),hs j h1 h2]
   ·rw[next_put];omega
   ·exact fr2.put (by omega) _
   ·rw[←hst]
 ·have hil:i=l.length:=by omega
  subst hil
  rw[List.drop_length,scanI] at hrun
  rw[List.take_length] at qm
  simp (maxSteps:=2000000) +contextual only[go_sem,↓reduceIte,q30,q31,q32,nat_lt_dec,Nat.lt_irrefl]
  exact hk hrun.symm hpre _ _ (fun t h1 h2=>by
   have hne:(33=t)=False:=by simp;omega
   simp +contextual only[go_sem,↓reduceIte,hne,hold t (.inl h1) h2]) qm hs hnx fr'
def okx (a b:Auto)(C:List Nat)(c x:Nat):Bool:=(a.fa.fr (c / b.fa.n) x==b.fa.fr (c%b.fa.n) x)&&decide (idxN C ((prodF a.fa b.fa).nx c x)<C.length)
def okR (a b:Auto)(C:List Nat)(c:Nat)(x:Nat):Bool:=(List.range x).all (okx a b C c)
theorem okR_succ (a b:Auto)(C:List Nat)(c x:Nat):okR a b C c (x+1)=(okR a b C c x&&okx a b C c x):=by
 unfold okR
 rw[List.range_succ,List.all_append]
 simp
theorem l70e {ks:List K}{Post:Option AV→Prop}{a b:Auto}(ha:a.ok)(hb:b.ok)(hlb:a.lines=b.lines){A B mp P c:Nat}{C:List Nat}{p0:Bool}(hc:c<(prodF a.fa b.fa).n)
  {e:Env}{s:St}(h3:Env.get e 3=.ptr A 0)(h4:Env.get e 4=.ptr B 0)(h8:Env.get e 8=.map mp)(h13:Env.get e 13=.bool p0)(h15:Env.get e 15=.ptr P 0)(h103:Env.get e 103=.int .i64 ((2^a.lines.toNat:Nat):Int))(h104:Env.get e 104=.int .i64 (0:Nat))
  (gA:s.get A=some (.cells [.int .i64 a.lines,encS a.nNl (a.next.map encRow),encS a.fNl (a.fires.map encFRow)] 69 false 0 0))(gB:s.get B=some (.cells [.int .i64 b.lines,encS b.nNl (b.next.map encRow),encS b.fNl (b.fires.map encFRow)] 69 false 0 0))
  (gm:s.get mp=some (.map (entP b.fa.n (fun _=>.bool true) C 0) false))(gP:s.get P=some (.cells (pcell b.fa.n c) 116 false 0 0))
  (hA:A<s.next)(hB:B<s.next)(hm:mp<s.next)(hP:P<s.next)(fr:Fr s)
  (hk:∀e' s',(∀t:Nat,t<104→t≠13→t≠16→Env.get e' t=Env.get e t)→Env.get e' 13=.bool (p0&&okR a b C c (2^a.lines.toNat))→(∀j,j<s.next→s'.get j=s.get j)→s.next≤s'.next→Fr s'→Post (goN U (finP U [.tmp 6]) ks e' s')) :
  Post (goL U (finP U [.tmp 6]) (.bk 4::ks) r70_l1 e s):=by
 have hm16:=ha.m16
 have hc1:c / b.fa.n<a.next.length:=Nat.div_lt_of_lt_mul (by rw[Nat.mul_comm];exact hc)
 have hc2:c%b.fa.n<b.next.length:=Nat.mod_lt _ hb.pos
 refine loop_ex (σ:=Nat) (fun x=>2^a.lines.toNat-x) (fun x e' s'=>x≤2^a.lines.toNat∧(∀t:Nat,t<104→t≠13→t≠16→Env.get e' t=Env.get e t)∧Env.get e' 104=.int .i64 (x:Nat)∧Env.get e' 13=.bool (p0&&okR a b C c x)∧(∀j,j<s.next→s'.get j=s.get j)∧s.next≤s'.next∧Fr s') 0 ?_
  ⟨Nat.zero_le _,fun _ _ _ _=>rfl,h104,by rw[h13];simp[okR],fun _ _=>rfl,Nat.le_refl _,fr⟩
 rintro Lp x e' s' ⟨hx0,hold,q104,q13,hs,hnx,fr'⟩ IH
 have q3:=(hold 3 (by omega) (by omega) (by omega)).trans h3
 have q4:=(hold 4 (by omega) (by omega) (by omega)).trans h4
 have q8:=(hold 8 (by omega) (by omega) (by omega)).trans h8
 have q15:=(hold 15 (by omega) (by omega) (by omega)).trans h15
 have q103:=(hold 103 (by omega) (by omega) (by omega)).trans h103
 have uA:=(hs A hA).trans gA
 have uB:=(hs B hB).trans gB
 have um:=(hs mp hm).trans gm
 have uP:=(hs P hP).trans gP
 unfold pcell at uP
 by_cases hd:x<2^a.lines.toNat
 ·have hw:=wrap_succ hd (by omega)
  have hpn:=pcell_nx hb hlb hc hd
  have n1:=ha.nxAt hc1 hd
  have n2:=hb.nxAt hc2 (by rw[←hlb];exact hd)
  have n3:=ha.frAt hc1 hd
  have n4:=hb.frAt hc2 (by rw[←hlb];exact hd)
  have r1:=ixa_rowI (nl:=a.nNl) hc1
  have r2:=ixa_rowI (nl:=b.nNl) hc2
  have r3:=ixa_rowB (nl:=a.fNl) (l:=a.fires) (i:=c / b.fa.n) (by rw[ha.fl];exact hc1)
  have r4:=ixa_rowB (nl:=b.fNl) (l:=b.fires) (i:=c%b.fa.n) (by rw[hb.fl];exact hc2)
  have lk:=fun (S:St) (h:S.get mp=some (.map (entP b.fa.n (fun _=>.bool true) C 0) false))=>lookup222 h ((prodF a.fa b.fa).nx c x)
  rw[hpn] at lk
  have hfk:=fr'.at
  have key:∀(E:Env) (S:St),(∀t:Nat,t<104→t≠13→t≠16→Env.get E t=Env.get e' t)→Env.get E 104=.int .i64 ((x+1:Nat):Int)→Env.get E 13=.bool (p0&&okR a b C c (x+1))→(∀j,j<s'.next→S.get j=s'.get j)→s'.next≤S.next→Fr S→Post (goL U (finP U [.tmp 6]) (.bk 4::ks) Lp E S):=fun E S k1 k2 k3 k4 k5 k6 =>
   IH (x+1) _ _ (by omega) ⟨by omega,fun t h1 h2 h3=>(k1 t h1 h2 h3).trans (hold t h1 h2 h3),k2,k3,fun j hj=>(k4 j (by omega)).trans (hs j hj),by omega,k6⟩
  have hnt:∀t:Nat,t<104→t≠13→t≠16→(13=t)=False∧(16=t)=False∧∀k:Nat,104≤k→(k=t)=False:=fun t h1 h2 h3=>⟨by simp;omega,by simp;omega,fun k hk=>by simp;omega⟩
  rw[okR_succ] at key
  cases hp:(p0&&okR a b C c x) with
  |false =>
   rw[hp] at q13
   rw[←Bool.and_assoc,hp,Bool.false_and] at key
   simp (maxSteps:=2000000) +contextual only[go_sem,↓reduceIte,r70_l1,q3,q4,q8,q13,q15,q103,q104,uA,uB,um,uP,nat_lt_dec,hd,hw,r1,r2,r3,r4,n1,n2,n3,n4,hfk]
   refine key _ _ (fun t h1 h2 h3=>?_) ?_ ?_ (fun j hj=>?_) ?_ ?_
   ·obtain⟨n13,n16,hne⟩:=hnt t h1 h2 h3
    simp +contextual only[go_sem,↓reduceIte,n13,n16,hne]
   ·simp +contextual only[go_sem,↓reduceIte]
   ·simp +contextual only[go_sem,↓reduceIte]
   ·simp only[get_put,get_new,upto_get]
   ·simp only[next_put,next_new,upto_next];omega
   ·exact fr'.upto (by omega)
  |true =>
   rw[hp] at q13
   rw[←Bool.and_assoc,hp,Bool.true_and] at key
   unfold okx at key
   cases hq:(a.fa.fr (c / b.fa.n) x==b.fa.fr (c%b.fa.n) x) with
   |false =>
    rw[hq,Bool.false_and] at key
    simp (maxSteps:=2000000) +contextual only[go_sem,↓reduceIte,r70_l1,q3,q4,q8,q13,q15,q103,q104,uA,uB,um,uP,nat_lt_dec,hd,hw,r1,r2,r3,r4,n1,n2,n3,n4,hfk,bin_eqb,hq]
    refine key _ _ (fun t h1 h2 h3=>?_) ?_ ?_ (fun j hj=>?_) ?_ ?_
    ·obtain⟨n13,n16,hne⟩:=hnt t h1 h2 h3
     simp +contextual only[go_sem,↓reduceIte,n13,n16,hne]
    ·simp +contextual only[go_sem,↓reduceIte]
    ·simp +contextual only[go_sem,↓reduceIte]
    ·simp only[get_put,get_new,upto_get]
    ·simp only[next_put,next_new,upto_next];omega
    ·exact fr'.upto (by omega)
   |true =>
    rw[hq,Bool.true_and] at key
    simp (maxSteps:=2000000) +contextual only[go_sem,↓reduceIte,r70_l1,q3,q4,q8,q13,q15,q103,q104,uA,uB,um,uP,nat_lt_dec,hd,hw,r1,r2,r3,r4,n1,n2,n3,n4,hfk,bin_eqb,hq,lk]
    refine key _ _ (fun t h1 h2 h3=>?_) ?_ ?_ (fun j hj=>?_) ?_ ?_
    ·obtain⟨n13,n16,hne⟩:=hnt t h1 h2 h3
     simp +contextual only[go_sem,↓reduceIte,n13,n16,hne]
    ·simp +contextual only[go_sem,↓reduceIte]
    ·simp +contextual only[go_sem,↓reduceIte]
    ·simp only[get_put,get_new,upto_get]
    ·simp only[next_put,next_new,upto_next];omega
    ·exact fr'.upto (by omega)
 ·have hxe:x=2^a.lines.toNat:=by omega
  subst hxe
  simp (maxSteps:=2000000) +contextual only[go_sem,↓reduceIte,r70_l1,q103,q104,nat_lt_dec,Nat.lt_irrefl]
  refine hk _ _ (fun t h1 h2 h3=>?_) ?_ hs hnx fr'
  ·have hne:∀k:Nat,104≤k→(k=t)=False:=fun k hk=>by simp;omega
   simp +contextual only[go_sem,↓reduceIte,hne]
   exact hold t h1 h2 h3
  ·simp +contextual only[go_sem,↓reduceIte,q13]
def okCd (a b:Auto)(C:List Nat)(c:Nat):Bool:=okR a b C c (2^a.lines.toNat)
theorem l70f {ks:List K}{Post:Option AV→Prop}{a b:Auto}(ha:a.ok)(hb:b.ok)(hlb:a.lines=b.lines){nl:Bool}{l:List Pr}(hl:l.length≤65536)(hg:∀p∈l,badI a.fa.n b.fa.n p=false){A B mp:Nat}{C:List Nat}{p0:Bool}
  {e:Env}{s:St}(h3:Env.get e 3=.ptr A 0)(h4:Env.get e 4=.ptr B 0)(h8:Env.get e 8=.map mp)(h13:Env.get e 13=.bool p0)(h95:Env.get e 95=encS nl (l.map encQ))(h96:Env.get e 96=.int .i64 (l.length:Nat))(h97:Env.get e 97=.int .i64 (0:Nat))
  (gA:s.get A=some (.cells [.int .i64 a.lines,encS a.nNl (a.next.map encRow),encS a.fNl (a.fires.map encFRow)] 69 false 0 0))(gB:s.get B=some (.cells [.int .i64 b.lines,encS b.nNl (b.next.map encRow),encS b.fNl (b.fires.map encFRow)] 69 false 0 0))
  (gm:s.get mp=some (.map (entP b.fa.n (fun _=>.bool true) C 0) false))
  (hA:A<s.next)(hB:B<s.next)(hm:mp<s.next)(fr:Fr s)
  (hk:∀e' s',Env.get e' 13=.bool (p0&&(l.map (cdI b.fa.n)).all (okCd a b C))→Fr s'→Post (goN U (finP U [.tmp 6]) ks e' s')) :
  Post (goL U (finP U [.tmp 6]) (.bk 2::ks) r70_l2 e s):=by
 have hsh:=bin_shl1 U 3 true .i64 (n:=a.lines) (by have:=ha.lines;omega)
 have hpw:((2:Int)^a.lines.toNat)=((2^a.lines.toNat:Nat):Int):=by simp
 rw[hpw] at hsh
 refine loop_ex (σ:=Nat) (fun i=>l.length-i) (fun i e' s'=>i≤l.length∧(∀t:Nat,t<97→t≠13→t≠15→t≠16→Env.get e' t=Env.get e t)∧Env.get e' 97=.int .i64 (i:Nat)∧Env.get e' 13=.bool (p0&&((l.take i).map (cdI b.fa.n)).all (okCd a b C))∧(∀j,j<s.next→s'.get j=s.get j)∧s.next≤s'.next∧Fr s') 0 ?_
  ⟨Nat.zero_le _,fun _ _ _ _ _=>rfl,h97,by rw[h13];simp,fun _ _=>rfl,Nat.le_refl _,fr⟩
 rintro Lp i e' s' ⟨hi0,hold,q97,q13,hs,hnx,fr'⟩ IH
 have q3:=(hold 3 (by omega) (by omega) (by omega) (by omega)).trans h3
 have q4:=(hold 4 (by omega) (by omega) (by omega) (by omega)).trans h4
 have q8:=(hold 8 (by omega) (by omega) (by omega) (by omega)).trans h8
 have q95:=(hold 95 (by omega) (by omega) (by omega) (by omega)).trans h95
 have q96:=(hold 96 (by omega) (by omega) (by omega) (by omega)).trans h96
 have uA:=(hs A hA).trans gA
 have uB:=(hs B hB).trans gB
 have um:=(hs mp hm).trans gm
 by_cases hd:i<l.length
 ·have hw:=wrap_succ hd (by omega)
  have ix:=ixa_encQ (nl:=nl) hd
  have hgi:=hg l[i] (List.getElem_mem hd)
  have hc:=cd_lt hgi
  have hcell:=cd_cell hgi
  have f1:(s'.next=A)=False:=by simp;omega
  have htk:((l.take (i+1)).map (cdI b.fa.n)).all (okCd a b C)=(((l.take i).map (cdI b.fa.n)).all (okCd a b C)&&okCd a b C (cdI b.fa.n l[i])):=by
   rw[List.take_succ_eq_append_getElem hd,List.map_append,List.all_append]
   simp
  simp (maxSteps:=2000000) +contextual only[go_sem,↓reduceIte,r70_l2,q3,q95,q96,q97,uA,f1,nat_lt_dec,hd,ix,hsh]
  obtain⟨S,hS⟩:∃S,S=(s'.new (.cells [.int .i64 0,.int .i64 0] 116 false 0 0)).put s'.next (.cells [.int .i64 l[i].1,.int .i64 l[i].2] 116 false 0 0):=⟨_,rfl⟩
  rw[←hS]
  have hSn:S.next=s'.next+1:=by rw[hS,next_put,next_new]
  have kS:∀j,j<s'.next→S.get j=s'.get j:=fun j h1=>by rw[hS,get_put,if_neg (by omega),get_new,if_neg (by omega)]
  have uS:S.get s'.next=some (.cells [.int .i64 l[i].1,.int .i64 l[i].2] 116 false 0 0):=by rw[hS,get_put,if_pos rfl]
  have frS:Fr S:=by rw[hS];exact (fr'.new _).put (by rw[next_new];omega) _
  rw[←hcell] at uS
  refine l70e (Post:=Post) ha hb hlb (A:=A) (B:=B) (mp:=mp) (P:=s'.next) (C:=C) (p0:=(p0&&((l.take i).map (cdI b.fa.n)).all (okCd a b C))) hc ?_ ?_ ?_ ?_ ?_ ?_ ?_ ((kS A (by omega)).trans uA) ((kS B (by omega)).trans uB) ((kS mp (by omega)).trans um) uS (by omega) (by omega) (by omega) (by omega) frS ?_
  case refine_8 =>
   intro e2 s2 E2 e13 hs2 hn2 fr2
   have E97:Env.get e2 97=.int .i64 (i:Nat):=by
    rw[E2 97 (by omega) (by omega) (by omega)]
    simp +contextual only[go_sem,↓reduceIte,q97]
   simp (maxSteps:=2000000) +contextual only[go_sem,↓reduceIte,E97,hw]
   refine IH (i+1) _ _ (by omega) ⟨by omega,fun t h1 h2 h3 h4=>?_,?_,?_,fun j h1=>?_,by omega,fr2⟩
   ·have hne:∀k:Nat,97≤k→(k=t)=False:=fun k hk=>by simp;omega
    have n15:(15=t)=False:=by simp;omega
    simp +contextual only[go_sem,↓reduceIte,hne]
    rw[E2 t (by omega) h2 h4]
    simp +contextual only[go_sem,↓reduceIte,hne,n15]
    exact hold t h1 h2 h3 h4
   ·simp +contextual only[go_sem,↓reduceIte]
   ·simp +contextual only[go_sem,↓reduceIte,e13,htk]
    rw[Bool.and_assoc];rfl
   ·rw[hs2 j (by omega),kS j (by omega),hs j h1]
  all_goals simp +contextual only[go_sem,↓reduceIte,q3,q4,q8,q13]
  all_goals rfl
 ·have hie:i=l.length:=by omega
  subst hie
  rw[List.take_length] at q13
  simp (maxSteps:=2000000) +contextual only[go_sem,↓reduceIte,r70_l2,q96,q97,nat_lt_dec,Nat.lt_irrefl]
  exact hk _ _ (by simp +contextual only[go_sem,↓reduceIte,q13]) fr'
theorem bin_eqP (a b c d:Int):binA U .eql 116 false (.agg [.int .i64 a,.int .i64 b]) (.agg [.int .i64 c,.int .i64 d])=some (.bool (a==c&&b==d)):=by
 have hk:U.eqOk 116=true:=by kernel_rfl
 have hu:U.und 116=some (.array 2 3):=by kernel_rfl
 have h3:U.und 3=some (.int .i64):=by kernel_rfl
 have hs:size U 3=some 1:=by kernel_rfl
 have ha:isAggT U 3=some false:=by kernel_rfl
 simp only[binA,eqTop,hk,if_true]
 rw[show (20:Nat)=18+1+1 from rfl]
 simp only[eqT,hu,hs]
 simp[eqElems,partA,ha,hs,eqT,h3,grab]
 cases a==c <;> cases b==d <;> rfl
def hd0:List Pr→Bool|[]=>false|p::_=>p.1==0&&p.2==0
def prv (a b:Auto)(l:List Pr):Bool:=hd0 l&&(l.map (cdI b.fa.n)).all (okCd a b (l.map (cdI b.fa.n)))
def ckQ (a b:Auto)(l:List Pr):Int:=bif scanI a.fa.n b.fa.n none l != 0 then scanI a.fa.n b.fa.n none l else br (!prv a b l) 21 0
def ckRel (a b:Auto)(l:List Pr):Int:=bif chkTwo a b != 0 then chkTwo a b else ckQ a b l
theorem l70h {ks:List K}{Post:Option AV→Prop}{a b:Auto}(ha:a.ok)(hb:b.ok)(hlb:a.lines=b.lines){nl:Bool}{l:List Pr}(hl:l.length≤65536)(hg:∀p∈l,badI a.fa.n b.fa.n p=false){A B mp:Nat}
  {e:Env}{s:St}(h2:Env.get e 2=encS nl (l.map encQ))(h3:Env.get e 3=.ptr A 0)(h4:Env.get e 4=.ptr B 0)(h8:Env.get e 8=.map mp)
  (gA:s.get A=some (.cells [.int .i64 a.lines,encS a.nNl (a.next.map encRow),encS a.fNl (a.fires.map encFRow)] 69 false 0 0))(gB:s.get B=some (.cells [.int .i64 b.lines,encS b.nNl (b.next.map encRow),encS b.fNl (b.fires.map encFRow)] 69 false 0 0))
  (gm:s.get mp=some (.map (entP b.fa.n (fun _=>.bool true) (l.map (cdI b.fa.n)) 0) false))
  (hA:A<s.next)(hB:B<s.next)(hm:mp<s.next)(fr:Fr s)
  (hk:Post (some (.int .i64 (br (!prv a b l) 21 0)))) :
  Post (go U (finP U [.tmp 6]) ks r70_e e s):=by
 have ll:=lenL_encS nl (l.map encQ)
 rw[List.length_map] at ll
 have c1:=c116 (!prv a b l) 21
 have key:∀(e1:Env),(∀t:Nat,t<9→Env.get e1 t=Env.get e t)→Env.get e1 95=encS nl (l.map encQ)→Env.get e1 96=.int .i64 (l.length:Nat)→Env.get e1 97=.int .i64 (0:Nat)→Env.get e1 13=.bool (hd0 l)→Post (goL U (finP U [.tmp 6]) (.bk 2::.sq (.seq (.ops [o 154 (.mov (.t 13)),o 155 (.un .not (.t 154)),o 156 (.call 116 [(.t 155),(.v (.int .i64 21))]),o 6 (.mov (.t 156))]) .ret)::ks) r70_l2 e1 s):=by
  intro e1 k1 k95 k96 k97 k13
  refine l70f (Post:=Post) ha hb hlb hl hg (A:=A) (B:=B) (mp:=mp) (C:=l.map (cdI b.fa.n)) (p0:=hd0 l) ((k1 3 (by omega)).trans h3) ((k1 4 (by omega)).trans h4) ((k1 8 (by omega)).trans h8) k13 k95 k96 k97 gA gB gm hA hB hm fr ?_
  intro e2 s2 p13 fr2
  have p13:Env.get e2 13=.bool (prv a b l):=p13
  simp (maxSteps:=2000000) +contextual only[go_sem,↓reduceIte,p13,c1]
  exact hk
 cases l with
 |nil =>
  have d0:decide (((0:Nat):Int)>0)=false:=rfl
  rw[List.length_nil] at ll
  simp (maxSteps:=2000000) +contextual only[go_sem,↓reduceIte,r70_e,h2,ll,d0]
  refine key _ (fun t ht=>?_) ?_ ?_ ?_ ?_
  ·have hne:∀k:Nat,9≤k→(k=t)=False:=fun k hk=>by simp;omega
   simp +contextual only[go_sem,↓reduceIte,hne]
  all_goals simp +contextual only[go_sem,↓reduceIte]
  all_goals rfl
 |cons p l =>
  have d0:decide ((((l.length+1:Nat)):Int)>0)=true:=decide_eq_true (by omega)
  rw[List.length_cons] at ll
  have ix:ixRA 2 (encS nl ((p::l).map encQ)) (.int .i64 0)=some (.fp [.int .i64 p.1,.int .i64 p.2] 0):=ixa_encQ (nl:=nl) (l:=p::l) (i:=0) (by simp)
  have e0:=bin_eqP p.1 p.2 0 0
  simp (maxSteps:=2000000) +contextual only[go_sem,↓reduceIte,r70_e,h2,ll,d0,ix,e0]
  refine key _ (fun t ht=>?_) ?_ ?_ ?_ ?_
  ·have hne:∀k:Nat,9≤k→(k=t)=False:=fun k hk=>by simp;omega
   simp +contextual only[go_sem,↓reduceIte,hne]
  all_goals simp +contextual only[go_sem,↓reduceIte]
  all_goals rfl
theorem c70 (a b:Auto)(ha:a.next.length≤2^40)(hra:∀r∈a.next,r.2.length≤2^40)(hb:b.next.length≤2^40)(hrb:∀r∈b.next,r.2.length≤2^40){nl:Bool}{l:List Pr}(hl:l.length≤65536):calV U 70 [encA a,encA b,encS nl (l.map encQ)]=some (.int .i64 (ckRel a b l)):=by
 refine pure_go k70 (by kernel_rfl) (by simp[stills,still_encA,still_encS,still]) ?_
 have h136:=c136 a b ha hra hb hrb
 unfold ckRel
 have nn:=noAgg_encS a.nNl (a.next.map encRow)
 have nf:=noAgg_encS a.fNl (a.fires.map encFRow)
 have cn:=cells_encS a.nNl (a.next.map encRow)
 have cf:=cells_encS a.fNl (a.fires.map encFRow)
 have nn':=noAgg_encS b.nNl (b.next.map encRow)
 have nf':=noAgg_encS b.fNl (b.fires.map encFRow)
 have cn':=cells_encS b.nNl (b.next.map encRow)
 have cf':=cells_encS b.fNl (b.fires.map encFRow)
 have ll:=lenL_encS nl (l.map encQ)
 rw[List.length_map] at ll
 have hz:=fun (S:St) (j:Nat)=>z89 (args:=[AV.sl j 0 2 (some 2) 1]) (s:=S) rfl
 have d5:decide (((l.length:Nat):Int)>65536)=false:=decide_eq_false (by omega)
 have c1:=c116 false 5
 have hv:firstOf [chkTwo a b,0]=chkTwo a b:=by
  rw[firstOf]
  cases hq:chkTwo a b != 0 with
  |true=>rfl
  |false =>
   have h0:chkTwo a b=0:=by simpa using hq
   rw[h0];rfl
 rw[r70_eq]
 cases hc:chkTwo a b != 0 with
 |true =>
  rw[encA_eq a,encA_eq b] at h136 ⊢
  unfold encN encFs at h136 ⊢
  simp (maxSteps:=2000000) +contextual only[go_sem,↓reduceIte,nn,nf,cn,cf,nn',nf',cn',cf',h136,hc,cond_true,ll,d5,c1,hz,frz_sl,frzS_cells,grab_head,grab_zero,Option.map_some,cz89_2,frzT_one,chunks_all,hv]
 |false =>
  have h0:chkTwo a b=0:=by simpa using hc
  obtain⟨oa,ob,hlb⟩:=chkTwo_ok h0
  rw[encA_eq a,encA_eq b] at h136 ⊢
  unfold encN encFs at h136 ⊢
  simp (maxSteps:=2000000) +contextual only[go_sem,↓reduceIte,nn,nf,cn,cf,nn',nf',cn',cf',h136,hc,cond_false,ll,d5,c1,hz,frz_sl,frzS_cells,grab_head,grab_zero,Option.map_some,cz89_2,frzT_one,chunks_all,hv]
  refine l70a (Post:=fun (o:Option AV)=>o=some (.int .i64 (ckQ a b l))) (nl:=nl) (l:=l) (na:=a.fa.n) (k:=b.fa.n) (A:=8) (B:=9) (mp:=11) (la:=a.lines) (lb:=b.lines) (nla:=a.nNl) (nlb:=b.nNl) (ra:=a.next.map encRow) (rb:=b.next.map encRow) (fa:=encS a.fNl (a.fires.map encFRow)) (fb:=encS b.fNl (b.fires.map encFRow)) hl ?_ ?_ ?_ ?_ ?_ ?_ ?_ ?_ ?_ ?_ ?_ ?_ ?_ ?_ ?_ ?_ ?_ ?_ ?_ ?_
  case refine_19 =>
   intro hs
   have:scanI a.fa.n b.fa.n none l != 0:=by simpa using hs
   rw[ckQ,this,cond_true]
  case refine_20 =>
   intro hs hpre e' s' E hm' hs' hn' fr'
   have hs0:(scanI a.fa.n b.fa.n none l != 0)=false:=by simpa using hs
   have e2:Env.get e' 2=encS nl (l.map encQ):=by rw[E 2 (by omega) (by omega)];simp +contextual only[go_sem,↓reduceIte]
   have e3:Env.get e' 3=.ptr 8 0:=by rw[E 3 (by omega) (by omega)];simp +contextual only[go_sem,↓reduceIte]
   have e4:Env.get e' 4=.ptr 9 0:=by rw[E 4 (by omega) (by omega)];simp +contextual only[go_sem,↓reduceIte]
   have e8:Env.get e' 8=.map 11:=by rw[E 8 (by omega) (by omega)];simp +contextual only[go_sem,↓reduceIte]
   have hgood:∀p∈l,badI a.fa.n b.fa.n p=false:=by have:=hpre.good;rwa [List.take_length] at this
   have uA:=hs' 8 (by simp +contextual only[go_sem,↓reduceIte]) (by decide)
   have uB:=hs' 9 (by simp +contextual only[go_sem,↓reduceIte]) (by decide)
   simp +contextual only[go_sem,↓reduceIte] at hn'
   refine l70h (Post:=fun (o:Option AV)=>o=some (.int .i64 (ckQ a b l))) oa ob hlb (nl:=nl) hl hgood (A:=8) (B:=9) (mp:=11) e2 e3 e4 e8 (uA.trans ?_) (uB.trans ?_) hm' (by omega) (by omega) (by omega) fr' ?_
   case refine_3=>rw[ckQ,hs0,cond_false]
   all_goals simp +contextual only[go_sem,↓reduceIte]
  case refine_10=>rw[List.length_map];rfl
  case refine_11=>rw[List.length_map];rfl
  case refine_18 =>
   repeat first|exact Fr.own|apply Fr.new|apply Fr.put|apply Fr.upto
   all_goals simp +contextual only[go_sem,↓reduceIte]
  all_goals simp +contextual only[go_sem,↓reduceIte]
  all_goals first|rfl|omega|decide
theorem c143 (p q:Pr):calV U 143 [encQ p,encQ q]=some (.bool (abvI p q)):=by
 refine pure_go k143 (by kernel_rfl) rfl ?_
 unfold abvI encQ
 cases h1:decide (p.1>q.1) with
 |true=>simp (maxSteps:=2000000) +contextual only[go_sem,↓reduceIte,r143,h1,Bool.true_or]
 |false =>
  cases h2:p.1==q.1 with
  |true=>simp (maxSteps:=2000000) +contextual only[go_sem,↓reduceIte,r143,h1,h2,Bool.false_or,Bool.true_and]
  |false=>simp (maxSteps:=2000000) +contextual only[go_sem,↓reduceIte,r143,h1,h2,Bool.false_or,Bool.false_and]
def eqP (p q:Pr):Bool:=p.1==q.1&&p.2==q.2
theorem c144 {nl:Bool}{l:List Pr}(hl:l.length≤65536)(p:Pr):calV U 144 [encS nl (l.map encQ),encQ p]=some (.bool (l.any fun q=>eqP q p)):=by
 refine pure_go k144 (by kernel_rfl) (by simp[stills,still_encS,still,encQ]) ?_
 rw[show encQ p=.agg [.int .i64 p.1,.int .i64 p.2] from rfl]
 have ll:=lenL_encS nl (l.map encQ)
 rw[List.length_map] at ll
 simp (maxSteps:=2000000) +contextual only[go_sem,↓reduceIte,r144]
 refine loop_ex (Post:=fun (o:Option AV)=>o=some (.bool (l.any fun q=>eqP q p))) (σ:=Nat) (fun i=>l.length-i) (fun i e' s'=>i≤l.length∧Env.get e' 0=encS nl (l.map encQ)∧Env.get e' 3=.ptr 8 0∧Env.get e' 5=.int .i64 (i:Nat)∧s'.get 8=some (.cells [.int .i64 p.1,.int .i64 p.2] 116 false 0 0)∧9≤s'.next∧Fr s'∧((l.drop i).any fun q=>eqP q p)=(l.any fun q=>eqP q p)) 0 ?_
  ⟨Nat.zero_le _,?_,?_,?_,?_,?_,?_,rfl⟩
 ·rintro Lp i e' s' ⟨hi,q0,q3,q5,u8,hnx,fr',hrun⟩ IH
  by_cases hd:i<l.length
  ·have hw:=wrap_succ hd (by omega)
   have ix:=ixa_encQ (nl:=nl) hd
   have hfk:=fr'.at
   have e0:=bin_eqP l[i].1 l[i].2 p.1 p.2
   rw[List.drop_eq_getElem_cons hd,List.any_cons] at hrun
   cases hq:eqP l[i] p with
   |true =>
    rw[hq,Bool.true_or] at hrun
    rw[←hrun]
    have hq:(l[i].1==p.1&&l[i].2==p.2)=true:=hq
    simp (maxSteps:=2000000) +contextual only[go_sem,↓reduceIte,r144_l0,q0,q3,q5,u8,ll,nat_lt_dec,hd,ix,hfk,e0,hq]
   |false =>
    rw[hq,Bool.false_or] at hrun
    have hq:(l[i].1==p.1&&l[i].2==p.2)=false:=hq
    simp (maxSteps:=2000000) +contextual only[go_sem,↓reduceIte,r144_l0,q0,q3,q5,u8,ll,nat_lt_dec,hd,hw,ix,hfk,e0,hq]
    refine IH (i+1) _ _ (by omega) ⟨by omega,?_,?_,?_,?_,?_,?_,hrun⟩
    case refine_4=>rw[upto_get];exact u8
    case refine_5=>rw[upto_next];omega
    case refine_6=>exact fr'.upto (by omega)
    all_goals simp +contextual only[go_sem,↓reduceIte,q0,q3]
  ·have hie:i=l.length:=by omega
   subst hie
   rw[List.drop_length,List.any_nil] at hrun
   simp (maxSteps:=2000000) +contextual only[go_sem,↓reduceIte,r144_l0,q0,q5,ll,nat_lt_dec,Nat.lt_irrefl,←hrun]
 all_goals first
  |exact Fr.own.new _
  |(simp +contextual only[go_sem,↓reduceIte];done)
  |(simp +contextual only[go_sem,↓reduceIte];rfl)
theorem eqP_code {na k:Nat}{q:Pr}{c:Nat}(hq:badI na k q=false)(hk:0<k):eqP q (((c / k:Nat):Int),((c%k:Nat):Int))=(cdI k q==c):=by
 obtain⟨x,y,rfl,h1,h2,h3⟩:=cd_nat hq
 unfold eqP
 rw[h3]
 simp only
 rw[Bool.eq_iff_iff]
 simp only[Bool.and_eq_true,beq_iff_eq]
 have hm:=Nat.mod_lt c hk
 have hdm:=Nat.div_add_mod c k
 constructor
 ·rintro⟨h4,h5⟩
  have h4:x=c / k:=by omega
  have h5:y=c%k:=by omega
  rw[h4,h5,Nat.mul_comm]
  exact hdm
 ·intro h
  subst h
  have e1:(x*k+y) / k=x:=pair_div h2
  have e2:(x*k+y)%k=y:=pair_mod h2
  rw[e1,e2]
  exact⟨rfl,rfl⟩
theorem any_code {na k:Nat}(hk:0<k)(c:Nat):∀{l:List Pr},(∀p∈l,badI na k p=false)→(l.any fun q=>eqP q (((c / k:Nat):Int),((c%k:Nat):Int)))=decide (idxN (l.map (cdI k)) c<(l.map (cdI k)).length):=by
 intro l hg
 have h1:=idxN_lt (l.map (cdI k)) c
 rw[Bool.eq_iff_iff,decide_eq_true_eq,h1,List.any_eq_true,List.mem_map]
 constructor
 ·rintro⟨q,hq,he⟩
  rw[eqP_code (hg q hq) hk] at he
  exact⟨q,hq,by simpa using he⟩
 ·rintro⟨q,hq,he⟩
  exact⟨q,hq,by rw[eqP_code (hg q hq) hk];simpa using he⟩
theorem hd0_any {na k:Nat}{l:List Pr}(h:PreI na k l l.length):(l.any fun q=>eqP q (0,0))=hd0 l:=by
 obtain⟨hg,ha⟩:=h
 rw[List.take_length] at hg ha
 cases l with
 |nil=>rfl
 |cons p l =>
  rw[List.any_cons]
  have hr:(l.any fun q=>eqP q (0,0))=false:=by
   rw[List.any_eq_false]
   intro q hq he
   obtain⟨x,y,rfl,h1,h2,h3⟩:=cd_nat (hg p (by simp))
   obtain⟨x',y',rfl,h1',h2',h3'⟩:=cd_nat (hg q (by simp[hq]))
   have he:(((x':Int)==0)&&((y':Int)==0))=true:=he
   simp at he
   obtain⟨rfl,rfl⟩:=he
   rw[List.map_cons,List.pairwise_cons] at ha
   have:=ha.1 _ (List.mem_map.2 ⟨_,hq,rfl⟩)
   rw[h3,h3'] at this
   omega
  rw[hr,Bool.or_false]
  rfl
theorem badO (na k:Nat)(p:Pr):badI na k p=(outside p.1 0 ((na:Int)-1)||outside p.2 0 ((k:Int)-1)):=by
 unfold badI outside
 have e1:decide (p.1≥na)=decide (p.1>(na:Int)-1):=by rw[Bool.eq_iff_iff];simp;omega
 have e2:decide (p.2≥k)=decide (p.2>(k:Int)-1):=by rw[Bool.eq_iff_iff];simp;omega
 rw[e1,e2,Bool.or_assoc]
theorem l73a {ks:List K}{Post:Option AV→Prop}{nl:Bool}{l:List Pr}{na k:Nat}(hna:na≤2^40)(hnk:k≤2^40)(hl:l.length≤65536){e:Env}{s:St}{la lb:Int}{nla nlb:Bool}{ra rb:List AV}{fa fb:AV}
  (h2:Env.get e 2=encS nl (l.map encQ))(h3:Env.get e 3=.ptr 8 0)(h4:Env.get e 4=.ptr 9 0)(h7:Env.get e 7=.int .i64 (0:Nat))
  (gA:s.get 8=some (.cells [.int .i64 la,encS nla ra,fa] 72 false 0 0))(gB:s.get 9=some (.cells [.int .i64 lb,encS nlb rb,fb] 72 false 0 0))(ha:ra.length=na)(hb:rb.length=k)(hnx0:10≤s.next)(fr:Fr s)
  (hret:scanI na k none l≠0→Post (some (.int .i64 (scanI na k none l))))
  (hk:scanI na k none l=0→PreI na k l l.length→∀e' s',(∀t:Nat,t<7→t≠6→Env.get e' t=Env.get e t)→(∀j,j<s.next→s'.get j=s.get j)→s.next≤s'.next→Fr s'→Post (goN U (finP U [.tmp 6]) ks e' s')) :
  Post (goL U (finP U [.tmp 6]) (.bk 0::ks) r73_l0 e s):=by
 have ll:=lenL_encS nl (l.map encQ)
 rw[List.length_map] at ll
 have na':=lenL_encS nla ra
 have nb':=lenL_encS nlb rb
 rw[ha] at na'
 rw[hb] at nb'
 have wa:IntKind.i64.wrap ((na:Int)-1)=(na:Int)-1:=by rw[wrap_i64] <;> omega
 have wb:IntKind.i64.wrap ((k:Int)-1)=(k:Int)-1:=by rw[wrap_i64] <;> omega
 refine loop_ex (σ:=Nat) (fun i=>l.length-i) (fun i e' s'=>i≤l.length∧(∀t:Nat,t<7→t≠6→Env.get e' t=Env.get e t)∧Env.get e' 7=.int .i64 (i:Nat)∧(∀j,j<s.next→s'.get j=s.get j)∧s.next≤s'.next∧Fr s'∧scanI na k (prevI l i) (l.drop i)=scanI na k none l∧PreI na k l i) 0 ?_
  ⟨Nat.zero_le _,fun _ _ _=>rfl,h7,fun _ _=>rfl,Nat.le_refl _,fr,rfl,PreI.zero ..⟩
 rintro Lp i e' s' ⟨hi0,hold,q7,hs,hnx,fr',hrun,hpre⟩ IH
 have q2:=(hold 2 (by omega) (by omega)).trans h2
 have q3:=(hold 3 (by omega) (by omega)).trans h3
 have q4:=(hold 4 (by omega) (by omega)).trans h4
 have uA:=(hs 8 (by omega)).trans gA
 have uB:=(hs 9 (by omega)).trans gB
 by_cases hd:i<l.length
 ·have hw:=wrap_succ hd (by omega)
  have ix:=ixa_encQ (nl:=nl) hd
  have hfk:=fr'.at
  have hst:=scan_step (na:=na) (nb:=k) hd
  rw[hrun] at hst
  have x1:=c94 l[i].1 0 ((na:Int)-1)
  have x2:=c94 l[i].2 0 ((k:Int)-1)
  have hbo:=badO na k l[i]
  have key:∀(E:Env) (S:St),badI na k l[i]=false→pvI (prevI l i) l[i]=false→(∀t:Nat,t<7→t≠6→Env.get E t=Env.get e' t)→Env.get E 7=.int .i64 ((i+1:Nat):Int)→(∀j,j<s'.next→S.get j=s'.get j)→s'.next≤S.next→Fr S→Post (goL U (finP U [.tmp 6]) (.bk 0::ks) Lp E S):=fun E S k1 k2 k3 k4 k5 k6 k7=>by
   rw[k1,k2,br_false,br_false] at hst
   exact IH (i+1) _ _ (by omega) ⟨by omega,fun t h1 h2=>(k3 t h1 h2).trans (hold t h1 h2),k4,fun j hj=>(k5 j (by omega)).trans (hs j hj),by omega,k7,hst.symm,(hpre.put hd k1 k2).1⟩
  have k10:badI na k l[i]=true→Post (some (.int .i64 10)):=fun k1=>by
   rw[k1,br_true] at hst
   rw[hst] at hret
   exact hret (by decide)
  have k11:badI na k l[i]=false→pvI (prevI l i) l[i]=true→Post (some (.int .i64 11)):=fun k1 k2=>by
   rw[k1,k2,br_true,br_false] at hst
   rw[hst] at hret
   exact hret (by decide)
  have hne:∀t:Nat,t<7→∀k:Nat,7≤k→(k=t)=False:=fun t h1 k hk=>by simp;omega
  rw[hbo] at key k10 k11
  cases hb1:outside l[i].1 0 ((na:Int)-1) with
  |true =>
   rw[hb1] at x1 k10
   rw[Bool.true_or] at k10
   simp (maxSteps:=2000000) +contextual only[go_sem,↓reduceIte,r73_l0,q2,q3,q4,q7,uA,uB,ll,na',nb',wa,wb,nat_lt_dec,hd,ix,x1,x2,hfk]
   exact k10 rfl
  |false =>
   rw[hb1] at x1 k10 k11 key
   rw[Bool.false_or] at k10 k11 key
   cases hb2:outside l[i].2 0 ((k:Int)-1) with
   |true =>
    rw[hb2] at x2
    simp (maxSteps:=2000000) +contextual only[go_sem,↓reduceIte,r73_l0,q2,q3,q4,q7,uA,uB,ll,na',nb',wa,wb,nat_lt_dec,hd,ix,x1,x2,hfk]
    exact k10 hb2
   |false =>
    rw[hb2] at x2 k10 k11 key
    by_cases h0:i=0
    ·subst h0
     have d0:decide (((0:Nat):Int)>0)=false:=rfl
     have hp0:pvI (prevI l 0) l[0]=false:=rfl
     simp (maxSteps:=2000000) +contextual only[go_sem,↓reduceIte,r73_l0,q2,q3,q4,q7,uA,uB,ll,na',nb',wa,wb,nat_lt_dec,hd,ix,x1,x2,hfk,d0,hw]
     refine key _ _ rfl hp0 (fun t h1 h2=>?_) ?_ (fun j hj=>?_) ?_ ?_
     ·simp +contextual only[go_sem,↓reduceIte,hne t h1]
     ·simp +contextual only[go_sem,↓reduceIte]
     ·simp only[get_put,get_new,upto_get]
     ·simp only[next_put,next_new,upto_next];omega
     ·repeat first|exact fr'|apply Fr.upto
      all_goals try simp only[next_put,next_new,upto_next]
      all_goals omega
    ·have hl1:i-1<l.length:=by omega
     have d0:decide (((i:Nat):Int)>0)=true:=decide_eq_true (by omega)
     have w1:IntKind.i64.wrap (((i:Nat):Int)-1)=((i-1:Nat):Int):=wrapN (by omega) (by omega)
     have ix1:=ixa_encQ (nl:=nl) hl1
     have c3:=c143 l[i] l[i-1]
     unfold encQ at c3
     have hpe:pvI (prevI l i) l[i]=!abvI l[i] l[i-1]:=by
      unfold prevI
      rw[if_neg h0,List.getElem?_eq_getElem hl1]
      rfl
     rw[hpe] at key k11
     cases hab:abvI l[i] l[i-1] with
     |true =>
      rw[hab] at c3 key
      simp (maxSteps:=2000000) +contextual only[go_sem,↓reduceIte,r73_l0,q2,q3,q4,q7,uA,uB,ll,na',nb',wa,wb,nat_lt_dec,hd,ix,x1,x2,hfk,d0,hw,w1,ix1,c3]
      refine key _ _ rfl rfl (fun t h1 h2=>?_) ?_ (fun j hj=>?_) ?_ ?_
      ·simp +contextual only[go_sem,↓reduceIte,hne t h1]
      ·simp +contextual only[go_sem,↓reduceIte]
      ·simp only[get_put,get_new,upto_get]
      ·simp only[next_put,next_new,upto_next];omega
      ·repeat first|exact fr'|apply Fr.upto
       all_goals try simp only[next_put,next_new,upto_next]
       all_goals omega
     |false =>
      rw[hab] at c3 k11
      simp (maxSteps:=2000000) +contextual only[go_sem,↓reduceIte,r73_l0,q2,q3,q4,q7,uA,uB,ll,na',nb',wa,wb,nat_lt_dec,hd,ix,x1,x2,hfk,d0,hw,w1,ix1,c3]
      exact k11 rfl rfl
 ·have hil:i=l.length:=by omega
  subst hil
  rw[List.drop_length,scanI] at hrun
  simp (maxSteps:=2000000) +contextual only[go_sem,↓reduceIte,r73_l0,q2,q7,ll,nat_lt_dec,Nat.lt_irrefl]
  exact hk hrun.symm hpre _ _ (fun t h1 h2=>by
   have hne:∀k:Nat,7≤k→(k=t)=False:=fun k hk=>by simp;omega
   simp +contextual only[go_sem,↓reduceIte,hne,hold t h1 h2]) hs hnx fr'
end Go.Am
