/- A part of the proof of a statement of this seat: the machine on which the program is read, and what it computes; for every input. -/
import Derived.Test.YtkmaeondbkpajaaGreatDoorN11
import Derived.Test.YtkmaeondbkpajaaGreatDoorN06
set_option linter.all false
namespace Go.Am
open Go
variable [Z3]
set_option maxRecDepth 100000
set_option maxHeartbeats 8000000
theorem adv {b n k:Nat}(h:k<=n):EM 1 (.sl b 0 n none 1) none (some (.int .i64 (k:Int)))=some (.sl b 0 k none 1):=by
 have e1:Y5 (some (.int .i64 (k:Int))) n n=some k:=by simp[Y5];omega
 have e2:Y5 none 0 k=some 0:=by simp[Y5]
 simp only[EM,Option.getD_none,e1,e2,ae3,ad4,if_true,Option.map_none,Nat.sub_zero]
theorem tT (Yu:Nat->Nat->List Nat)(m f:Nat)(p:Pt):K9 Yu m f p []=p:=by
 cases f <;> rfl
theorem tS (A:Fa)(x c:Nat):(Qa A x c).length<=A.n:=by
 unfold Qa;have:=List.length_filter_le (fun u=>A.nx u x==c) (List.range A.n);rw[afN] at this;exact this
theorem ae {β:Type}{fin:Fl->β}{ks:List K}{ZV:β->Prop}{A:Fa}(hA:A.ok){pb bl bp bs bb be bm N B lo hi F:Nat}{bx:Nat->Nat}{vs:Nat->Nat->AV}{p:Pt}{W:List Nat}{wv:AV}{e:Env}{s:St}(hn:A.n<=2^9)(hm:A.m<=2^8)(h:O8 s pb A.n bl bp bs bb be bm p)(hH:rO A p W)(hF:F<=2^12)(hme:2*(A.n-p.bg.length)+W.length<=F)
  (g3:Env.get e 3=.ptr pb 0)(g4:Env.get e 4=.sl B 0 A.m (some A.m) 1)(g8:Env.get e 8=wv)
  (hW:QH s N W wv)(me:∀j,Yn wv j->Yj pb bl bp bs bb be bm j/\Ou lo hi j)(hN:N<=s.next)
  (hB:F' s B A.m A.n (Qa A) lo hi bx vs)(rL:∀j,Ou lo hi j\/Yj pb bl bp bs bb be bm j)(fr:Fr s)
  (hk:∀e' s' R7 R6 R5,Env.get e' 3=.ptr pb 0->O8 s' pb A.n bl bp bs R7 R6 R5 (K9 (Qa A) A.m F p W)->ZV (goN U fin ks e' s')) :
  ZV (Vx U fin (.bk 6::ks) Lk e s):=by
 have lts:=h.su;have hle:=hB.le;refine ZC (σ:=Nat) (fun f=>f) (fun f e' s'=>f<=F/\Env.get e' 3=.ptr pb 0/\Env.get e' 4=.sl B 0 A.m (some A.m) 1/\s.next<=s'.next/\Fr s' /\
   ∃p' W' R8 R7 R6 R5,Env.get e' 8=R8/\O8 s' pb A.n bl bp bs R7 R6 R5 p'/\rO A p' W'/\2*(A.n-p'.bg.length)+W'.length<=f/\K9 (Qa A) A.m f p' W'=K9 (Qa A) A.m F p W/\QH s' N W' R8/\(∀j,Yn R8 j->Yj pb bl bp bs R7 R6 R5 j/\Ou lo hi j)/\F' s' B A.m A.n (Qa A) lo hi bx vs/\(∀j,Ou lo hi j\/Yj pb bl bp bs R7 R6 R5 j)) F ?_
  ⟨aba _,g3,g4,aba _,fr,p,W,wv,bb,be,bm,g8,h,hH,hme,rfl,hW,me,hB,rL⟩
 rintro Lp f e' s' ⟨hf,q3,q4,XY,YM,p',W',R8,R7,R6,R5,q8,P,oY,iL,tR,Aa,L3,B',iK⟩ IH;have IT:=Aa.Zf;rcases List.eq_nil_or_concat W' with rfl|⟨W0,k,rfl⟩
 ·rw[tT] at tR;simp only[go_sem,Lk,q8,IT];refine hk _ _ R7 R6 R5 ?_ (by rw[<-tR];exact P);simp only[go_sem,q3]
 ·rw[List.concat_eq_append] at *;obtain⟨f,rfl⟩:∃g,f=g+1:=⟨f-1,by simp at iL;omega⟩;have KW:(W0++[k]).getLast? = some k:=by simp
  obtain⟨H2,oX⟩:=Gf hA (fun y _ c _ u=>NT A y c u) oY KW;rw[K9,KW] at tR;simp only[List.dropLast_concat] at tR H2 oX;have hkW:=oY.work k (by simp);obtain⟨k1,k2,k3⟩:=oY.wf.sp k hkW;have Te:=oY.wf.few;have aeK:=oY.wf.le;have aeL:=oY.wf.ll;have mh:W0.length+1<=F:=by simp at iL;omega
  have hlen:(W0++[k]).length=W0.length+1:=by simp
  rw[hlen] at IT;obtain⟨b,R,rfl,hg,hbn⟩:∃b R,R8=.sl b 0 (W0.length+1) none 1/\s'.get b=some (.cells (ZO (W0++[k]++R)) 3 false 0 0)/\N<=b/\b<s'.next:=by
   rcases Aa with⟨_,h⟩|⟨b,R,h1,h2,h3,h4⟩
   ·simp at h
   ·exact⟨b,R,by rw[h1,hlen],h2,h3,h4⟩
  have o1:(ZO (W0++[k]++R))[W0.length]? = some (.int .i64 (k:Nat)):=by
   rw[Y1 (by simp),GG (by simp),EB (aba _),Nat.sub_self];rfl
  have w1:IntKind.i64.wrap (((W0.length+1:Nat):Int)-1)=(W0.length:Int):=by rw[wrap_i64] <;> omega
  have Jy:decide (((W0.length+1:Nat):Int)>0)=true:=by simp
  have sl1:=adv (b:=b) (n:=W0.length+1) (k:=W0.length) (by omega);have o2:=Y1 (l:=p'.bg) (i:=k) hkW;have o3:=Y1 (l:=p'.en) (i:=k) (by omega);have ke:k<p'.en.length:=by omega
  have sl2:=iJ (b:=bl) (n:=p'.list.length) (f:=gt p'.bg k) (t:=gt p'.en k) (.inl rfl) (by omega) (by omega);have l9:=P.su;obtain⟨t1,t2,t3,t4,t5,t6,t7⟩:=l9;have c1:=adw (s:=s'.upto (s'.next+21)) (b:=bl) (f:=gt p'.bg k) (k:=gt p'.en k-gt p'.bg k) (cap:=none) (L:=p'.list) (by rw[Z0];exact P.gl) (by rw[Z_];omega) (by omega) (by omega) (by omega);have TJ:∀j q,j<s'.next->(s'.next+q=j)=False:=fun j q hj=>by simp;omega
  have lb:=hbn.2;have q1:W0.length<W0.length+1:=by omega
  simp only[go_sem,Lk,q3,q4,q8,IT,hg,o1,w1,Jy,sl1,o2,o3,hkW,ke,sl2,P.g,P.gb,P.ge,ae3,aap,c1,Option.map_none,q1];have r_:∀j x y,j<s'.next->((((s'.upto (s'.next+21)).new x).new y).get j=s'.get j):=fun j x y hj=>by
   rw[ZZ,Z',Z_,if_neg (by omega),ZZ,Z_,if_neg (by omega),Z0]
  have OI:(piece p'.list (gt p'.bg k) (gt p'.en k)).length=gt p'.en k-gt p'.bg k:=MQ (by omega);have hms:∀u∈piece p'.list (gt p'.bg k) (gt p'.en k),u<A.n:=fun u hu=>by
   obtain⟨i,h1,h2,rfl⟩:=(QI (by omega)).1 hu;exact (oY.wf.li i (by omega)).1
  refine eU (N:=N) (n:=A.n) (m:=A.m) (nx:=A.nx) (B:=B) (lo:=lo) (hi:=hi) (bx:=bx) (vs:=vs) (bf:=Qa A) (p:=p') (W:=W0) (wv:=.sl b 0 W0.length none 1) (ms:=piece p'.list (gt p'.bg k) (gt p'.en k)) (mv:=.sl (s'.next+22) 0 (gt p'.en k-gt p'.bg k) none 1) hn hm (P.mono (by simp only[Z',Z_];omega) fun j hj=>r_ j _ _ (P.lt j hj)) oY.wf oY.zero hms (by omega) (by omega) (fun y _ c _ u=>NT A y c u) (fun y _ c _=>tS A y c) ?_ ?_ ?_ ?_ ?_ ?_ (.inr ⟨b,[k]++R,rfl,?_,hbn.1,?_⟩) (fun j hj=>?_) ?_ (.inr ⟨s'.next+22,?_,?_,?_⟩) (fun j hj=>?_) (B'.keep (by simp only[Z',Z_];omega) fun j h1 h2=>r_ j _ _ (by omega)) iK ?_ ?_
  case refine_16 =>
   intro e2 s2 wv2 cb ce cm Vy sr P2 W2 WC hf2 hcb hce sn eP NA TC;simp only[Z',Z_] at NA eP WC hcb hce sn;simp only[go_sem];refine IH f _ _ (by omega) ⟨by omega,?_,?_,by omega,TC,_,_,wv2,cb,ce,cm,sr,P2,H2,by simp at iL;omega,tR,W2,fun j hj=>⟨hf2 j hj,?_⟩,?_,fun j=>?_⟩
   ·rw[Vy 3 (by omega)];simp only[go_sem,q3]
   ·rw[Vy 4 (by omega)];simp only[go_sem,q4]
   ·rcases WC j hj with h6|h6
    ·rw[Y6] at h6;exact (L3 j ((Y6 _ _ _).2 h6)).2
    ·unfold Ou;omega
   ·refine B'.keep (by omega) fun j h1 h2=>?_
    have h3:Yj pb bl bp bs R7 R6 R5 j:=by rcases iK j with h|h;unfold Ou at h;omega;exact h
    rw[eP j (by omega) h3 (fun hb=>by
     rw[Y6] at hb;have:=(L3 j ((Y6 _ _ _).2 hb)).2;unfold Ou at this;omega),r_ j _ _ (by omega)]
   ·rcases iK j with h3|h3
    ·exact .inl h3
    ·unfold Yj at h3 ⊢;unfold Ou;omega
  case refine_15=>exact ((YM.upto (by omega)).new _).new _
  case refine_14 =>
   rw[Y6] at hj;subst hj;rw[Y6];refine⟨by unfold Yj;omega,by omega⟩
  case refine_13=>simp only[Z',Z_];omega
  case refine_12=>rw[ZZ,Z',Z_,if_pos rfl];rfl
  case refine_11=>rw[OI]
  case refine_10=>simp only[Z',Z_];omega
  case refine_9 =>
   rw[Y6] at hj;exact L3 j ((Y6 _ _ _).2 hj)
  case refine_8=>simp only[Z',Z_];omega
  case refine_7=>rw[r_ _ _ _ hbn.2,hg,aft]
  all_goals simp only[go_sem,q3,q4]
  all_goals rfl
def Ru (A:Fa)(x c i:Nat):List Nat:=(List.range i).filter fun u=>A.nx u x==c
theorem IK (A:Fa)(x c i:Nat):Ru A x c (i+1)=if A.nx i x=c then Ru A x c i++[i] else Ru A x c i:=by
 unfold Ru;rw[List.range_succ,List.filter_append];by_cases e:A.nx i x=c <;> simp[e]
theorem wZ (A:Fa)(x c i:Nat):(Ru A x c i).length<=i:=by
 unfold Ru;have:=List.length_filter_le (fun u=>A.nx u x==c) (List.range i);rw[afN] at this;exact this
def Jq (f:Nat->AV)(c:Nat)(v:AV)(k:Nat):AV:=if k=c then v else f k
theorem Bv {f:Nat->AV}{n c:Nat}(h:c<n)(v:AV):lay c [v] ((List.range n).map f)=some ((List.range n).map (Jq f c v)):=by
 rw[LA _ _ _ (by simpa using h)]
 congr 1
 apply List.ext_getElem?;intro k;rw[List.getElem?_set];simp only[afs,ae7,afN,Jq];by_cases e:c=k
 ·subst e;rw[if_pos rfl,if_pos h,List.getElem?_range h];simp[Jq]
 ·rw[if_neg e];by_cases hk:k<n
  ·rw[List.getElem?_range hk];simp[Jq,Ne.symm e]
  ·rw[afz (by simp;omega)];rfl
theorem ea {β:Type}{fin:Fl->β}{ks:List K}{ZV:β->Prop}{a:ZN}(ha:a.ok){x B bX m:Nat}{Bc:List AV}{e:Env}{s:St}(hx:x<2^a.lines.toNat)
  (g4:Env.get e 4=.sl B 0 m (some m) 1)(g5:Env.get e 5=.int .i64 (x:Int))(g40:Env.get e 40=ZP a.YC (a.next.map ZX))(g41:Env.get e 41=.int .i64 a.next.length)(g42:Env.get e 42=.int .i64 (0:Nat))
  (hxm:x<m)(gB:s.get B=some (.cells Bc 39 false 0 0))(hBx:Bc[x]? = some (.sl bX 0 a.next.length (some a.next.length) 1))(gX:s.get bX=some (.cells ((List.range a.next.length).map fun _=>.ZR) 48 false 0 0))(ZQ:B≠bX)(hB:B<s.next)(hX:bX<s.next)(fr:Fr s)
  (hk:∀e' s' vs,(∀t:Nat,t<6\/7<t/\t<40->Env.get e' t=Env.get e t)->s'.get bX=some (.cells ((List.range a.next.length).map vs) 48 false 0 0)->(∀c,c<a.next.length->LW s' s.next (Ru a.fa x c a.next.length) (vs c)) ->
   (∀j,j<s.next->j≠bX->s'.get j=s.get j)->s.next<=s'.next->Fr s'->ZV (goN U fin ks e' s')) :
  ZV (Vx U fin (.bk 2::ks) OO e s):=by
 have Te:=ha.few;refine ZC (σ:=Nat) (fun i=>a.next.length-i) (fun i e' s'=>i<=a.next.length/\(∀t:Nat,t<6\/7<t/\t<42->Env.get e' t=Env.get e t)/\Env.get e' 42=.int .i64 (i:Nat)/\(∀j,j<s.next->j≠bX->s'.get j=s.get j)/\s.next<=s'.next/\Fr s' /\
   ∃vs:Nat->AV,s'.get bX=some (.cells ((List.range a.next.length).map vs) 48 false 0 0)/\(∀c,c<a.next.length->LW s' s.next (Ru a.fa x c i) (vs c))/\∀c c' j,c≠c'->c<a.next.length->c'<a.next.length->Yn (vs c) j->¬Yn (vs c') j) 0 ?_
  ⟨ae5 _,fun _ _=>rfl,g42,fun _ _ _=>rfl,aba _,fr,fun _=>.ZR,gX,fun c _=>.inl ⟨rfl,rfl⟩,fun c c' j _ _ _ h=>absurd h (XH j)⟩
 rintro Lp i e' s' ⟨Gr,hold,q42,hs,XY,YM,vs,qX,Uy,d_⟩ IH;have q4:=(hold 4 (by omega)).trans g4;have q5:=(hold 5 (by omega)).trans g5;have q40:=(hold 40 (by omega)).trans g40;have q41:=(hold 41 (by omega)).trans g41;by_cases hd:i<a.next.length
 ·have S6:=ZI hd (by omega);have U8:=Xi (nl:=a.YC) hd;have K2:=ha.DR hd hx;have hc:a.fa.nx i x<a.next.length:=ha.VK.lt i x hd hx;have gB':=(hs B hB ZQ).trans gB;have o1:=Qz vs hc;have dZ:=Uy _ hc;have LK:=wZ a.fa x (a.fa.nx i x) i;have Bu:Ru a.fa x (a.fa.nx i x) (i+1)=Ru a.fa x (a.fa.nx i x) i++[i]:=by rw[IK,if_pos rfl]
  have dY:∀c,c≠a.fa.nx i x->Ru a.fa x c (i+1)=Ru a.fa x c i:=fun c h=>by rw[IK,if_neg (fun e=>h e.symm)]
  generalize a.fa.nx i x=c at *;have ON:=fun v=>Bv (f:=vs) hc v
  have hX':bX<s'.next:=by omega
  have hBn:B<s'.next:=by omega
  have R_:=YM.at;have TJ:∀j q,j<s'.next->(j=s'.next+q)=False:=fun j q hj=>by simp;omega
  have SN:∀j q,j<s'.next->(s'.next+q=j)=False:=fun j q hj=>by simp;omega
  have z1:(bX=B)=False:=eq_false ZQ.symm;have z2:(B=bX)=False:=eq_false ZQ;have key:∀(E:Env) (S:St),(∀t:Nat,t<6\/7<t/\t<42->Env.get E t=Env.get e' t)->Env.get E 42=.int .i64 ((i+1:Nat):Int) ->
    S.get bX=some (.cells ((List.range a.next.length).map (Jq vs c (.sl (s'.next+23) 0 ((Ru a.fa x c i).length+1) none 1))) 48 false 0 0)->S.get (s'.next+23)=some (.cells (ZO (Ru a.fa x c i++[i])) 3 false 0 0) ->
    (∀j,j<s'.next->j≠bX->¬Yn (vs c) j->S.get j=s'.get j)->s'.next+23<S.next->Fr S->ZV (Vx U fin (.bk 2::ks) Lp E S):=by
   intro E S k1 k2 k3 k4 k5 k6 k7;refine IH (i+1) _ _ (by omega) ⟨by omega,fun t ht=>(k1 t ht).trans (hold t ht),k2,fun j h1 h2=>(k5 j (by omega) h2 fun h=>by have:=dZ.lt h;omega).trans (hs j h1 h2),by omega,k7,_,k3,fun d rH=>?_,fun d d' j h1 h2 h3 h4=>?_⟩
   ·unfold Jq;by_cases si:d=c
    ·subst si;rw[if_pos rfl,Bu];exact .inr ⟨s'.next+23,by simp,k4,by omega,k6⟩
    ·rw[if_neg si,dY d si];exact (Uy d rH).keep (by omega) fun j h1 h2 h3=>k5 j h1 (by omega) fun h4=>d_ d c j si rH hc h3 h4
   ·unfold Jq at h4 ⊢;by_cases si:d=c
    ·have ry:d'≠c:=by omega
     rw[if_pos si,Y6] at h4;rw[if_neg ry];intro h5;have:=(Uy d' h3).lt h5;omega
    ·rw[if_neg si] at h4;by_cases ry:d'=c
     ·rw[if_pos ry,Y6];have:=(Uy d h2).lt h4;omega
     ·rw[if_neg ry];exact d_ d d' j h1 h2 h3 h4
  have RQ:((Ru a.fa x c i).length+1)*8<=1099511627776:=by omega
  have TG:(Ru a.fa x c i).length+1<=1099511627776:=by omega
  have Bt:(0+1)*8<=1099511627776:=by omega
  have Nz:∀t:Nat,t<6\/7<t/\t<42->(6=t)=False/\(7=t)=False/\∀k:Nat,42<=k->(k=t)=False:=fun t ht=>⟨by simp;omega,by simp;omega,fun k hk=>by simp;omega⟩
  rcases dZ with⟨hv,hL⟩|⟨b,hv,hg,e1,e2⟩
  ·rw[hv] at o1 key;rw[hL] at key;simp only[go_sem,OO,q4,q5,q40,q41,q42,Z8,hd,S6,U8,K2,Tp wY,gB',hBx,qX,o1,hxm,hc,Xy,ZD,ae3,afu,Nat.reducePow,ad4,aeX,R_,hX',hBn,TJ,SN,z1,z2,Bt,ON];refine key _ _ (fun t ht=>?_) ?_ ?_ ?_ (fun j h1 h2 h3=>?_) ?_ ?_
   ·obtain⟨n6,n7,n42⟩:=Nz t ht;simp only[go_sem,n6,n7,n42]
   ·simp only[go_sem]
   ·simp only[go_sem]
    try rfl
   ·simp[go_sem,TJ,SN,hX',aeX]
    try rfl
   ·have e0:∀q,(s'.next+q=j)=False:=fun q=>by simp;omega
    simp only[Z7,ZZ,Z9,Z',Z_,Z0,aeX,Nat.reduceAdd,e0,eq_false h2.symm,if_false]
   ·simp only[Z9,Z',Z_];omega
   ·repeat first|exact YM|apply Fr.new|apply Fr.put|apply Fr.upto
    all_goals try simp only[Z9,Z',Z_]
    all_goals omega
  ·rw[hv] at o1 key;have a1:=fun (S:St) (h:S.get b=some (.cells (ZO (Ru a.fa x c i)) 3 false 0 0))=>FO rfl h i
   have z3:(bX=b)=False:=by simp;omega
   have z4:(b=bX)=False:=by simp;omega
   have z5:(b=B)=False:=by simp;omega
   have z6:(B=b)=False:=by simp;omega
   simp only[go_sem,OO,q4,q5,q40,q41,q42,Z8,hd,S6,U8,K2,Tp wY,gB',hBx,qX,o1,hxm,hc,hg,a1,ZD,ae3,afu,Nat.reducePow,ad4,aeX,R_,hX',hBn,TJ,SN,z1,z2,z3,z4,z5,z6,e2,RQ,TG,ON];refine key _ _ (fun t ht=>?_) ?_ ?_ ?_ (fun j h1 h2 h3=>?_) ?_ ?_
   ·obtain⟨n6,n7,n42⟩:=Nz t ht;simp only[go_sem,n6,n7,n42]
   ·simp only[go_sem]
   ·simp only[go_sem]
   ·simp[go_sem,TJ,SN,hX',e2,aeX]
   ·have e0:∀q,(s'.next+q=j)=False:=fun q=>by simp;omega
    rw[Y6] at h3;simp only[Z7,ZZ,Z9,Z',Z_,Z0,aeX,Nat.reduceAdd,e0,eq_false h2.symm,eq_false h3,if_false]
   ·simp only[Z9,Z',Z_];omega
   ·repeat first|exact YM|apply Fr.new|apply Fr.put|apply Fr.upto
    all_goals try simp only[Z9,Z',Z_]
    all_goals omega
 ·have:i=a.next.length:=by omega
  subst this;simp only[go_sem,OO,q41,q42,Z8,afg];refine hk _ _ vs (fun t ht=>?_) qX Uy hs XY YM;have ZQ:∀k:Nat,42<=k->(k=t)=False:=fun k hk=>by simp;omega
  simp only[go_sem,ZQ];exact hold t (by omega)
theorem xY {ex:Ex}{a:Nat}{e:Env}{s:St}{n:Nat}(h:Env.get e a=.int .i64 (n:Int))(hn:n<=2^20) :
  Zb U ex e (.makeSlice 39 (.tmp a) (.tmp a)) s=some (.sl s.next 0 n (some n) 1,s.new (.cells ((List.range n).map fun _=>.ZR) 48 false 0 0)):=by
 have h40:U.Zt 39=some (.slice 48):=by kernel_rfl
 have hz:zero U 48=some .ZR:=by kernel_rfl
 have hi:(U.inf 48).map (fun i=>(i.bytes,i.size))=some (24,1):=by kernel_rfl
 have e1:((List.range n).map fun _=>AV.ZR)=List.replicate n .ZR:=by simp[List.map_const']
 cases hj:U.inf 48 with
 |none=>rw[hj] at hi;cases hi
 |some j =>
  rw[hj] at hi;simp only[afF,Option.some.injEq,Prod.mk.injEq] at hi;obtain⟨h1,h2⟩:=hi;rw[e1,<-UZ];simp only[Zb,eval,h,h40,hj,hz];rw[if_pos ⟨by omega,by omega,by rw[h1];omega,by omega,by rw[h2];rfl,by omega⟩,h2];rfl
theorem Cw {ex:Ex}{a:Nat}{e:Env}{s:St}{n:Nat}(h:Env.get e a=.int .i64 (n:Int))(hn:n<=2^20) :
  Zb U ex e (.makeSlice 259 (.tmp a) (.tmp a)) s=some (.sl s.next 0 n (some n) 1,s.new (.cells ((List.range n).map fun _=>.ZR) 39 false 0 0)):=by
 have h40:U.Zt 259=some (.slice 39):=by kernel_rfl
 have hz:zero U 39=some .ZR:=by kernel_rfl
 have hi:(U.inf 39).map (fun i=>(i.bytes,i.size))=some (24,1):=by kernel_rfl
 have e1:((List.range n).map fun _=>AV.ZR)=List.replicate n .ZR:=by simp[List.map_const']
 cases hj:U.inf 39 with
 |none=>rw[hj] at hi;cases hi
 |some j =>
  rw[hj] at hi;simp only[afF,Option.some.injEq,Prod.mk.injEq] at hi;obtain⟨h1,h2⟩:=hi;rw[e1,<-UZ];simp only[Zb,eval,h,h40,hj,hz];rw[if_pos ⟨by omega,by omega,by rw[h1];omega,by omega,by rw[h2];rfl,by omega⟩,h2];rfl
structure oc (s:St)(B m n:Nat)(bf:Nat->Nat->List Nat)(x:Nat)(bx:Nat->Nat)(vs:Nat->Nat->AV):Prop where
 g:s.get B=some (.cells ((List.range m).map fun y=>if y<x then .sl (bx y) 0 n (some n) 1 else .ZR) 39 false 0 0)
 row:∀y,y<x->s.get (bx y)=some (.cells ((List.range n).map (vs y)) 48 false 0 0)
 bl:∀y,y<x->∀c,c<n->LW s (B+1) (bf y c) (vs y c)
 hx:∀y,y<x->B<bx y/\bx y<s.next
theorem oc.full {s:St}{B m n:Nat}{bf:Nat->Nat->List Nat}{bx:Nat->Nat}{vs:Nat->Nat->AV}(h:oc s B m n bf m bx vs)(hB:B<s.next):F' s B m n bf B s.next bx vs:=by
 refine⟨?_,h.row,fun x hx c hc=>?_,⟨aba _,hB⟩,fun x hx=>⟨by have:=h.hx x hx;omega,(h.hx x hx).2⟩,fun x hx c hc j hj=>?_,aba _⟩
 ·rw[h.g]
  congr 2
  refine afx fun y hy=>?_
  rw[if_pos (afh.1 hy)]
 ·rcases h.bl x hx c hc with h1|⟨b,h1,h2,h3,h4⟩
  ·exact .inl h1
  ·exact .inr ⟨b,h1,h2,h4⟩
 ·have:=(h.bl x hx c hc).lt hj;omega
theorem ah {β:Type}{fin:Fl->β}{ks:List K}{ZV:β->Prop}{a:ZN}(ha:a.ok){B ab m:Nat}{e:Env}{s:St}(hm:m=2^a.lines.toNat)
  (g1:Env.get e 1=.ptr ab 0)(g4:Env.get e 4=.sl B 0 m (some m) 1)(ff:Env.get e 28=.int .i64 (m:Int))(fe:Env.get e 29=.int .i64 (0:Nat))
  (ga:s.get ab=some (.cells [.int .i64 a.lines,XK a,YK a] 42 false 0 0))(gB:s.get B=some (.cells ((List.range m).map fun _=>.ZR) 39 false 0 0))(DZ:ab<s.next)(ZQ:ab≠B)(hB:B<s.next)(fr:Fr s)
  (hk:∀e' s' bx vs,(∀t:Nat,t<5->Env.get e' t=Env.get e t)->oc s' B m a.next.length (Qa a.fa) m bx vs ->
   (∀j,j<s.next->j≠B->s'.get j=s.get j)->s.next<=s'.next->Fr s'->ZV (goN U fin ks e' s')) :
  ZV (Vx U fin (.bk 0::ks) Ln e s):=by
 have Te:=ha.few;have Nv:m<=2^16:=by
  have:=Uh a.lines (by have:=ha.lines;omega);have:=TE a.lines;unfold I6 at this;omega
 refine ZC (σ:=Nat) (fun x=>m-x) (fun x e' s'=>x<=m/\(∀t:Nat,t<5\/7<t/\t<29->Env.get e' t=Env.get e t)/\Env.get e' 29=.int .i64 (x:Nat)/\(∀j,j<s.next->j≠B->s'.get j=s.get j)/\s.next<=s'.next/\Fr s' /\
   ∃bx vs,oc s' B m a.next.length (Qa a.fa) x bx vs) 0 ?_
  ⟨ae5 _,fun _ _=>rfl,fe,fun _ _ _=>rfl,aba _,fr,fun _=>0,fun _ _=>.ZR,⟨by rw[gB];simp,fun y hy=>by omega,fun y hy=>by omega,fun y hy=>by omega⟩⟩
 rintro Lp x e' s' ⟨eT,hold,B1,hs,XY,YM,bx,vs,X⟩ IH;have q1:=(hold 1 (by omega)).trans g1;have q4:=(hold 4 (by omega)).trans g4;have Ag:=(hold 28 (by omega)).trans ff;by_cases hd:x<m
 ·have S6:=ZI hd (by omega);have ga':=(hs ab DZ ZQ).trans ga;have hl:=ZL a.YC (a.next.map ZX);rw[ae7] at hl;have mk:=fun (ex:Ex) (t:Nat) (e:Env) (S:St) (h:Env.get e t=.int .i64 (a.next.length:Int))=>xY (ex:=ex) (s:=S) h (by omega)
  have ON:=Bv (f:=fun y=>if y<x then .sl (bx y) 0 a.next.length (some a.next.length) 1 else .ZR) hd (.sl s'.next 0 a.next.length (some a.next.length) 1);have z1:(s'.next=B)=False:=by simp;omega
  have z2:(B=ab)=False:=by simp;omega
  have z3:(s'.next=ab)=False:=by simp;omega
  have hBn:B<s'.next:=by omega
  have XB:=X.g;unfold XK YK at ga';simp only[go_sem,Ln,q1,q4,Ag,B1,Z8,hd,ga',hl,↓mk,XB,ON,ae3,z1,z2,z3];refine ea ha (x:=x) (B:=B) (bX:=s'.next) (m:=m) (Bc:=(List.range m).map (Jq (fun y=>if y<x then .sl (bx y) 0 a.next.length (some a.next.length) 1 else .ZR) x (.sl s'.next 0 a.next.length (some a.next.length) 1))) (by omega) ?_ ?_ ?_ ?_ ?_ hd ?_ ?_ ?_ (by omega) (by simp only[Z9,Z'];omega) (by simp only[Z9,Z'];omega) ?_ ?_
  case refine_10 =>
   intro e2 s2 vx Vy h2X hvx WC K2 TC;simp only[Z9,Z'] at WC K2 hvx;have p29:Env.get e2 29=.int .i64 (x:Nat):=by rw[Vy 29 (by omega)];simp only[go_sem,B1]
   have old:∀j,j<s'.next->j≠B->s2.get j=s'.get j:=fun j h1 h2=>by
    rw[WC j (by omega) (by omega),Z7,if_neg h2.symm,ZZ,if_neg (by omega)]
   simp only[go_sem,p29,S6];refine IH (x+1) _ _ (by omega) ⟨by omega,fun t ht=>?_,?_,fun j h1 h2=>by rw[old j (by omega) h2,hs j h1 h2],by omega,TC,fun y=>if y=x then s'.next else bx y,fun y=>if y=x then vx else vs y,⟨?_,fun y hy=>?_,fun y hy c hc=>?_,fun y hy=>?_⟩⟩
   ·have ZQ:∀k:Nat,29<=k->(k=t)=False:=fun k hk=>by simp;omega
    have hC:(5=t)=False:=by simp;omega
    simp only[go_sem,ZQ];rw[Vy t (by omega)];simp only[go_sem,ZQ,hC];exact hold t ht
   ·simp only[go_sem]
   ·rw[WC B (by omega) (by omega),Z7,if_pos rfl]
    congr 2
    refine afx fun y hy=>?_
    unfold Jq;by_cases e:y=x
    ·rw[if_pos e,if_pos (by omega),if_pos e]
    ·rw[if_neg e,if_neg e];show (if y<x then _ else _)=_;by_cases e2:y<x
     ·rw[if_pos e2,if_pos (by omega)]
     ·rw[if_neg e2,if_neg (by omega)]
   ·by_cases e:y=x
    ·simp only[e,if_true];exact h2X
    ·simp only[e,if_false];have hb:=X.hx y (by omega);rw[old _ hb.2 (by omega)];exact X.row y (by omega)
   ·by_cases e:y=x
    ·simp only[e,if_true];rcases hvx c hc with h1|⟨b,h1,h2,h3,h4⟩
     ·exact .inl h1
     ·exact .inr ⟨b,h1,h2,by omega,h4⟩
    ·simp only[e,if_false];have hb:=X.bl y (by omega) c hc;exact hb.keep (by omega) fun j h1 h2 h3=>old j h1 (by omega)
   ·by_cases e:y=x
    ·simp only[e,if_true];omega
    ·simp only[e,if_false];have:=X.hx y (by omega);omega
  case refine_9=>exact (YM.new _).put (by rw[Z'];omega) _
  case refine_8=>rw[Z7,if_neg (by omega),ZZ,if_pos rfl]
  case refine_7 =>
   rw[Qz _ hd];unfold Jq;rw[if_pos rfl]
  case refine_6=>rw[Z7,if_pos rfl]
  all_goals simp only[go_sem,q4]
  all_goals rfl
 ·have:x=m:=by omega
  subst this;simp only[go_sem,Ln,Ag,B1,Z8,afg];refine hk _ _ bx vs (fun t ht=>?_) X hs XY YM;have ZQ:∀k:Nat,29<=k->(k=t)=False:=fun k hk=>by simp;omega
  simp only[go_sem,ZQ];exact hold t (by omega)
theorem af {β:Type}{fin:Fl->β}{ks:List K}{ZV:β->Prop}{n:Nat}{e:Env}{s:St}(hn:n<=2^20)(g8:Env.get e 8=.ZR)(g75:Env.get e 75=.int .i64 (n:Int))(g76:Env.get e 76=.int .i64 (0:Nat))(fr:Fr s)
  (hk:∀e' s' wv,(∀t:Nat,t<8->Env.get e' t=Env.get e t)->Env.get e' 8=wv->QH s' s.next (List.range n) wv->(∀j,j<s.next->s'.get j=s.get j)->s.next<=s'.next->Fr s'->ZV (goN U fin ks e' s')) :
  ZV (Vx U fin (.bk 4::ks) Lm e s):=by
 refine ZC (σ:=Nat) (fun i=>n-i) (fun i e' s'=>i<=n/\(∀t:Nat,t<8\/9<t/\t<76->Env.get e' t=Env.get e t)/\Env.get e' 76=.int .i64 (i:Nat)/\(∀j,j<s.next->s'.get j=s.get j)/\s.next<=s'.next/\Fr s' /\
   ∃wv,Env.get e' 8=wv/\QH s' s.next (List.range i) wv) 0 ?_
  ⟨ae5 _,fun _ _=>rfl,g76,fun _ _=>rfl,aba _,fr,.ZR,g8,.inl ⟨rfl,rfl⟩⟩
 rintro Lp i e' s' ⟨Gr,hold,q76,hs,XY,YM,wv,q8,hW⟩ IH;have q75:=(hold 75 (by omega)).trans g75;by_cases hd:i<n
 ·have S6:=ZI hd (by omega);have Gl:=hW.WK;rw[afN] at Gl;have Bt:(i+1)*8<=1099511627776:=by omega
  have xR:i+1<=1099511627776:=by omega
  simp only[go_sem,Lm,q8,q75,q76,Z8,hd,S6,ae3,afu,ZD,Nat.reducePow,Gl,Bt,xR];have W3:QH (s'.new (.cells [.int .i64 (i:Int)] 3 false 0 0)) s.next (List.range i) wv:=hW.keep (by rw[Z'];omega) fun j h1 _ _=>by rw[ZZ,if_neg (by omega)]
  obtain⟨s4,d1,d2,d3,d4,d5⟩:=W3.app (by rw[Z'];omega) i;rw[Z'] at d1 d2 d3 d4;rw[d1];simp only[go_sem,q76,S6];refine IH (i+1) _ _ (by omega) ⟨by omega,fun t ht=>?_,?_,fun j hj=>?_,by omega,d5 (YM.new _),_,?_,by rw[List.range_succ];exact d3⟩
  ·have ZQ:∀k:Nat,76<=k->(k=t)=False:=fun k hk=>by simp;omega
   have tI:(8=t)=False:=by simp;omega
   have aed:(9=t)=False:=by simp;omega
   simp only[go_sem,ZQ,tI,aed];exact hold t ht
  ·simp only[go_sem]
  ·rw[d4 j (by omega) (fun h=>by have:=hW.lt h;omega),ZZ,if_neg (by omega)];exact hs j hj
  ·simp only[go_sem]
 ·have:i=n:=by omega
  subst this;simp only[go_sem,Lm,q75,q76,Z8,afg];refine hk _ _ wv (fun t ht=>?_) ?_ hW hs XY YM
  ·have ZQ:∀k:Nat,76<=k->(k=t)=False:=fun k hk=>by simp;omega
   simp only[go_sem,ZQ];exact hold t (by omega)
  ·simp only[go_sem,q8]
noncomputable def TP (a:ZN):List Nat :=
 (K9 (Qa a.fa) a.fa.m (2*(a.fa.n-(XL (Zz a) a.fa.n).bg.length)+(XL (Zz a) a.fa.n).bg.length) (XL (Zz a) a.fa.n) (List.range (XL (Zz a) a.fa.n).bg.length)).set
theorem AF {a:ZN}(ha:a.ok){u v:Nat}(hu:u<a.fa.n)(hv:v<a.fa.n):Zz a u=Zz a v<->∀x,x<a.fa.m->a.fa.fr u x=a.fa.fr v x:=by
 have Ab:u<a.Z4.length:=by rw[ha.fl];exact hu
 have iZ:v<a.Z4.length:=by rw[ha.fl];exact hv
 have h1:=ha.XJ u Ab;have h2:=ha.XJ v iZ;have e1:∀s x,a.fa.fr s x=(a.Z4.getD s (true,[])).2.getD x false:=fun _ _=>rfl
 unfold Zz;simp only[e1];rw[YL Ab,YL iZ]
 constructor
 ·intro h x _;rw[Ka (by omega) h]
 ·intro h
  congr 1
  refine List.ext_getElem (by omega) fun x q1 q2=>?_
  have:=h x (by show x<2^a.lines.toNat;omega);rw[YL q1,YL q2] at this;exact this
theorem Ib {a:ZN}(ha:a.ok):rO a.fa (XL (Zz a) a.fa.n) (List.range (XL (Zz a) a.fa.n).bg.length):=EF fun u v hu hv=>AF ha hu hv
theorem MT {a:ZN}(ha:a.ok):(TP a).length=a.fa.n:=by
 have h:=HL ha.VK (fun y _ c _ u=>NT a.fa y c u) _ (Ib ha) (aba _);rw[afN] at h;exact h.wf.ls
theorem t_ {a:ZN}(ha:a.ok){u v:Nat}(hu:u<a.fa.n)(hv:v<a.fa.n):gt (TP a) u=gt (TP a) v<->Zy a.fa u=Zy a.fa v :=
 iY ha.VK (fun u v hu hv=>AF ha hu hv) hu hv
theorem ada {a:ZN}(ha:a.ok):Zv U 130 [YP a]=some (.fz (ZO (TP a))):=by
 refine Za ac0 (by kernel_rfl) (by simp[ZK,YF]) ?_;have Te:=ha.few;have Nv:2^a.lines.toNat<=2^8:=Nat.pow_le_pow_right (by omega) (by have:=ha.lines;omega);have nn:=ZT a.YC (a.next.map ZX);have nf:=ZT a.Yx (a.Z4.map ZY);have cn:=ZS a.YC (a.next.map ZX);have cf:=ZS a.Yx (a.Z4.map ZY);have Qy:=Rq U 3 true .i64 (n:=a.lines) (show 0<=a.lines/\a.lines<=16 by have:=ha.lines;omega);have ak:(2^a.lines.toNat:Int)=((2^a.lines.toNat:Nat):Int):=by simp
 rw[ak] at Qy;have mk:=fun (ex:Ex) (t:Nat) (e:Env) (S:St) (h:Env.get e t=.int .i64 ((2^a.lines.toNat:Nat):Int))=>Cw (ex:=ex) (s:=S) h (by omega)
 obtain⟨s1,pb,bl,bp,bs,bb,be,bm,h1,P,l1,l2,l3,l4,l5,l6,l7,nj,Kr,Ur⟩:=ac3 ha (s:=(YH U).new (.cells [.int .i64 a.lines,XK a,YK a] 42 false 0 0)) (Fr.own.new _);have P:O8 s1 pb a.fa.n bl bp bs bb be bm (XL (Zz a) a.fa.n):=P;rw[ZB] at h1 ⊢;unfold XK YK at *;have ho:(YH U).next=8:=rfl;simp only[Z',ho] at l1 l2 l3 l4 l5 l6 l7 nj Ur;have g8:s1.get 8=some (.cells [.int .i64 a.lines,ZP a.YC (a.next.map ZX),ZP a.Yx (a.Z4.map ZY)] 42 false 0 0):=by
  rw[Ur 8 (by omega),ZZ,ho,if_pos rfl]
 simp only[go_sem,aK,nn,nf,cn,cf,cR,h1,g8,Qy,↓mk];have FN:I6 a.lines=((2^a.lines.toNat:Nat):Int):=TE a.lines;have hH:=Ib ha;have mh:=hH.wf.few;have aeI:=P.su;refine ah (ZV:=fun r:Option AV=>r=some (AV.fz (ZO (TP a)))) ha (B:=s1.next) (ab:=8) (m:=2^a.lines.toNat) rfl ?_ ?_ ?_ ?_ ?_ ?_ ?_ ?_ ?_ (Kr.new _) ?_
 case refine_10 =>
  intro e2 s2 bx vs Vy X WC NA TC;rw[Z'] at WC NA;have p3:Env.get e2 3=.ptr pb 0:=by rw[Vy 3 (by omega)];simp only[go_sem]
  have p4:Env.get e2 4=.sl s1.next 0 (2^a.lines.toNat) (some (2^a.lines.toNat)) 1:=by rw[Vy 4 (by omega)];simp only[go_sem]
  have BI:=X.full (by omega);have P2:=P.mono (s':=s2) (by omega) fun j hj=>by
   have:=P.lt j hj;rw[WC j (by omega) (by omega),ZZ,if_neg (by omega)]
  have rL:∀j,Ou s1.next s2.next j\/Yj pb bl bp bs bb be bm j:=fun j=>by unfold Ou Yj;omega
  simp only[go_sem,p3,P2.g];refine af (ZV:=fun r:Option AV=>r=some (AV.fz (ZO (TP a)))) (n:=(XL (Zz a) a.next.length).bg.length) (by have:(XL (Zz a) a.next.length).bg.length<=a.next.length:=mh;omega) ?_ ?_ ?_ TC ?_
  case refine_4 =>
   intro e3 s3 wv QG h3w W LI BL HF;have p3':Env.get e3 3=.ptr pb 0:=by rw[QG 3 (by omega)];simp only[go_sem,p3]
   have p4':Env.get e3 4=.sl s1.next 0 (2^a.lines.toNat) (some (2^a.lines.toNat)) 1:=by rw[QG 4 (by omega)];simp only[go_sem,p4]
   simp only[go_sem];refine ae (ZV:=fun r:Option AV=>r=some (AV.fz (ZO (TP a)))) (A:=a.fa) ha.VK (N:=s2.next) (B:=s1.next) (lo:=s1.next) (hi:=s2.next) (bx:=bx) (vs:=vs) (F:=2*(a.fa.n-(XL (Zz a) a.fa.n).bg.length)+(XL (Zz a) a.fa.n).bg.length) (wv:=wv) Te Nv (P2.mono BL fun j hj=>LI j (P2.lt j hj)) hH ?_ ?_ p3' p4' h3w W (fun j hj=>?_) BL (BI.keep BL fun j h1 h2=>LI j (by omega)) rL HF ?_
   ·have:a.fa.n<=512:=Te;omega
   ·rw[afN];exact aba _
   ·have:=W.lt hj;unfold Yj Ou;omega
   ·intro e4 s4 cb ce cm q3 P4;have E8:(K9 (Qa a.fa) a.fa.m (2*(a.fa.n-(XL (Zz a) a.fa.n).bg.length)+(XL (Zz a) a.fa.n).bg.length) (XL (Zz a) a.fa.n) (List.range (XL (Zz a) a.fa.n).bg.length)).set.length=a.fa.n:=MT ha;have hz:=AI (d:=38) (cap:=some a.fa.n) E8 P4.gs;have P4g:=P4.g;rw[E8] at P4g;simp only[go_sem,q3,P4g];rw[WQ] at hz;exact hz
  all_goals simp only[go_sem]
  all_goals rfl
 case refine_9=>rw[Z'];omega
 case refine_8=>omega
 case refine_7=>rw[Z'];omega
 case refine_6=>rw[ZZ,if_pos rfl]
 case refine_5=>rw[ZZ,if_neg (by omega),g8];rfl
 all_goals simp only[go_sem]
 all_goals rfl
def SF:List Nat->Nat->List (AV×AV)
 |[],_=>[]
 |k::ks,i=>(.int .i64 (k:Int),.int .i64 (i:Int))::SF ks (i+1)
theorem vw (a b:Nat):Xc (.int .i64 (a:Int)) (.int .i64 (b:Int))=some (b==a):=by
 simp only[Xc,if_true]
 congr 1
 rw[Bool.eq_iff_iff];simp only[beq_iff_eq];omega
theorem Kh (k:Nat):∀(ks:List Nat) (i:Nat),Wd (.int .i64 (k:Int)) (SF ks i)=some (bif decide (Ya ks k<ks.length) then some (.int .i64 ((i+Ya ks k:Nat):Int)) else none)
 |[],i=>rfl
 |x::l,i=>by
  rw[SF,Wd,vw,Ya]
  cases h:x==k with
  |true=>simp
  |false =>
   simp only[cond_false,afc];rw[Kh k l (i+1)];have e:decide (Ya l k+1<l.length+1)=decide (Ya l k<l.length):=by congr 1;apply propext;omega
   rw[e]
   congr 2
   rw[show i+1+Ya l k=i+(Ya l k+1) by omega]
theorem Il (k:Nat):∀(ks:List Nat) (i:Nat),k∉ks->LU (.int .i64 (k:Int)) (.int .i64 ((i+ks.length:Nat):Int)) (SF ks i)=some (SF (ks++[k]) i)
 |[],i,_=>rfl
 |x::l,i,h=>by
  rw[afa,not_or] at h;have ZQ:(x==k)=false:=by simpa using fun e=>h.1 (Eq.symm e)
  have ih:=Il k l (i+1) h.2;rw[show i+1+l.length=i+(x::l).length by rw[afc];omega] at ih;rw[SF,LU,vw,ZQ,List.cons_append,SF];simp only[ih]
theorem zm {s:St}{m:Nat}{ks:List Nat}(h:s.get m=some (.map (SF ks 0) false))(k:Nat):WI U 204 (.map m) (.int .i64 (k:Int)) true s=some (bif decide (Ya ks k<ks.length) then .X' [.int .i64 ((Ya ks k:Nat):Int),.bool true] else .X' [.int .i64 0,.bool false]):=by
 have hu:U.Zt 204=some (.map 3 3):=by kernel_rfl
 have h3:U.Zt 3=some (.int .i64):=by kernel_rfl
 have hz:zero U 3=some (.int .i64 0):=by kernel_rfl
 unfold WI;rw[hu];simp only[WL,h3,decide_true,if_true,h,Kh,ad4]
 cases decide (Ya ks k<ks.length) with
 |true=>rfl
 |false=>simp only[cond_false,hz]
theorem Ik {s:St}{m:Nat}{ks:List Nat}(h:s.get m=some (.map (SF ks 0) false)){k:Nat}(hk:k∉ks):Xm U 204 (.map m) (.int .i64 (k:Int)) (.int .i64 ((ks.length:Nat):Int)) s=some (s.put m (.map (SF (ks++[k]) 0) false)):=by
 have hu:U.Zt 204=some (.map 3 3):=by kernel_rfl
 have h3:U.Zt 3=some (.int .i64):=by kernel_rfl
 have:=Il k ks 0 hk;rw[ad4] at this;unfold Xm;rw[hu];simp only[WL,h3,decide_true,if_true,h,this]
theorem ng (args:List AV)(s:St):YX U (Zv U 131 args) 131 args s=WW U 131 args s:=(Zu U 131 args s).symm
theorem aT (l:List AV):X_ U .eql 72 true (.fz l) .ZR=some (.bool false):=by
 have h:U.Zt 72=some (.slice 4):=by kernel_rfl
 simp only[X_,Kz,F0,h]
theorem Si (l:List Bool)(s:St):Wt 1 (.fz (ZH l)) s=some (l.length,ZH l):=by
 have h1:(ZH l).all (fun x=>x.cells.length==1)=true:=by
  induction l with
  |nil=>rfl
  |cons t ts ih=>rw[ZH,afm,List.all_cons];exact ih
 have h2:(ZH l).flatMap AV.cells=ZH l:=by
  clear h1
  induction l with
  |nil=>rfl
  |cons t ts ih=>rw[ZH,afm,afn];show AV.cells (.bool t)++(ZH ts).flatMap AV.cells=_;rw[ih];rfl
 simp only[Wt,h1,h2,Ym];rfl
theorem acL (l:List Bool)(h0:l≠[])(hl:l.length<=2^20)(s:St):WW U 131 [.fz (ZH l)] s=some (.sl (s.next+1) 0 l.length none 1,(s.new (.cells [] 4 false 0 0)).new (.cells (ZH l) 4 false 0 0)):=by
 refine Y3 acM (by kernel_rfl) ?_;have KP:0<l.length:=List.length_pos_iff.2 h0;have hap:∀S:St,S.get s.next=some (.cells [] 4 false 0 0)->HQ 4 1 1 (.sl s.next 0 0 (some 0) 1) (some (l.length,ZH l)) S=some (.sl S.next 0 (0+l.length) none 1,S.new (.cells ([]++ZH l) 4 false 0 0)):=fun S h=>by
  rw[ZD (by rw[Ym,ae3]) (by simp only[N8];omega) (by simp only[N8];omega) (by omega),SE h rfl (by omega)]
 simp only[go_sem,aS,aT,Si,hap,ad4,afP]
theorem CW {a:ZN}(ha:a.ok){s:Nat}(hs:s<a.Z4.length):a.Z4[s].2=XJ a.fa s:=by
 have h1:=ha.XJ s hs;refine List.ext_getElem (by rw[h1,TT];rfl) fun x q1 q2=>?_
 rw[AN a.fa s (by show x<2^a.lines.toNat;omega)];show _=(a.Z4.getD s (true,[])).2.getD x false;rw[YL hs,YL q1]
theorem dH {s:St}{b n:Nat}{cap:Option Nat}{L:List Nat}(hc:cap=none\/cap=some n)(hL:L.length=n)(hg:s.get b=some (.cells (ZO L) 3 false 0 0))(hb:b<s.next)(k:Nat) :
  ∃s1,SG 3 1 1 [.int .i64 (k:Int)] (.sl b 0 n cap 1) s=some (.sl s.next 0 (n+1) none 1,s1)/\s1.next=s.next+1/\s1.get s.next=some (.cells (ZO (L++[k])) 3 false 0 0)/\(∀j,j<s.next->j≠b->s1.get j=s.get j)/\(Fr s->Fr s1):=by
 rcases hc with rfl|rfl
 ·refine⟨_,FO hL hg k,rfl,?_,fun j h1 h2=>?_,fun hf=>(hf.put hb _).new _⟩
  ·rw[ZZ,Z9,if_pos rfl]
  ·rw[ZZ,Z9,if_neg (by omega),Z7,if_neg h2.symm]
 ·refine⟨s.new (.cells (ZO (L++[k])) 3 false 0 0),?_,rfl,?_,fun j h1 h2=>?_,fun hf=>hf.new _⟩
  ·rw[SE hg (by rw[Xb,hL,ae3]) (by omega),N7]
  ·rw[ZZ,if_pos rfl]
  ·rw[ZZ,if_neg (by omega)]
theorem LW.WK {s:St}{N:Nat}{L:List Nat}{v:AV}(h:LW s N L v):Go.Am.WK v=L.length:=by
 rcases h with⟨rfl,rfl⟩|⟨b,rfl,h2,h3,h4⟩ <;> rfl
theorem LW.app {s:St}{N:Nat}{L:List Nat}{v:AV}(h:LW s N L v)(hN:N<=s.next)(k:Nat) :
  ∃s1,SG 3 1 1 [.int .i64 (k:Int)] v s=some (.sl s.next 0 (L.length+1) none 1,s1)/\s1.next=s.next+1/\LW s1 N (L++[k]) (.sl s.next 0 (L.length+1) none 1)/\(∀j,j<s.next->¬Yn v j->s1.get j=s.get j)/\(Fr s->Fr s1):=by
 rcases h with⟨rfl,rfl⟩|⟨b,rfl,h2,h3,h4⟩
 ·refine⟨_,Xy _ _ _ _ _,rfl,.inr ⟨s.next,rfl,?_,hN,by rw[Z'];omega⟩,fun j hj _=>by rw[ZZ,if_neg (by omega)],fun hf=>hf.new _⟩;rw[ZZ,if_pos rfl];rfl
 ·refine⟨_,FO rfl h2 k,rfl,.inr ⟨s.next,by simp,?_,hN,by rw[Z',Z9];omega⟩,fun j hj hb=>?_,fun hf=>(hf.put h4 _).new _⟩
  ·rw[ZZ,Z9,if_pos rfl]
  ·rw[Y6] at hb;rw[ZZ,Z9,if_neg (by omega),Z7,if_neg hb]
noncomputable def YN (a:ZN)(u:Nat):Nat:=gt (TP a) u
theorem NW (A:Fa)(q:Nat):(YU A q).length=A.m:=by simp[YU]
theorem nZ (A:Fa)(q:Nat){x:Nat}(h:x<A.m):(YU A q)[x]'(by rw[NW];exact h)=A.nx q x:=by simp[YU]
theorem aay {β:Type}{fin:Fl->β}{ks:List K}{ZV:β->Prop}{a:ZN}(ha:a.ok){L:List Nat}{q b m:Nat}{cap:Option Nat}(hq:q<a.next.length)(LS:cap=none\/cap=some L.length)(vZ:∀z∈L,z<a.next.length)(LX:(L.map (YN a)).Nodup)(hbm:b≠m)
  {e:Env}{s:St}(g3:Env.get e 3=.fz (ZO (TP a)))(g4:Env.get e 4=.map m)(g5:Env.get e 5=.sl b 0 L.length cap 1)(g8:Env.get e 8=.ZR)(qV:Env.get e 37=ZP a.next[q].1 (ints a.next[q].2))(g38:Env.get e 38=.int .i64 ((2^a.lines.toNat:Nat):Int))(g39:Env.get e 39=.int .i64 (0:Nat))
  (gm:s.get m=some (.map (SF (L.map (YN a)) 0) false))(gb:s.get b=some (.cells (ZO L) 3 false 0 0))(nb:b<s.next)(nm:m<s.next)(fr:Fr s)
  (hk:∀e' s' b' RP rv,(∀t:Nat,t<10->t≠5->t≠8->Env.get e' t=Env.get e t)->Env.get e' 5=.sl b' 0 (Zl (YN a) (YU a.fa q) L).1.length RP 1->(RP=none\/RP=some (Zl (YN a) (YU a.fa q) L).1.length)->(b'=b\/s.next<=b')->b'<s'.next ->
   s'.get b'=some (.cells (ZO (Zl (YN a) (YU a.fa q) L).1) 3 false 0 0)->s'.get m=some (.map (SF ((Zl (YN a) (YU a.fa q) L).1.map (YN a)) 0) false)->Env.get e' 8=rv->LW s' s.next (Zl (YN a) (YU a.fa q) L).2 rv->(∀j,Yn rv j->j≠b') ->
   (∀j,j<s.next->j≠b->j≠m->s'.get j=s.get j)->s.next<=s'.next->Fr s'->ZV (goN U fin ks e' s')) :
  ZV (Vx U fin (.bk 2::ks) N5 e s):=by
 have Te:=ha.few;have hA:=ha.VK;have Nv:=ha.j8;have lI:(YU a.fa q).length=2^a.lines.toNat:=NW a.fa q;obtain⟨_,_,_,A7,_⟩:=WV (κ:=YN a) (YU a.fa q) L LX;have A7:(Zl (YN a) (YU a.fa q) L).2.length=2^a.lines.toNat:=by rw[A7,lI]
 generalize zw:(Zl (YN a) (YU a.fa q) L).2=kf at *;generalize FA:(Zl (YN a) (YU a.fa q) L).1=Lf at *;refine ZC (σ:=Nat) (fun x=>2^a.lines.toNat-x) (fun x e' s'=>x<=2^a.lines.toNat/\(∀t:Nat,t<10\/12<t/\t<39->t≠5->t≠8->Env.get e' t=Env.get e t)/\Env.get e' 39=.int .i64 (x:Nat) /\
   (∀j,j<s.next->j≠b->j≠m->s'.get j=s.get j)/\s.next<=s'.next/\Fr s' /\
   ∃L' b' RP rv,Zl (YN a) ((YU a.fa q).drop x) L'=(Lf,kf.drop x)/\(∀z∈L',z<a.next.length)/\(L'.map (YN a)).Nodup /\
    Env.get e' 5=.sl b' 0 L'.length RP 1/\(RP=none\/RP=some L'.length)/\(b'=b\/s.next<=b')/\b'<s'.next/\s'.get b'=some (.cells (ZO L') 3 false 0 0)/\s'.get m=some (.map (SF (L'.map (YN a)) 0) false) /\
    Env.get e' 8=rv/\LW s' s.next (kf.take x) rv/\(∀j,Yn rv j->j≠b')) 0 ?_
  ⟨ae5 _,fun _ _ _ _=>rfl,g39,fun _ _ _ _=>rfl,aba _,fr,
   L,b,cap,.ZR,by rw[afJ,afJ,<-FA,<-zw],vZ,LX,g5,LS,.inl rfl,nb,gb,gm,g8,.inl ⟨rfl,rfl⟩,fun j hj=>absurd hj (XH j)⟩
 rintro Lp x e' s' ⟨hx,hold,q39,hs,XY,YM,L',b',RP,rv,RK,gy,gu,q5,Fz,UF,qw,qb,qm,q8,hR,hRf⟩ IH;have q3:=(hold 3 (by omega) (by omega) (by omega)).trans g3;have q4:=(hold 4 (by omega) (by omega) (by omega)).trans g4;have wO:=(hold 37 (by omega) (by omega) (by omega)).trans qV;have q38:=(hold 38 (by omega) (by omega) (by omega)).trans g38;have aeU:L'.length<=a.next.length:=WE gu gy;by_cases hd:x<2^a.lines.toNat
 ·have hw:=ZI hd (by omega);have hxm:x<(YU a.fa q).length:=by omega
  have nk:a.fa.nx q x<a.next.length:=hA.lt q x hq hd;have n1:=ha.DR hq hd;have o1:=Ij (l:=TP a) (i:=a.fa.nx q x) (by rw[MT ha];exact nk);have hTx:(YU a.fa q)[x]=a.fa.nx q x:=nZ a.fa q hd;have hxk:x<kf.length:=by omega
  rw[aeY hxm,hTx,aeY hxk,Zl] at RK;have o1:UT 1 (.fz (ZO (TP a))) (.int .i64 ((a.fa.nx q x:Nat):Int))=some (.fp [.int .i64 ((YN a (a.fa.nx q x):Nat):Int)] 0):=o1;generalize hc:a.fa.nx q x=c at *;have lk:=fun (S:St) (h:S.get m=some (.map (SF (L'.map (YN a)) 0) false))=>zm h (YN a c)
  have nD:kf.take (x+1)=kf.take x++[kf[x]]:=by rw[afC hxk]
  have h_:(kf.take x).length=x:=by rw[afH];omega
  have Gl:=hR.WK;rw[h_] at Gl;have RQ:(x+1)*8<=1099511627776:=by omega
  have TG:x+1<=1099511627776:=by omega
  have Bg:(L'.length+1)*8<=1099511627776:=by omega
  have lh:L'.length+1<=1099511627776:=by omega
  have kV:(L'.map (YN a)).length=L'.length:=by simp
  have Nz:∀t:Nat,t<10\/12<t/\t<39->t≠5->t≠8->(5=t)=False/\(8=t)=False/\(10=t)=False/\(11=t)=False/\(12=t)=False/\∀k:Nat,39<=k->(k=t)=False:=fun t h1 h2 h3=>⟨by simp;omega,by simp;omega,by simp;omega,by simp;omega,by simp;omega,fun k hk=>by simp;omega⟩
  by_cases R4:Ya (L'.map (YN a)) (YN a c)<L'.length
  ·rw[decide_eq_true R4] at RK;simp only[cond_true] at RK;have U_:Zl (YN a) ((YU a.fa q).drop (x+1)) L'=(Lf,kf.drop (x+1)):=by
    have h1:=congrArg Prod.fst RK;have h2:=congrArg Prod.snd RK;simp only[List.cons.injEq] at h1 h2;exact Prod.ext h1 h2.2
   have hkx:kf[x]=Ya (L'.map (YN a)) (YN a c):=by
    have h2:=congrArg Prod.snd RK;simp only[List.cons.injEq] at h2;exact h2.1.symm
   rw[kV,decide_eq_true R4] at lk;simp only[cond_true] at lk;rw[<-hkx] at lk;simp only[go_sem,N5,q3,q4,q5,q8,wO,q38,q39,qm,Z8,hd,n1,o1,lk,hw,ae3,afu,ZD,Nat.reducePow,Gl,RQ,TG];have R3:LW (s'.new (.cells [.int .i64 ((kf[x]:Nat):Int)] 3 false 0 0)) s.next (kf.take x) rv:=hR.keep (by rw[Z'];omega) fun j h1 _ _=>by rw[ZZ,if_neg (by omega)]
   obtain⟨s4,d1,d2,d3,d4,d5⟩:=R3.app (by rw[Z'];omega) kf[x];rw[Z'] at d1 d2 d3 d4;rw[h_] at d1 d3;rw[d1];simp only[go_sem,q39,hw];have k4:∀j,j<s'.next->¬Yn rv j->s4.get j=s'.get j:=fun j h1 h2=>by rw[d4 j (by omega) h2,ZZ,if_neg (by omega)]
   have hrv:∀j,j<s.next->¬Yn rv j:=fun j hj h=>by have:=hR.lt h;omega
   refine IH (x+1) _ _ (by omega) ⟨by omega,fun t h1 h2 h3=>?_,?_,fun j h1 h2 h3=>by rw[k4 j (by omega) (hrv j h1),hs j h1 h2 h3],by omega,d5 (YM.new _),L',b',RP,.sl (s'.next+1) 0 (x+1) none 1,U_,gy,gu,?_,Fz,UF,by omega,(k4 b' qw fun h=>hRf b' h rfl).trans qb,(k4 m (by omega) (hrv m nm)).trans qm,?_,by rw[nD];exact d3,fun j hj=>?_⟩
   ·obtain⟨n5,n8,HP,vW,Iv,n39⟩:=Nz t h1 h2 h3;simp only[go_sem,n5,n8,HP,vW,Iv,n39];exact hold t h1 h2 h3
   ·simp only[go_sem]
   ·simp only[go_sem,q5]
   ·simp only[go_sem]
   ·rw[Y6] at hj;omega
  ·have aa_:YN a c∉L'.map (YN a):=by rw[<-Tt,kV];exact R4
   rw[decide_eq_false R4] at RK;simp only[cond_false] at RK;have U_:Zl (YN a) ((YU a.fa q).drop (x+1)) (L'++[c])=(Lf,kf.drop (x+1)):=by
    have h1:=congrArg Prod.fst RK;have h2:=congrArg Prod.snd RK;simp only[List.cons.injEq] at h1 h2;exact Prod.ext h1 h2.2
   have hkx:kf[x]=L'.length:=by
    have h2:=congrArg Prod.snd RK;simp only[List.cons.injEq] at h2;exact h2.1.symm
   rw[kV,decide_eq_false R4] at lk;simp only[cond_false] at lk;have up:=fun (S:St) (h:S.get m=some (.map (SF (L'.map (YN a)) 0) false))=>Ik h aa_
   rw[kV] at up;have aeV:∀c:Option Nat,Go.Am.WK (.sl b' 0 L'.length c 1)=L'.length:=fun _=>rfl
   simp only[go_sem,N5,q3,q4,q5,q8,wO,q38,q39,qm,Z8,hd,n1,o1,lk,up,hw,ae3,afu,ZD,Nat.reducePow,Bg,lh];obtain⟨s4,d1,d2,d3,d4,d5⟩:=dH (b:=b') (L:=L') (s:=(s'.put m (.map (SF (L'.map (YN a)++[YN a c]) 0) false)).new (.cells [.int .i64 (c:Int)] 3 false 0 0)) Fz rfl (by rw[ZZ,Z9,if_neg (by omega),Z7,if_neg (by omega)];exact qb) (by rw[Z',Z9];omega) c;simp only[Z',Z9] at d1 d2 d3 d4;rw[d1];simp only[go_sem,q8,ae3,afu,ZD,Nat.reducePow,Gl,RQ,TG];have k4:∀j,j<s'.next->j≠b'->j≠m->s4.get j=s'.get j:=fun j h1 h2 h3=>by rw[d4 j (by omega) h2,ZZ,Z9,if_neg (by omega),Z7,if_neg h3.symm]
   have k4m:s4.get m=some (.map (SF (L'.map (YN a)++[YN a c]) 0) false):=by rw[d4 m (by omega) (by omega),ZZ,Z9,if_neg (by omega),Z7,if_pos rfl]
   have hrv:∀j,j<s.next->¬Yn rv j:=fun j hj h=>by have:=hR.lt h;omega
   have R3:LW (s4.new (.cells [.int .i64 (L'.length:Int)] 3 false 0 0)) s.next (kf.take x) rv:=hR.keep (by rw[Z'];omega) fun j h1 h2 h3=>by
    rw[ZZ,if_neg (by omega)];exact k4 j h1 (hRf j h3) (by omega)
   obtain⟨s6,b1,b2,b3,b4,b5⟩:=R3.app (by rw[Z'];omega) L'.length;rw[Z'] at b1 b2 b3 b4;rw[h_] at b1 b3;rw[b1];simp only[go_sem,q39,hw];have k6:∀j,j<s4.next->¬Yn rv j->s6.get j=s4.get j:=fun j h1 h2=>by rw[b4 j (by omega) h2,ZZ,if_neg (by omega)]
   refine IH (x+1) _ _ (by omega) ⟨by omega,fun t h1 h2 h3=>?_,?_,fun j h1 h2 h3=>by rw[k6 j (by omega) (hrv j h1),k4 j (by omega) (by omega) h3,hs j h1 h2 h3],by omega,b5 ((d5 ((YM.put (by omega) _).new _)).new _),L'++[c],s'.next+1,none,.sl (s4.next+1) 0 (x+1) none 1,U_,fun z hz=>?_,?_,?_,.inl rfl,.inr (by omega),by omega,(k6 _ (by omega) fun h=>by have:=hR.lt h;omega).trans d3,?_,?_,by rw[nD,hkx];exact b3,fun j hj=>?_⟩
   ·obtain⟨n5,n8,HP,vW,Iv,n39⟩:=Nz t h1 h2 h3;simp only[go_sem,n5,n8,HP,vW,Iv,n39];exact hold t h1 h2 h3
   ·simp only[go_sem]
   ·rcases afb.1 hz with h|h
    ·exact gy z h
    ·rw[ae0.1 h];exact nk
   ·rw[afX,afR];refine⟨gu,by simp,fun y hy z hz=>?_⟩;rw[afm,List.map_nil,ae0] at hz;rintro rfl;rw[hz] at hy;exact aa_ hy
   ·simp only[go_sem,aeW,aff]
   ·rw[k6 m (by omega) (hrv m nm),k4m,afX,afm,List.map_nil]
   ·simp only[go_sem]
   ·rw[Y6] at hj;omega
 ·have rT:x=2^a.lines.toNat:=by omega
  subst rT;rw[List.drop_of_length_le (by omega),List.drop_of_length_le (by omega),Zl] at RK;obtain rfl:L'=Lf:=congrArg Prod.fst RK;rw[List.take_of_length_le (by omega)] at hR;simp only[go_sem,N5,q38,q39,Z8,afg];refine hk _ _ b' RP rv (fun t h1 h2 h3=>?_) ?_ Fz UF qw qb qm ?_ hR hRf hs XY YM
  ·have ZQ:∀k:Nat,39<=k->(k=t)=False:=fun k hk=>by simp;omega
   simp only[go_sem,ZQ];exact hold t (.inl h1) h2 h3
  ·simp only[go_sem,q5]
  ·simp only[go_sem,q8]
theorem vf {s:St}{b n:Nat}{t:TypeId}{cs:List AV}(hL:cs.length=n)(hg:s.get b=some (.cells cs t false 0 0))(x:AV)(hx:Zw x=true) :
  SG t 1 1 [x] (.sl b 0 n none 1) s=some (.sl s.next 0 (n+1) none 1,(s.put b .gone).new (.cells (cs++[x]) t false 0 0)):=by
 rw[Uq,hg,Wm (by omega) (by omega) (by simp[hx])]
theorem YY {s:St}{j k:Nat}{c c':List AV}{t t':TypeId}(h:s.get j=some (.cells c t false 0 0))(h':s.get k=some (.cells c' t' false 0 0))(ht:t≠t'):j≠k:=by
 rintro rfl;have:=h.symm.trans h'
 injection this with this
 injection this with _ e
 exact ht e
theorem aG {β:Type}{fin:Fl->β}{ks:List K}{ZV:β->Prop}{a:ZN}(ha:a.ok){L:List Nat}{q b i ob jr:Nat}{cap:Option Nat}{cN cF:List AV}{v w:AV}(hq:q<a.next.length)(hi:i<L.length)(hLi:gt L i=q)(hi9:i<=2^20)
  {e:Env}{s:St}(g1:Env.get e 1=.ptr 8 0)(g5:Env.get e 5=.sl b 0 L.length cap 1)(g6:Env.get e 6=.ptr ob 0)(g7:Env.get e 7=.int .i64 (i:Int))(g8:Env.get e 8=.sl jr 0 (2^a.lines.toNat) none 1)
  (gs:s.get 8=some (.cells [.int .i64 a.lines,XK a,YK a] 42 false 0 0))(Up:s.get ob=some (.cells [.int .i64 a.lines,v,w] 42 false 0 0))(gb:s.get b=some (.cells (ZO L) 3 false 0 0))(h8:8<s.next)(mX:ob<s.next)(hb:b<s.next)(qk:8≠ob)(h13:13<=s.next)
  (hv:Zi s 13 48 1 i cN v)(hw:Zi s 13 72 1 i cF w)(fr:Fr s)
  (hk:∀e' s' v' w' jc,(∀t:Nat,t<10->Env.get e' t=Env.get e t)->s'.get ob=some (.cells [.int .i64 a.lines,v',w'] 42 false 0 0)->Zi s' 13 48 1 (i+1) (cN++[.sl jr 0 (2^a.lines.toNat) none 1]) v'->Zi s' 13 72 1 (i+1) (cF++[.sl jc 0 (2^a.lines.toNat) none 1]) w' ->
   s'.get jc=some (.cells (ZH (XJ a.fa q)) 4 false 0 0)->s.next<=jc->jc<s'.next->(∀j,j<s.next->j≠ob->¬Yn v j->¬Yn w j->s'.get j=s.get j)->s.next<=s'.next->Fr s'->ZV (goN U fin ks e' s')) :
  ZV (go U fin ks (.raw CV) e s):=by
 have Te:=ha.few;rw[Tp jP];have R_:=fr.at;have Nz:∀t:Nat,t<10->(∀k:Nat,71<=k->(k=t)=False):=fun t ht=>fun k hk=>by simp;omega
 have TJ:∀j q,j<s.next->(j=s.next+q)=False:=fun j q hj=>by simp;omega
 have SN:∀j q,j<s.next->(s.next+q=j)=False:=fun j q hj=>by simp;omega
 have E5:∀q,q≠0->(s.next+q=s.next)=False:=fun q hq=>by simp;omega
 have E0:∀q,q≠0->(s.next=s.next+q)=False:=fun q hq=>by simp;omega
 have qo:q<a.Z4.length:=by rw[ha.fl];exact hq
 have Sx:(XJ a.fa q).length=2^a.lines.toNat:=TT a.fa q;have Nv:=ha.j8;have hmp:0<2^a.lines.toNat:=Nat.two_pow_pos _;have r2:=Xh (nl:=a.Yx) qo;have U8:=CW ha qo;have ZQ:XJ a.fa q≠[]:=fun e=>by rw[e,List.length_nil] at Sx;omega
 have ac7:ZP a.Z4[q].1 (ZH a.Z4[q].2)=.fz (ZH (XJ a.fa q)):=by
  rw[U8]
  cases hh:ZH (XJ a.fa q) with
  |nil=>have:=congrArg List.length hh;rw[Ym,Sx,List.length_nil] at this;omega
  |cons x l=>cases a.Z4[q].1 <;> rfl
 rw[ac7] at r2;have BG:=acL (XJ a.fa q) ZQ (by omega);rw[Sx] at BG;have o1:=Y1 (l:=L) (i:=i) hi;rw[hLi] at o1;unfold XK YK at gs;have x1:(ob=8)=False:=eq_false (fun e=>qk e.symm);have x2:(8=ob)=False:=eq_false qk;have RQ:(i+1)*24<=1099511627776:=by omega
 have TG:i+1<=1099511627776:=by omega
 have aF:b≠ob:=YY gb Up (by decide);have hb8:b≠8:=YY gb gs (by decide);have x3:(b=ob)=False:=eq_false aF;have x4:(ob=b)=False:=eq_false aF.symm;have key:∀(E:Env) (S:St),(∀t:Nat,t<10->Env.get E t=Env.get e t) ->
   S.get ob=some (.cells [.int .i64 a.lines,.sl (s.next+22) 0 (i+1) none 1,.sl (s.next+25) 0 (i+1) none 1] 42 false 0 0) ->
   S.get (s.next+22)=some (.cells (cN++[.sl jr 0 (2^a.lines.toNat) none 1]) 48 false 0 0)->S.get (s.next+25)=some (.cells (cF++[.sl (s.next+24) 0 (2^a.lines.toNat) none 1]) 72 false 0 0)->S.get (s.next+24)=some (.cells (ZH (XJ a.fa q)) 4 false 0 0) ->
   (∀j,j<s.next->j≠ob->¬Yn v j->¬Yn w j->S.get j=s.get j)->s.next+25<S.next->Fr S->cN.length=i->cF.length=i->ZV (goN U fin ks E S):=by
  intro E S k1 k2 k3 k4 k5 k6 k7 k8 k9 k10;exact hk E S (.sl (s.next+22) 0 (i+1) none 1) (.sl (s.next+25) 0 (i+1) none 1) (s.next+24) k1 k2 (.inr ⟨by omega,by simp[k9],s.next+22,by omega,by omega,rfl,k3⟩) (.inr ⟨by omega,by simp[k10],s.next+25,by omega,by omega,rfl,k4⟩) k5 (by omega) (by omega) k6 (by omega) k8
 rcases hv with⟨i0,rfl,rfl⟩|⟨i0,rZ,bv,v1,v2,rfl,v4⟩
 ·rcases hw with⟨_,rfl,rfl⟩|⟨i1,_⟩
  ·subst i0;simp only[go_sem,g1,g5,g6,g7,g8,gs,Up,gb,hi,o1,r2,ng,BG,Xy,ZD,ae3,afu,Nat.reducePow,ad4,aeX,R_,h8,mX,hb,TJ,SN,E5,E0,x1,x2,x3,x4,RQ,TG];refine key _ _ (fun t ht=>?_) ?_ ?_ ?_ ?_ (fun j h1 h2 _ _=>?_) ?_ ?_ rfl rfl
   ·have ZQ:=Nz t ht;simp only[go_sem,ZQ]
   ·simp only[go_sem]
   ·simp[go_sem,TJ,SN,mX,aeX]
   ·simp[go_sem,TJ,SN,mX,aeX]
   ·simp[go_sem,TJ,SN,mX,aeX]
   ·have e0:∀q,(s.next+q=j)=False:=fun q=>by simp;omega
    simp only[Z7,ZZ,Z9,Z',Z_,Z0,aeX,Nat.reduceAdd,e0,eq_false h2.symm,if_false]
   ·simp only[Z9,Z',Z_];omega
   ·repeat first|exact fr|apply Fr.new|apply Fr.put|apply Fr.upto
    all_goals try simp only[Z9,Z',Z_]
    all_goals omega
  ·omega
 ·rcases hw with⟨i1,_⟩|⟨_,AK,bw,w1,w2,rfl,w4⟩
  ·omega
  ·rw[ae3] at rZ AK;have n1:=YY v4 w4 (by decide);have n2:=YY v4 Up (by decide);have n3:=YY w4 Up (by decide);have n4:=YY v4 gb (by decide);have n5:=YY w4 gb (by decide);have n6:=YY v4 gs (by decide);have n7:=YY w4 gs (by decide);have y1:(bv=bw)=False:=eq_false n1;have y2:(bv=ob)=False:=eq_false n2;have y3:(bw=ob)=False:=eq_false n3;have y4:(bv=b)=False:=eq_false n4;have y5:(bw=b)=False:=eq_false n5;have y6:(bv=8)=False:=eq_false n6;have y7:(bw=8)=False:=eq_false n7;have y8:(ob=bv)=False:=eq_false n2.symm;have y9:(ob=bw)=False:=eq_false n3.symm;have y10:(bw=bv)=False:=eq_false n1.symm;have a1:=fun (S:St) (h:S.get bv=some (.cells cN 48 false 0 0))=>vf rZ h (.sl jr 0 (2^a.lines.toNat) none 1) rfl
   have a2:=fun (S:St) (h:S.get bw=some (.cells cF 72 false 0 0))=>vf AK h (.sl (s.next+24) 0 (2^a.lines.toNat) none 1) rfl
   simp only[go_sem,g1,g5,g6,g7,g8,gs,Up,gb,hi,o1,r2,ng,BG,ZD,ae3,afu,Nat.reducePow,ad4,aeX,R_,h8,mX,hb,TJ,SN,E5,E0,x1,x2,x3,x4,RQ,TG,v2,v4,w2,w4,y1,y2,y3,y4,y5,y6,y7,y8,y9,y10,a1,a2];refine key _ _ (fun t ht=>?_) ?_ ?_ ?_ ?_ (fun j h1 h2 h3 h4=>?_) ?_ ?_ rZ AK
   ·have ZQ:=Nz t ht;simp only[go_sem,ZQ]
   ·simp only[go_sem]
   ·simp[go_sem,TJ,SN,mX,v2,w2,aeX]
   ·simp[go_sem,TJ,SN,mX,v2,w2,aeX]
   ·simp[go_sem,TJ,SN,mX,v2,w2,aeX]
   ·have e0:∀q,(s.next+q=j)=False:=fun q=>by simp;omega
    rw[Y6] at h3 h4;simp only[Z7,ZZ,Z9,Z',Z_,Z0,aeX,Nat.reduceAdd,e0,eq_false h2.symm,eq_false h3,eq_false h4,if_false]
   ·simp only[Z9,Z',Z_];omega
   ·repeat first|exact fr|apply Fr.new|apply Fr.put|apply Fr.upto
    all_goals try simp only[Z9,Z',Z_]
    all_goals omega
def QQ (s:St)(b:Nat)(t:TypeId)(c:AV)(l:List AV):Prop:=∃j cap,c=.sl j 0 l.length cap 1/\j<s.next/\j≠b/\13<=j/\s.get j=some (.cells l t false 0 0)
theorem QQ.mono {s s':St}{b b':Nat}{t:TypeId}{c:AV}{l:List AV}(h:QQ s b t c l)(hn:s.next<=s'.next)(hg:∀j,j<s.next->j≠b->13<=j->s.get j=some (.cells l t false 0 0)->j≠b'/\s'.get j=some (.cells l t false 0 0)):QQ s' b' t c l:=by
 obtain⟨j,cap,h1,h2,h3,h4,h5⟩:=h;obtain⟨h6,h7⟩:=hg j h2 h3 h4 h5;exact⟨j,cap,h1,by omega,h6,h4,h7⟩
theorem QQ.YG {s:St}{b d:Nat}{c:AV}{l:List AV}{t:TypeId}(h:QQ s b t c l)(Jc:YZ U t=some false)(WU:size U t=some 1)(LP:l.all Zw=true)(hf:Zg (Go.Am.YG U s d) l=some l):Go.Am.YG U s (d+1) c=some (.fz l):=by
 obtain⟨j,cap,rfl,_,_,_,h5⟩:=h;rw[WQ,h5,YI,ae3,XG,Jc,WU,Xj,if_pos LP,Yw,hf,VT]
theorem Zi.RW {s:St}{B:Nat}{t:TypeId}{i:Nat}{cs:List AV}{v:AV}(h:Zi s B t 1 i cs v){j:Nat}(hj:Yn v j):B<=j/\j<s.next/\s.get j=some (.cells cs t false 0 0):=by
 rcases h with⟨_,rfl,_⟩|⟨_,_,b,h2,h3,rfl,h5⟩
 ·exact absurd hj (XH j)
 ·rw[Y6] at hj;subst hj;exact⟨h2,h3,h5⟩
structure Vg (s:St)(b:Nat)(a:ZN)(cN cF:List AV)(v w:AV):Prop where
 v:Zi s 13 48 1 cN.length cN v
 w:Zi s 13 72 1 cF.length cF w
 ln:cN.length=(PK a.fa (YN a)).length
 lf:cF.length=(PK a.fa (YN a)).length
 bn:∀j (h:j<(PK a.fa (YN a)).length) (h':j<cN.length),QQ s b 3 cN[j] (ZO (PK a.fa (YN a))[j].2)
 bf:∀j (h:j<(PK a.fa (YN a)).length) (h':j<cF.length),QQ s b 4 cF[j] (ZH (XJ a.fa (PK a.fa (YN a))[j].1))
 h9:b≠9
theorem Vg.keep {s S:St}{b:Nat}{a:ZN}{cN cF:List AV}{v w:AV}(h:Vg s b a cN cF v w)(hn:S.next=s.next)(hg:∀j,j≠9->S.get j=s.get j):Vg S b a cN cF v w :=
 ⟨h.v.R9 (by omega) fun j c h _ h2=>by rw[hg j (by omega)];exact h,h.w.R9 (by omega) fun j c h _ h2=>by rw[hg j (by omega)];exact h,h.ln,h.lf,
  fun j h1 h'=>(h.bn j h1 h').mono (by omega) fun k _ h2 h3 h5=>⟨h2,by rw[hg k (by omega)];exact h5⟩,fun j h1 h'=>(h.bf j h1 h').mono (by omega) fun k _ h2 h3 h5=>⟨h2,by rw[hg k (by omega)];exact h5⟩,h.h9⟩
theorem Vg.na {s:St}{b:Nat}{a:ZN}{cN cF:List AV}{v w:AV}(h:Vg s b a cN cF v w):cN.all Zw=true/\cF.all Zw=true:=by
 have h1:=h.ln;have h2:=h.lf;refine⟨?_,?_⟩
 ·rw[ae9];intro x hx;obtain⟨j,hj,rfl⟩:=ae8.1 hx;obtain⟨_,_,e,_⟩:=h.bn j (by omega) hj;rw[e];rfl
 ·rw[ae9];intro x hx;obtain⟨j,hj,rfl⟩:=ae8.1 hx;obtain⟨_,_,e,_⟩:=h.bf j (by omega) hj;rw[e];rfl
theorem Vg.YG {s:St}{b:Nat}{a:ZN}{cN cF:List AV}{v w:AV}(h:Vg s b a cN cF v w)(d:Nat):Go.Am.YG U s (d+3) v=some (ZP true ((PK a.fa (YN a)).map fun x=>AV.fz (ZO x.2)))/\Go.Am.YG U s (d+3) w=some (ZP true ((PK a.fa (YN a)).map fun x=>AV.fz (ZH (XJ a.fa x.1)))) :=
 ⟨h.v.Qp U AZ AY h.na.1 (d:=d+2) (TS h.ln fun j h1 h'=>(h.bn j h' h1).YG De Dd (Vr _) (SH _ _ _)),h.w.Qp U AX AW h.na.2 (d:=d+2) (TS h.lf fun j h1 h'=>(h.bf j h' h1).YG vR vQ (Tl _) (Qq _ _ _))⟩
theorem aax {a:ZN}(ha:a.ok){e:Env}{s:St}(g1:Env.get e 1=.ptr 8 0)(g2:Env.get e 2=.ptr 9 0)(g3:Env.get e 3=.fz (ZO (TP a)))(g4:Env.get e 4=.map 10)(g5:Env.get e 5=.sl 11 0 1 (some 1) 1)(g6:Env.get e 6=.ptr 12 0)(g7:Env.get e 7=.int .i64 (0:Nat))
  (gs:s.get 8=some (.cells [.int .i64 a.lines,XK a,YK a] 42 false 0 0))(g9:s.get 9=some (.cells [.int .i64 0,.ZR,.ZR] 42 false 0 0))(gm:s.get 10=some (.map (SF [YN a 0] 0) false))(gb:s.get 11=some (.cells (ZO [0]) 3 false 0 0))(Up:s.get 12=some (.cells [.int .i64 a.lines,.ZR,.ZR] 42 false 0 0))(nx:13<=s.next)(fr:Fr s){β:Type}{fin:Fl->β}{ks:List K}{ZV:β->Prop}
  (hk:∀e' s' v w b cN cF,Env.get e' 6=.ptr 12 0->Env.get e' 2=.ptr 9 0->s'.get 12=some (.cells [.int .i64 a.lines,v,w] 42 false 0 0)->s'.get 9=some (.cells [.int .i64 0,.ZR,.ZR] 42 false 0 0)->Vg s' b a cN cF v w->ZV (goN U fin ks e' s')) :
  ZV (Vx U fin (.bk 0::ks) Lo e s):=by
 have Te:=ha.few;have hA:=ha.VK;have Nv:=ha.j8;have hmp:0<2^a.lines.toNat:=Nat.two_pow_pos _;refine ZC (σ:=Nat) (fun i=>a.next.length-i) (fun i e s=>Env.get e 1=.ptr 8 0/\Env.get e 2=.ptr 9 0/\Env.get e 3=.fz (ZO (TP a))/\Env.get e 4=.map 10/\Env.get e 6=.ptr 12 0/\Env.get e 7=.int .i64 (i:Nat)/\s.get 8=some (.cells [.int .i64 a.lines,XK a,YK a] 42 false 0 0)/\s.get 9=some (.cells [.int .i64 0,.ZR,.ZR] 42 false 0 0)/\13<=s.next/\Fr s /\
   ∃(L:List Nat) (b:Nat) (cap:Option Nat) (acc:List (Nat×List Nat)) (cN cF:List AV) (v w:AV),Env.get e 5=.sl b 0 L.length cap 1/\(cap=none\/cap=some L.length)/\s.get b=some (.cells (ZO L) 3 false 0 0)/\b<s.next/\(b=11\/13<=b)/\(∀z∈L,z<a.next.length)/\(L.map (YN a)).Nodup/\s.get 10=some (.map (SF (L.map (YN a)) 0) false) /\
    s.get 12=some (.cells [.int .i64 a.lines,v,w] 42 false 0 0)/\Zi s 13 48 1 i cN v/\Zi s 13 72 1 i cF w/\acc.length=i/\cN.length=i/\cF.length=i /\
    (∀j (h:j<acc.length) (h':j<cN.length),QQ s b 3 cN[j] (ZO acc[j].2))/\(∀j (h:j<acc.length) (h':j<cF.length),QQ s b 4 cF[j] (ZH (XJ a.fa acc[j].1))) /\
    i<=L.length/\acc++Xe (YN a) (YU a.fa) (a.next.length+1-i) i L=PK a.fa (YN a)) 0 ?_
  ⟨g1,g2,g3,g4,g6,g7,gs,g9,nx,fr,[0],11,some 1,[],[],[],.ZR,.ZR,g5,.inr rfl,gb,by omega,.inl rfl,fun z hz=>by rw[ae0.1 hz];exact ha.pos,by simp,gm,Up,Zi.nil _ _ _ _,Zi.nil _ _ _ _,rfl,rfl,rfl,fun j h=>by simp at h,fun j h=>by simp at h,ae5 _,rfl⟩
 clear g1 g2 g3 g4 g5 g6 g7 gs g9 gb gm Up nx fr e s;rintro Lp i e s ⟨g1,g2,g3,g4,g6,g7,gs,g9,nx,fr,L,b,cap,acc,cN,cF,v,w,g5,LS,gb,nb,hb,vZ,LX,gm,Up,hv,hw,adN,rZ,AK,fJ,fI,hiL,Zp⟩ IH;have aeq:L.length<=a.next.length:=WE LX vZ;by_cases hd:i<L.length
 ·have S6:=ZI hd (by omega);have hq:L[i]<a.next.length:=vZ _ (ae2 hd);have hLi:L[i]? = some L[i]:=aaa hd;have o1:=Y1 (l:=L) (i:=i) hd;rw[ZJ hd] at o1;rw[show a.next.length+1-i=(a.next.length+1-(i+1))+1 by omega,Xe,hLi] at Zp;simp only at Zp;have U8:=Xi (nl:=a.YC) hq;have hlen:=(ha.row _ hq).1;have hl:=ZL a.next[L[i]].1 (ints a.next[L[i]].2);rw[Xz,hlen] at hl;generalize hqe:L[i]=q at *;have JD:=gs;unfold XK YK at JD;simp only[go_sem,Lo,g1,g5,g7,JD,gb,o1,Z8,hd,U8,hl,ae3];refine aay (ZV:=ZV) ha (L:=L) (q:=q) (b:=b) (m:=10) (cap:=cap) hq LS vZ LX (by omega) ?_ ?_ ?_ ?_ ?_ ?_ ?_ gm gb (by rw[Z_];omega) (by rw[Z_];omega) (fr.upto (by omega)) ?_
  case refine_8 =>
   intro e2 s2 b2 aaz rv Vy p5 aaA TG nb2 nM qm2 p8 hR hRf WC K2 TC;simp only[Z_,Z0] at TG hR WC K2;obtain⟨nd2,ac5,FJ,A7,_⟩:=WV (κ:=YN a) (YU a.fa q) L LX;have A7:(Zl (YN a) (YU a.fa q) L).2.length=2^a.lines.toNat:=by rw[A7];exact NW a.fa q
   have qA:∀z∈(Zl (YN a) (YU a.fa q) L).1,z<a.next.length:=by
    have:=(Ua (κ:=YN a) (ρ:=YN a) (Q:=fun z=>z<a.next.length) (fun _ _ _ _=>Iff.rfl) (YU a.fa q) L (fun y hy=>by
     obtain⟨x,hx,rfl⟩:=afe.1 hy;exact hA.lt q x hq (afh.1 hx)) vZ).2
    exact this
   have hLf:=FJ i hd;rw[hLi] at hLf;generalize aeO:(Zl (YN a) (YU a.fa q) L).1=Lf at *;generalize aeP:(Zl (YN a) (YU a.fa q) L).2=kf at *;have il:i<Lf.length:=by omega
   have Jy:gt Lf i=q:=by
    rw[aaa il] at hLf;rw[ZJ il];exact Option.some.inj hLf
   obtain⟨jr,rfl,hjr,jr1,jr2⟩:∃jr,rv=.sl jr 0 (2^a.lines.toNat) none 1/\s2.get jr=some (.cells (ZO kf) 3 false 0 0)/\s.next+10<=jr/\jr<s2.next:=by
    rcases hR with⟨_,h⟩|⟨j,h1,h2,h3,h4⟩
    ·rw[h,List.length_nil] at A7;omega
    ·exact⟨j,by rw[h1,A7],h2,h3,h4⟩
   have hjb:=hRf jr ((Y6 _ _ _).2 rfl);have E2:∀t:Nat,t<10->t≠5->t≠8->Env.get e2 t=Env.get e t:=fun t h1 h5 h8=>by
    rw[Vy t h1 h5 h8];have ZQ:∀k:Nat,10<=k->(k=t)=False:=fun k hk=>by simp;omega
    have tI:(8=t)=False:=by simp;omega
    simp only[go_sem,ZQ,tI]
   have p1:=(E2 1 (by omega) (by omega) (by omega)).trans g1;have p2:=(E2 2 (by omega) (by omega) (by omega)).trans g2;have p3:=(E2 3 (by omega) (by omega) (by omega)).trans g3;have p4:=(E2 4 (by omega) (by omega) (by omega)).trans g4;have p6:=(E2 6 (by omega) (by omega) (by omega)).trans g6;have p7:=(E2 7 (by omega) (by omega) (by omega)).trans g7;have u8:=(WC 8 (by omega) (by omega) (by omega)).trans gs;have u9:=(WC 9 (by omega) (by omega) (by omega)).trans g9;have u12:=(WC 12 (by omega) (by omega) (by omega)).trans Up;have LR:Zi s2 13 48 1 i cN v:=hv.R9 (by omega) fun j c h1 h2 h3=>by rw[WC j (by omega) (YY h1 gb (by decide)) (by omega)];exact h1
   have I1:Zi s2 13 72 1 i cF w:=hw.R9 (by omega) fun j c h1 h2 h3=>by rw[WC j (by omega) (YY h1 gb (by decide)) (by omega)];exact h1
   have adO:∀j (h:j<acc.length) (h':j<cN.length),QQ s2 b2 3 cN[j] (ZO acc[j].2):=fun j h h'=>(fJ j h h').mono (by omega) fun k h1 h2 h3 h4=>⟨by omega,by rw[WC k (by omega) h2 (by omega)];exact h4⟩
   have adP:∀j (h:j<acc.length) (h':j<cF.length),QQ s2 b2 4 cF[j] (ZH (XJ a.fa acc[j].1)):=fun j h h'=>(fI j h h').mono (by omega) fun k h1 h2 h3 h4=>⟨by omega,by rw[WC k (by omega) h2 (by omega)];exact h4⟩
   simp only[go_sem];refine aG (ZV:=ZV) ha (L:=Lf) (q:=q) (b:=b2) (i:=i) (ob:=12) (jr:=jr) (cap:=aaz) hq il Jy (by omega) p1 p5 p6 p7 p8 u8 u12 nM (by omega) (by omega) nb2 (by omega) (by omega) LR I1 TC ?_;intro e3 s3 v' w' jc QG adQ qM qC hjc jc1 jc2 fX lL HF;have qE:∀t:Nat,t<10->Env.get e3 t=Env.get e2 t:=QG;have o7:=(QG 7 (by omega)).trans p7;simp only[go_sem,o7,S6];have nv:∀j c t,s2.get j=some (.cells c t false 0 0)->t≠48->¬Yn v j:=fun j c t h1 h2 h3=>h2 (by
    have:=LR.RW h3;by_cases e:t=48
    ·exact e
    ·exact absurd rfl (YY h1 this.2.2 e))
   have nw:∀j c t,s2.get j=some (.cells c t false 0 0)->t≠72->¬Yn w j:=fun j c t h1 h2 h3=>h2 (by
    have:=I1.RW h3;by_cases e:t=72
    ·exact e
    ·exact absurd rfl (YY h1 this.2.2 e))
   have pr:∀j c t,j<s2.next->j≠12->s2.get j=some (.cells c t false 0 0)->t≠48->t≠72->s3.get j=some (.cells c t false 0 0):=fun j c t h1 h2 h3 h4 h5=>by
    rw[fX j h1 h2 (nv j c t h3 h4) (nw j c t h3 h5)];exact h3
   have adR:s3.get 10=s2.get 10:=fX 10 (by omega) (by omega) (fun h=>by have:=(LR.RW h).1;omega) fun h=>by have:=(I1.RW h).1;omega
   have bj3:∀c l,QQ s2 b2 3 c l->QQ s3 b2 3 c l:=fun c l h=>h.mono lL fun k h1 h2 h3 h4=>⟨h2,pr k _ _ h1 (by omega) h4 (by decide) (by decide)⟩
   have bj4:∀c l,QQ s2 b2 4 c l->QQ s3 b2 4 c l:=fun c l h=>h.mono lL fun k h1 h2 h3 h4=>⟨h2,pr k _ _ h1 (by omega) h4 (by decide) (by decide)⟩
   have Sx:(XJ a.fa q).length=2^a.lines.toNat:=TT a.fa q;rw[List.append_cons] at Zp;refine IH (i+1) _ _ (by omega) ⟨?_,?_,?_,?_,?_,?_,pr _ _ _ (by omega) (by omega) u8 (by decide) (by decide),pr _ _ _ (by omega) (by omega) u9 (by decide) (by decide),by omega,HF,Lf,b2,aaz,acc++[(q,kf)],cN++[.sl jr 0 (2^a.lines.toNat) none 1],cF++[.sl jc 0 (2^a.lines.toNat) none 1],v',w',?_,aaA,pr _ _ _ nb2 (by omega) nM (by decide) (by decide),by omega,by omega,qA,nd2,adR.trans qm2,adQ,qM,qC,by simp[adN],by simp[rZ],by simp[AK],fun j h h'=>?_,fun j h h'=>?_,by omega,Zp⟩
   case refine_8 =>
    by_cases hj:j<acc.length
    ·rw[afv (by omega),afv hj];exact bj3 _ _ (adO j hj (by omega))
    ·have hj:j=acc.length:=by rw[aeW,aff] at h;omega
     subst hj;rw[afy (by omega),afy (by omega)];simp only[List.getElem_singleton];exact bj3 _ _ ⟨jr,none,by rw[Xb,A7],jr2,hjb,by omega,hjr⟩
   case refine_9 =>
    by_cases hj:j<acc.length
    ·rw[afv (by omega),afv hj];exact bj4 _ _ (adP j hj (by omega))
    ·have hj:j=acc.length:=by rw[aeW,aff] at h;omega
     subst hj;rw[afy (by omega),afy (by omega)];simp only[List.getElem_singleton];exact⟨jc,none,by rw[Ym,Sx],jc2,by omega,by omega,hjc⟩
   all_goals simp only[go_sem,(QG 1 (by omega)).trans p1,(QG 2 (by omega)).trans p2,(QG 3 (by omega)).trans p3,(QG 4 (by omega)).trans p4,(QG 5 (by omega)).trans p5,(QG 6 (by omega)).trans p6]
  all_goals simp only[go_sem,g3,g4,g5]
  all_goals rfl
 ·have DX:i=L.length:=by omega
  have TL:Xe (YN a) (YU a.fa) (a.next.length+1-i) i L=[]:=by
   rw[show a.next.length+1-i=(a.next.length-i)+1 by omega,Xe,afz (by omega)]
  rw[TL,List.append_nil] at Zp;have hle:decide ((i:Int)<(L.length:Int))=false:=by rw[Z8];simp;omega
  simp only[go_sem,Lo,g5,g7,hle];have iZ:Zi s 13 48 1 cN.length cN v:=by rw[rZ];exact hv
  have L5:Zi s 13 72 1 cF.length cF w:=by rw[AK];exact hw
  refine hk _ _ v w b cN cF ?_ ?_ Up g9 ⟨iZ,L5,by rw[<-Zp];omega,by rw[<-Zp];omega,?_,?_,by omega⟩
  ·simp only[go_sem,g6]
  ·simp only[go_sem,g2]
  ·rw[<-Zp];exact fJ
  ·rw[<-Zp];exact fI
theorem ik {a:ZN}(ha:a.ok):(PK a.fa (YN a)).map (fun x=>AV.fz (ZO x.2))=(Xd a.fa).map (fun x=>AV.fz (ZO x.2))/\(PK a.fa (YN a)).map (fun x=>AV.fz (ZH (XJ a.fa x.1)))=(Xd a.fa).map (fun x=>AV.fz (ZH (XJ a.fa x.1))):=by
 obtain⟨h1,h2⟩:=min_eq ha.VK (cl:=YN a) fun u v hu hv=>t_ ha hu hv
 rw[h1];simp only[List.map_map];refine⟨rfl,afx fun x hx=>?_⟩;show _=AV.fz (ZH (XJ a.fa (Zy a.fa x.1)))
 congr 2
 unfold XJ;refine afx fun y hy=>?_
 exact (Hi ha.VK (h2 x hx) (afh.1 hy)).symm
theorem ac6 {a:ZN}(ha:a.ok):Zv U 63 [YP a]=some (YP (Z2 a)):=by
 refine Za acZ (by kernel_rfl) (by simp[ZK,YF]) ?_;have h172:=ada ha;rw[ZB] at h172 ⊢;have nn:=ZT a.YC (a.next.map ZX);have nf:=ZT a.Yx (a.Z4.map ZY);have cn:=ZS a.YC (a.next.map ZX);have cf:=ZS a.Yx (a.Z4.map ZY);have hA:=ha.VK;have o1:=Ij (l:=TP a) (i:=0) (by rw[MT ha];exact ha.pos);have o1:UT 1 (.fz (ZO (TP a))) (.int .i64 0)=some (.fp [.int .i64 ((YN a 0:Nat):Int)] 0):=o1;have up:=fun (S:St) (h:S.get 10=some (.map [] false))=>Ik (m:=10) (ks:=[]) h (k:=YN a 0) (by simp)
 have up:∀S:St,S.get 10=some (.map [] false)->Xm U 204 (.map 10) (.int .i64 ((YN a 0:Nat):Int)) (.int .i64 0) S=some (S.put 10 (.map (SF [YN a 0] 0) false)):=up;unfold XK YK at h172 ⊢;simp only[go_sem,aL,nn,nf,cn,cf,h172,o1,up];refine aax (ZV:=fun (o:Option AV)=>o=some (YP (Z2 a))) ha ?_ ?_ ?_ ?_ ?_ ?_ ?_ ?_ ?_ ?_ ?_ ?_ ?_ ?_ ?_
 case refine_15 =>
  intro e' s' v w b cN cF p6 p2 u12 u9 MR;have nav:=MR.v.Zw;have naw:=MR.w.Zw;have hE:YP (Z2 a)=.agg [.int .i64 a.lines,ZP true ((Xd a.fa).map fun x=>AV.fz (ZO x.2)),ZP true ((Xd a.fa).map fun x=>AV.fz (ZH (XJ a.fa x.1)))]:=by
   rw[ZB,XK,YK,Z2];simp only[List.map_map];have e1:∀x:Nat×List Nat,(ZX∘fun x:Nat×List Nat=>(false,Mv x.2)) x=AV.fz (ZO x.2):=fun x=>by simp only[Function.comp,ZX,Sl];rfl
   have e2:∀x:Nat×List Nat,(ZY∘fun x:Nat×List Nat=>(false,XJ a.fa x.1)) x=AV.fz (ZH (XJ a.fa x.1)):=fun x=>by simp only[Function.comp,ZY,Sl]
   rw[afx (fun x _=>e1 x),afx (fun x _=>e2 x)]
  obtain⟨m1,m2⟩:=ik ha;have MK:=fun x=>MR.keep (S:=s'.put 9 x) (by rw[Z9]) fun j hj=>by rw[Z7,if_neg (fun e=>hj e.symm)]
  have fv':=fun x=>((MK x).YG 36).1
  have fw':=fun x=>((MK x).YG 36).2
  rw[m1] at fv';rw[m2] at fw';rw[hE];simp only[go_sem,p6,p2,u12,u9,nav,naw,fv',fw']
 case refine_14 =>
  repeat first|exact Fr.own|apply Fr.new|apply Fr.put|apply Fr.upto
  all_goals simp only[go_sem]
 all_goals simp only[go_sem]
 all_goals rfl
theorem Kf (κ:Nat->Nat):∀(cs st:List Nat),(Zl κ cs st).2.length=cs.length
 |[],st=>rfl
 |c::cs,st=>by
  rw[Zl]
  cases decide (Ya (st.map κ) (κ c)<st.length) <;> simp[Kf κ cs]
theorem EX (κ:Nat->Nat)(row:Nat->List Nat){m:Nat}(hr:∀s,(row s).length=m):∀(f i:Nat) (st:List Nat),(Xe κ row f i st).length<=f/\∀x∈Xe κ row f i st,x.2.length=m
 |0,i,st=>by simp[Xe]
 |f+1,i,st=>by
  rw[Xe]
  cases st[i]? with
  |none=>simp
  |some s =>
   obtain⟨h1,h2⟩:=EX κ row hr f (i+1) (Zl κ (row s) st).1;refine⟨by simp only[afc];omega,fun x hx=>?_⟩;rcases afa.1 hx with rfl|hx
   ·simp only[Kf,hr]
   ·exact h2 x hx
theorem vg (A:Fa):(Xd A).length<=A.n+1/\∀x∈Xd A,x.2.length=A.m :=
 EX id (fun c=>(YU A c).map (Zy A)) (m:=A.m) (fun s=>by rw[ae7,NW]) (A.n+1) 0 [Zy A 0]
theorem qO {a:ZN}(ha:a.ok):Zv U 29 [YP (Z2 a),YP (Z2 a)]=some (.bool true):=by
 obtain⟨h1,h2⟩:=vg a.fa;have Te:=ha.few;have Nv:=ha.j8;have hn:a.fa.n=a.next.length:=rfl;have hm:a.fa.m=2^a.lines.toNat:=rfl;refine c60 _ _ rfl rfl (fun i _ _=>rfl) rfl (fun i _ _=>rfl) ?_ ?_ ?_ ?_
 ·simp only[Z2,ae7];omega
 ·simp only[Z2,ae7];omega
 ·intro r hr;simp only[Z2,afe] at hr;obtain⟨x,hx,rfl⟩:=hr;simp only[Sh,h2 x hx];omega
 ·intro r hr;simp only[Z2,afe] at hr;obtain⟨x,hx,rfl⟩:=hr;simp only[TT];omega
def Ba (a:ZN):AV:=bif Jf a != 0 then .X' [YP ⟨0,true,[],true,[]⟩,.int .i64 (Jf a)] else .X' [YP (Z2 a),.int .i64 0]
theorem c59 (a:ZN)(hn:a.next.length<=2^40)(hr:∀r∈a.next,r.2.length<=2^40):Zv U 35 [YP a]=some (Ba a):=by
 refine Za k59 (by kernel_rfl) (by simp[ZK,YF]) ?_;have h58:=c58 a hn hr;have nn:=ZT a.YC (a.next.map ZX);have nf:=ZT a.Yx (a.Z4.map ZY);have cn:=ZS a.YC (a.next.map ZX);have cf:=ZS a.Yx (a.Z4.map ZY);unfold Ba
 cases hc:Jf a != 0 with
 |true =>
  rw[ZB] at h58 ⊢;unfold XK YK at h58 ⊢;rw[show YP ⟨0,true,[],true,[]⟩=.agg [.int .i64 0,.ZR,.ZR] from rfl];simp (maxSteps:=2000000) +contextual only[go_sem,r59,nn,nf,cn,cf,h58,hc,cond_true]
 |false =>
  have h0:Jf a=0:=by simpa using hc
  have ha:=ZN.Bl h0;have h104:=ac6 ha;rw[h0] at h58;generalize hM:Z2 a=M at *;have HC:=ZT M.YC (M.next.map ZX);have HB:=ZT M.Yx (M.Z4.map ZY);have HA:=ZS M.YC (M.next.map ZX);have Hz:=ZS M.Yx (M.Z4.map ZY);rw[ZB a] at h58 h104 ⊢;rw[ZB M] at h104 ⊢;unfold XK YK at h58 h104 ⊢;simp (maxSteps:=2000000) +contextual only[go_sem,r59,nn,nf,cn,cf,HC,HB,HA,Hz,h58,h104,cond_false,KD]
end Go.Am
