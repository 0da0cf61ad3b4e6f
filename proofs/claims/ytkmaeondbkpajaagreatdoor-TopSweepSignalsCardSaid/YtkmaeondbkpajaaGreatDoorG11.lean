/- A part of the proof of a statement of this seat: the machine on which the program is read, and what it computes; for every input. -/
import Derived.Test.YtkmaeondbkpajaaGreatDoorG10
import Derived.Test.YtkmaeondbkpajaaGreatDoorG07
set_option linter.all false
namespace Go.Am
open Go
variable [ZZ]
set_option maxRecDepth 100000
set_option maxHeartbeats 8000000
theorem ahD {b n k:Nat}(h:k<=n):Ht 1 (.sl b 0 n none 1) none (some (.int .i64 (k:Int)))=some (.sl b 0 k none 1):=by
 have e1:YR (some (.int .i64 (k:Int))) n n=some k:=by simp[YR];omega
 have e2:YR none 0 k=some 0:=by simp[YR]
 simp only[Ht,Option.getD_none,e1,e2,ajj,ajr,if_true,Option.map_none,Nat.sub_zero]
theorem lx (XG:Nat->Nat->List Nat)(m f:Nat)(p:Pt):Jc XG m f p []=p:=by
 cases f <;> rfl
theorem lu (A:Fa)(x c:Nat):(N5 A x c).length<=A.n:=by
 unfold N5;have:=List.length_filter_le (fun u=>A.nx u x==c) (List.range A.n);rw[List.length_range] at this;exact this
theorem aex {β:Type}{fin:Fl->β}{ks:List K}{Zu:β->Prop}{A:Fa}(hA:A.ok){pb bl bp bs bb be bm N B lo hi F:Nat}{bx:Nat->Nat}{vs:Nat->Nat->AV}{p:Pt}{W:List Nat}{wv:AV}{e:Env}{s:St}(hn:A.n<=2^9)(hm:A.m<=2^8)(h:M9 s pb A.n bl bp bs bb be bm p)(hH:iW A p W)(hF:F<=2^12)(hme:2*(A.n-p.bg.length)+W.length<=F)
  (g3:Env.get e 3=.ptr pb 0)(g4:Env.get e 4=.sl B 0 A.m (some A.m) 1)(g8:Env.get e 8=wv)
  (hW:OO s N W wv)(bL:∀j,Xi wv j->Xr pb bl bp bs bb be bm j/\Ou lo hi j)(hN:N<=s.next)
  (hB:Cb s B A.m A.n (N5 A) lo hi bx vs)(iU:∀j,Ou lo hi j\/Xr pb bl bp bs bb be bm j)(fr:Fr s)
  (hk:∀e' s' Qs Qr Qq,Env.get e' 3=.ptr pb 0->M9 s' pb A.n bl bp bs Qs Qr Qq (Jc (N5 A) A.m F p W)->Zu (goN U fin ks e' s')) :
  Zu (SC U fin (.bk 6::ks) Jr e s):=by
 have lts:=h.jC;have hle:=hB.le;refine YG (σ:=Nat) (fun f=>f) (fun f e' s'=>f<=F/\Env.get e' 3=.ptr pb 0/\Env.get e' 4=.sl B 0 A.m (some A.m) 1/\s.next<=s'.next/\Fr s' /\
   ∃p' W' Qt Qs Qr Qq,Env.get e' 8=Qt/\M9 s' pb A.n bl bp bs Qs Qr Qq p'/\iW A p' W'/\2*(A.n-p'.bg.length)+W'.length<=f/\Jc (N5 A) A.m f p' W'=Jc (N5 A) A.m F p W/\OO s' N W' Qt/\(∀j,Xi Qt j->Xr pb bl bp bs Qs Qr Qq j/\Ou lo hi j)/\Cb s' B A.m A.n (N5 A) lo hi bx vs/\(∀j,Ou lo hi j\/Xr pb bl bp bs Qs Qr Qq j)) F ?_
  ⟨ajg _,g3,g4,ajg _,fr,p,W,wv,bb,be,bm,g8,h,hH,hme,rfl,hW,bL,hB,iU⟩
 rintro Lp f e' s' ⟨hf,q3,q4,UL,UB,p',W',Qt,Qs,Qr,Qq,q8,P,eI,abA,lr,tp,J_,B',abB⟩ IH;have J8:=tp.TK;rcases List.eq_nil_or_concat W' with rfl|⟨W0,k,rfl⟩
 ·rw[lx] at lr;simp only[go_sem,Jr,q8,J8];refine hk _ _ Qs Qr Qq ?_ (by rw[<-lr];exact P);simp only[go_sem,q3]
 ·rw[List.concat_eq_append] at *;obtain⟨f,rfl⟩:∃g,f=g+1:=⟨f-1,by simp at abA;omega⟩;have KD:(W0++[k]).getLast? = some k:=by simp
  obtain⟨H2,eH⟩:=Cg hA (fun y _ c _ u=>LS A y c u) eI KD;rw[Jc,KD] at lr;simp only[List.dropLast_concat] at lr H2 eH;have hkW:=eI.work k (by simp);obtain⟨k1,k2,k3⟩:=eI.wf.sp k hkW;have Qg:=eI.wf.few;have ai0:=eI.wf.le;have ai1:=eI.wf.ll;have bR:W0.length+1<=F:=by simp at abA;omega
  have hlen:(W0++[k]).length=W0.length+1:=by simp
  rw[hlen] at J8;obtain⟨b,R,rfl,hg,aQ⟩:∃b R,Qt=.sl b 0 (W0.length+1) none 1/\s'.get b=some (.cells (ZA (W0++[k]++R)) 3 false 0 0)/\N<=b/\b<s'.next:=by
   rcases tp with⟨_,h⟩|⟨b,R,h1,h2,h3,h4⟩
   ·simp at h
   ·exact⟨b,R,by rw[h1,hlen],h2,h3,h4⟩
  have o1:(ZA (W0++[k]++R))[W0.length]? = some (.int .i64 (k:Nat)):=by
   rw[X9 (by simp),CL (by simp),Ac (ajg _),Nat.sub_self];rfl
  have w1:IntKind.i64.wrap (((W0.length+1:Nat):Int)-1)=(W0.length:Int):=by rw[wrap_i64] <;> omega
  have jh:decide (((W0.length+1:Nat):Int)>0)=true:=by simp
  have sl1:=ahD (b:=b) (n:=W0.length+1) (k:=W0.length) (by omega);have o2:=X9 (l:=p'.bg) (i:=k) hkW;have o3:=X9 (l:=p'.en) (i:=k) (by omega);have ke:k<p'.en.length:=by omega
  have sl2:=abC (b:=bl) (n:=p'.list.length) (f:=gt p'.bg k) (t:=gt p'.en k) (.inl rfl) (by omega) (by omega);have bK:=P.jC;obtain⟨t1,t2,t3,t4,t5,t6,t7⟩:=bK;have c1:=ahE (s:=s'.upto (s'.next+21)) (b:=bl) (f:=gt p'.bg k) (k:=gt p'.en k-gt p'.bg k) (cap:=none) (L:=p'.list) (by rw[ZH];exact P.gl) (by rw[ZV];omega) (by omega) (by omega) (by omega);have Q5:∀j q,j<s'.next->(s'.next+q=j)=False:=fun j q hj=>by simp;omega
  have lb:=aQ.2;have q1:W0.length<W0.length+1:=by omega
  simp only[go_sem,Jr,q3,q4,q8,J8,hg,o1,w1,jh,sl1,o2,o3,hkW,ke,sl2,P.g,P.gb,P.ge,ajj,aeI,c1,Option.map_none,q1];have hg2:∀j x y,j<s'.next->((((s'.upto (s'.next+21)).new x).new y).get j=s'.get j):=fun j x y hj=>by
   rw[ZY,Z',ZV,if_neg (by omega),ZY,ZV,if_neg (by omega),ZH]
  have Tz:(piece p'.list (gt p'.bg k) (gt p'.en k)).length=gt p'.en k-gt p'.bg k:=KW (by omega);have hms:∀u∈piece p'.list (gt p'.bg k) (gt p'.en k),u<A.n:=fun u hu=>by
   obtain⟨i,h1,h2,rfl⟩:=(OQ (by omega)).1 hu;exact (eI.wf.li i (by omega)).1
  refine acj (N:=N) (n:=A.n) (m:=A.m) (nx:=A.nx) (B:=B) (lo:=lo) (hi:=hi) (bx:=bx) (vs:=vs) (bf:=N5 A) (p:=p') (W:=W0) (wv:=.sl b 0 W0.length none 1) (ms:=piece p'.list (gt p'.bg k) (gt p'.en k)) (mv:=.sl (s'.next+22) 0 (gt p'.en k-gt p'.bg k) none 1) hn hm (P.mono (by simp only[Z',ZV];omega) fun j hj=>hg2 j _ _ (P.lt j hj)) eI.wf eI.zero hms (by omega) (by omega) (fun y _ c _ u=>LS A y c u) (fun y _ c _=>lu A y c) ?_ ?_ ?_ ?_ ?_ ?_ (.inr ⟨b,[k]++R,rfl,?_,aQ.1,?_⟩) (fun j hj=>?_) ?_ (.inr ⟨s'.next+22,?_,?_,?_⟩) (fun j hj=>?_) (B'.keep (by simp only[Z',ZV];omega) fun j h1 h2=>hg2 j _ _ (by omega)) abB ?_ ?_
  case refine_16 =>
   intro e2 s2 wv2 cb ce cm Og jB P2 W2 Se hf2 hcb hce Gy fs2 qf IV;simp only[Z',ZV] at qf fs2 Se hcb hce Gy;simp only[go_sem];refine IH f _ _ (by omega) ⟨by omega,?_,?_,by omega,IV,_,_,wv2,cb,ce,cm,jB,P2,H2,by simp at abA;omega,lr,W2,fun j hj=>⟨hf2 j hj,?_⟩,?_,fun j=>?_⟩
   ·rw[Og 3 (by omega)];simp only[go_sem,q3]
   ·rw[Og 4 (by omega)];simp only[go_sem,q4]
   ·rcases Se j hj with h6|h6
    ·rw[Yu] at h6;exact (J_ j ((Yu _ _ _).2 h6)).2
    ·unfold Ou;omega
   ·refine B'.keep (by omega) fun j h1 h2=>?_
    have h3:Xr pb bl bp bs Qs Qr Qq j:=by rcases abB j with h|h;unfold Ou at h;omega;exact h
    rw[fs2 j (by omega) h3 (fun hb=>by
     rw[Yu] at hb;have:=(J_ j ((Yu _ _ _).2 hb)).2;unfold Ou at this;omega),hg2 j _ _ (by omega)]
   ·rcases abB j with h3|h3
    ·exact .inl h3
    ·unfold Xr at h3 ⊢;unfold Ou;omega
  case refine_15=>exact ((UB.upto (by omega)).new _).new _
  case refine_14 =>
   rw[Yu] at hj;subst hj;rw[Yu];refine⟨by unfold Xr;omega,by omega⟩
  case refine_13=>simp only[Z',ZV];omega
  case refine_12=>rw[ZY,Z',ZV,if_pos rfl];rfl
  case refine_11=>rw[Tz]
  case refine_10=>simp only[Z',ZV];omega
  case refine_9 =>
   rw[Yu] at hj;exact J_ j ((Yu _ _ _).2 hj)
  case refine_8=>simp only[Z',ZV];omega
  case refine_7=>rw[hg2 _ _ _ aQ.2,hg,ajQ]
  all_goals simp only[go_sem,q3,q4]
  all_goals rfl
def PJ (A:Fa)(x c i:Nat):List Nat:=(List.range i).filter fun u=>A.nx u x==c
theorem Fi (A:Fa)(x c i:Nat):PJ A x c (i+1)=if A.nx i x=c then PJ A x c i++[i] else PJ A x c i:=by
 unfold PJ;rw[List.range_succ,List.filter_append];by_cases e:A.nx i x=c <;> simp[e]
theorem oN (A:Fa)(x c i:Nat):(PJ A x c i).length<=i:=by
 unfold PJ;have:=List.length_filter_le (fun u=>A.nx u x==c) (List.range i);rw[List.length_range] at this;exact this
def Ga (f:Nat->AV)(c:Nat)(v:AV)(k:Nat):AV:=if k=c then v else f k
theorem vt {f:Nat->AV}{n c:Nat}(h:c<n)(v:AV):lay c [v] ((List.range n).map f)=some ((List.range n).map (Ga f c v)):=by
 rw[MF _ _ _ (by simpa using h)]
 congr 1
 apply List.ext_getElem?;intro k;rw[List.getElem?_set];simp only[ajv,aje,List.length_range,Ga];by_cases e:c=k
 ·subst e;rw[if_pos rfl,if_pos h,List.getElem?_range h];simp[Ga]
 ·rw[if_neg e];by_cases hk:k<n
  ·rw[List.getElem?_range hk];simp[Ga,Ne.symm e]
  ·rw[akb (by simp;omega)];rfl
theorem acN {β:Type}{fin:Fl->β}{ks:List K}{Zu:β->Prop}{a:YY}(ha:a.ok){x B bX m:Nat}{Bc:List AV}{e:Env}{s:St}(hx:x<2^a.lines.toNat)
  (g4:Env.get e 4=.sl B 0 m (some m) 1)(g5:Env.get e 5=.int .i64 (x:Int))(g40:Env.get e 40=ZG a.TN (a.next.map Zi))(g41:Env.get e 41=.int .i64 a.next.length)(g42:Env.get e 42=.int .i64 (0:Nat))
  (oM:x<m)(gB:s.get B=some (.cells Bc 39 false 0 0))(hBx:Bc[x]? = some (.sl bX 0 a.next.length (some a.next.length) 1))(gX:s.get bX=some (.cells ((List.range a.next.length).map fun _=>.ZM) 48 false 0 0))(Zv:B≠bX)(hB:B<s.next)(hX:bX<s.next)(fr:Fr s)
  (hk:∀e' s' vs,(∀t:Nat,t<6\/7<t/\t<40->Env.get e' t=Env.get e t)->s'.get bX=some (.cells ((List.range a.next.length).map vs) 48 false 0 0)->(∀c,c<a.next.length->JG s' s.next (PJ a.fa x c a.next.length) (vs c)) ->
   (∀j,j<s.next->j≠bX->s'.get j=s.get j)->s.next<=s'.next->Fr s'->Zu (goN U fin ks e' s')) :
  Zu (SC U fin (.bk 2::ks) ME e s):=by
 have Qg:=ha.few;refine YG (σ:=Nat) (fun i=>a.next.length-i) (fun i e' s'=>i<=a.next.length/\(∀t:Nat,t<6\/7<t/\t<42->Env.get e' t=Env.get e t)/\Env.get e' 42=.int .i64 (i:Nat)/\(∀j,j<s.next->j≠bX->s'.get j=s.get j)/\s.next<=s'.next/\Fr s' /\
   ∃vs:Nat->AV,s'.get bX=some (.cells ((List.range a.next.length).map vs) 48 false 0 0)/\(∀c,c<a.next.length->JG s' s.next (PJ a.fa x c i) (vs c))/\∀c c' j,c≠c'->c<a.next.length->c'<a.next.length->Xi (vs c) j->¬Xi (vs c') j) 0 ?_
  ⟨aji _,fun _ _=>rfl,g42,fun _ _ _=>rfl,ajg _,fr,fun _=>.ZM,gX,fun c _=>.inl ⟨rfl,rfl⟩,fun c c' j _ _ _ h=>absurd h (Ws j)⟩
 rintro Lp i e' s' ⟨dC,hold,q42,hs,UL,UB,vs,qX,TA,acO⟩ IH;have q4:=(hold 4 (by omega)).trans g4;have q5:=(hold 5 (by omega)).trans g5;have q40:=(hold 40 (by omega)).trans g40;have q41:=(hold 41 (by omega)).trans g41;by_cases hd:i<a.next.length
 ·have Qp:=ZE hd (by omega);have Sb:=Ru (nl:=a.TN) hd;have Gc:=ha.ie hd hx;have hc:a.fa.nx i x<a.next.length:=ha.Ob.lt i x hd hx;have gB':=(hs B hB Zv).trans gB;have o1:=OH vs hc;have hvc:=TA _ hc;have Gn:=oN a.fa x (a.fa.nx i x) i;have vr:PJ a.fa x (a.fa.nx i x) (i+1)=PJ a.fa x (a.fa.nx i x) i++[i]:=by rw[Fi,if_pos rfl]
  have hbo:∀c,c≠a.fa.nx i x->PJ a.fa x c (i+1)=PJ a.fa x c i:=fun c h=>by rw[Fi,if_neg (fun e=>h e.symm)]
  generalize a.fa.nx i x=c at *;have J0:=fun v=>vt (f:=vs) hc v
  have hX':bX<s'.next:=by omega
  have hBn:B<s'.next:=by omega
  have LC:=UB.at;have Q5:∀j q,j<s'.next->(j=s'.next+q)=False:=fun j q hj=>by simp;omega
  have Tp:∀j q,j<s'.next->(s'.next+q=j)=False:=fun j q hj=>by simp;omega
  have z1:(bX=B)=False:=eq_false Zv.symm;have z2:(B=bX)=False:=eq_false Zv;have key:∀(E:Env) (S:St),(∀t:Nat,t<6\/7<t/\t<42->Env.get E t=Env.get e' t)->Env.get E 42=.int .i64 ((i+1:Nat):Int) ->
    S.get bX=some (.cells ((List.range a.next.length).map (Ga vs c (.sl (s'.next+23) 0 ((PJ a.fa x c i).length+1) none 1))) 48 false 0 0)->S.get (s'.next+23)=some (.cells (ZA (PJ a.fa x c i++[i])) 3 false 0 0) ->
    (∀j,j<s'.next->j≠bX->¬Xi (vs c) j->S.get j=s'.get j)->s'.next+23<S.next->Fr S->Zu (SC U fin (.bk 2::ks) Lp E S):=by
   intro E S k1 k2 k3 k4 k5 k6 k7;refine IH (i+1) _ _ (by omega) ⟨by omega,fun t ht=>(k1 t ht).trans (hold t ht),k2,fun j h1 h2=>(k5 j (by omega) h2 fun h=>by have:=hvc.lt h;omega).trans (hs j h1 h2),by omega,k7,_,k3,fun d aJ=>?_,fun d d' j h1 h2 h3 h4=>?_⟩
   ·unfold Ga;by_cases aI:d=c
    ·subst aI;rw[if_pos rfl,vr];exact .inr ⟨s'.next+23,by simp,k4,by omega,k6⟩
    ·rw[if_neg aI,hbo d aI];exact (TA d aJ).keep (by omega) fun j h1 h2 h3=>k5 j h1 (by omega) fun h4=>acO d c j aI aJ hc h3 h4
   ·unfold Ga at h4 ⊢;by_cases aI:d=c
    ·have ic:d'≠c:=by omega
     rw[if_pos aI,Yu] at h4;rw[if_neg ic];intro h5;have:=(TA d' h3).lt h5;omega
    ·rw[if_neg aI] at h4;by_cases ic:d'=c
     ·rw[if_pos ic,Yu];have:=(TA d h2).lt h4;omega
     ·rw[if_neg ic];exact acO d d' j h1 h2 h3 h4
  have Un:((PJ a.fa x c i).length+1)*8<=1099511627776:=by omega
  have VD:(PJ a.fa x c i).length+1<=1099511627776:=by omega
  have vq:(0+1)*8<=1099511627776:=by omega
  have FK:∀t:Nat,t<6\/7<t/\t<42->(6=t)=False/\(7=t)=False/\∀k:Nat,42<=k->(k=t)=False:=fun t ht=>⟨by simp;omega,by simp;omega,fun k hk=>by simp;omega⟩
  rcases hvc with⟨hv,hL⟩|⟨b,hv,hg,e1,e2⟩
  ·rw[hv] at o1 key;rw[hL] at key;simp only[go_sem,ME,q4,q5,q40,q41,q42,Z9,hd,Qp,Sb,Gc,UZ oL,gB',hBx,qX,o1,oM,hc,Wq,ZD,ajj,ajB,Nat.reducePow,ajr,ajf,LC,hX',hBn,Q5,Tp,z1,z2,vq,J0];refine key _ _ (fun t ht=>?_) ?_ ?_ ?_ (fun j h1 h2 h3=>?_) ?_ ?_
   ·obtain⟨n6,n7,n42⟩:=FK t ht;simp only[go_sem,n6,n7,n42]
   ·simp only[go_sem]
   ·simp only[go_sem]
    try rfl
   ·simp[go_sem,Q5,Tp,hX',ajf]
    try rfl
   ·have e0:∀q,(s'.next+q=j)=False:=fun q=>by simp;omega
    simp only[Z0,ZY,Z_,Z',ZV,ZH,ajf,Nat.reduceAdd,e0,eq_false h2.symm,if_false]
   ·simp only[Z_,Z',ZV];omega
   ·repeat first|exact UB|apply Fr.new|apply Fr.put|apply Fr.upto
    all_goals try simp only[Z_,Z',ZV]
    all_goals omega
  ·rw[hv] at o1 key;have a1:=fun (S:St) (h:S.get b=some (.cells (ZA (PJ a.fa x c i)) 3 false 0 0))=>BG rfl h i
   have z3:(bX=b)=False:=by simp;omega
   have z4:(b=bX)=False:=by simp;omega
   have z5:(b=B)=False:=by simp;omega
   have z6:(B=b)=False:=by simp;omega
   simp only[go_sem,ME,q4,q5,q40,q41,q42,Z9,hd,Qp,Sb,Gc,UZ oL,gB',hBx,qX,o1,oM,hc,hg,a1,ZD,ajj,ajB,Nat.reducePow,ajr,ajf,LC,hX',hBn,Q5,Tp,z1,z2,z3,z4,z5,z6,e2,Un,VD,J0];refine key _ _ (fun t ht=>?_) ?_ ?_ ?_ (fun j h1 h2 h3=>?_) ?_ ?_
   ·obtain⟨n6,n7,n42⟩:=FK t ht;simp only[go_sem,n6,n7,n42]
   ·simp only[go_sem]
   ·simp only[go_sem]
   ·simp[go_sem,Q5,Tp,hX',e2,ajf]
   ·have e0:∀q,(s'.next+q=j)=False:=fun q=>by simp;omega
    rw[Yu] at h3;simp only[Z0,ZY,Z_,Z',ZV,ZH,ajf,Nat.reduceAdd,e0,eq_false h2.symm,eq_false h3,if_false]
   ·simp only[Z_,Z',ZV];omega
   ·repeat first|exact UB|apply Fr.new|apply Fr.put|apply Fr.upto
    all_goals try simp only[Z_,Z',ZV]
    all_goals omega
 ·have:i=a.next.length:=by omega
  subst this;simp only[go_sem,ME,q41,q42,Z9,ajp];refine hk _ _ vs (fun t ht=>?_) qX TA hs UL UB;have Zv:∀k:Nat,42<=k->(k=t)=False:=fun k hk=>by simp;omega
  simp only[go_sem,Zv];exact hold t (by omega)
theorem qo {ex:Ex}{a:Nat}{e:Env}{s:St}{n:Nat}(h:Env.get e a=.int .i64 (n:Int))(hn:n<=2^20) :
  YK U ex e (.makeSlice 39 (.tmp a) (.tmp a)) s=some (.sl s.next 0 n (some n) 1,s.new (.cells ((List.range n).map fun _=>.ZM) 48 false 0 0)):=by
 have h40:U.Zj 39=some (.slice 48):=by kernel_rfl
 have hz:zero U 48=some .ZM:=by kernel_rfl
 have hi:(U.inf 48).map (fun i=>(i.bytes,i.size))=some (24,1):=by kernel_rfl
 have e1:((List.range n).map fun _=>AV.ZM)=List.replicate n .ZM:=by simp[List.map_const']
 cases hj:U.inf 48 with
 |none=>rw[hj] at hi;cases hi
 |some j =>
  rw[hj] at hi;simp only[aki,Option.some.injEq,Prod.mk.injEq] at hi;obtain⟨h1,h2⟩:=hi;rw[e1,<-UJ];simp only[YK,eval,h,h40,hj,hz];rw[if_pos ⟨by omega,by omega,by rw[h1];omega,by omega,by rw[h2];rfl,by omega⟩,h2];rfl
theorem wV {ex:Ex}{a:Nat}{e:Env}{s:St}{n:Nat}(h:Env.get e a=.int .i64 (n:Int))(hn:n<=2^20) :
  YK U ex e (.makeSlice 259 (.tmp a) (.tmp a)) s=some (.sl s.next 0 n (some n) 1,s.new (.cells ((List.range n).map fun _=>.ZM) 39 false 0 0)):=by
 have h40:U.Zj 259=some (.slice 39):=by kernel_rfl
 have hz:zero U 39=some .ZM:=by kernel_rfl
 have hi:(U.inf 39).map (fun i=>(i.bytes,i.size))=some (24,1):=by kernel_rfl
 have e1:((List.range n).map fun _=>AV.ZM)=List.replicate n .ZM:=by simp[List.map_const']
 cases hj:U.inf 39 with
 |none=>rw[hj] at hi;cases hi
 |some j =>
  rw[hj] at hi;simp only[aki,Option.some.injEq,Prod.mk.injEq] at hi;obtain⟨h1,h2⟩:=hi;rw[e1,<-UJ];simp only[YK,eval,h,h40,hj,hz];rw[if_pos ⟨by omega,by omega,by rw[h1];omega,by omega,by rw[h2];rfl,by omega⟩,h2];rfl
structure dX (s:St)(B m n:Nat)(bf:Nat->Nat->List Nat)(x:Nat)(bx:Nat->Nat)(vs:Nat->Nat->AV):Prop where
 g:s.get B=some (.cells ((List.range m).map fun y=>if y<x then .sl (bx y) 0 n (some n) 1 else .ZM) 39 false 0 0)
 row:∀y,y<x->s.get (bx y)=some (.cells ((List.range n).map (vs y)) 48 false 0 0)
 bl:∀y,y<x->∀c,c<n->JG s (B+1) (bf y c) (vs y c)
 hx:∀y,y<x->B<bx y/\bx y<s.next
theorem dX.full {s:St}{B m n:Nat}{bf:Nat->Nat->List Nat}{bx:Nat->Nat}{vs:Nat->Nat->AV}(h:dX s B m n bf m bx vs)(hB:B<s.next):Cb s B m n bf B s.next bx vs:=by
 refine⟨?_,h.row,fun x hx c hc=>?_,⟨ajg _,hB⟩,fun x hx=>⟨by have:=h.hx x hx;omega,(h.hx x hx).2⟩,fun x hx c hc j hj=>?_,ajg _⟩
 ·rw[h.g]
  congr 2
  refine ajV fun y hy=>?_
  rw[if_pos (ajE.1 hy)]
 ·rcases h.bl x hx c hc with h1|⟨b,h1,h2,h3,h4⟩
  ·exact .inl h1
  ·exact .inr ⟨b,h1,h2,h4⟩
 ·have:=(h.bl x hx c hc).lt hj;omega
theorem aev {β:Type}{fin:Fl->β}{ks:List K}{Zu:β->Prop}{a:YY}(ha:a.ok){B ab m:Nat}{e:Env}{s:St}(hm:m=2^a.lines.toNat)
  (g1:Env.get e 1=.ptr ab 0)(g4:Env.get e 4=.sl B 0 m (some m) 1)(g28:Env.get e 28=.int .i64 (m:Int))(g29:Env.get e 29=.int .i64 (0:Nat))
  (ga:s.get ab=some (.cells [.int .i64 a.lines,U6 a,Xd a] 42 false 0 0))(gB:s.get B=some (.cells ((List.range m).map fun _=>.ZM) 39 false 0 0))(hab:ab<s.next)(Zv:ab≠B)(hB:B<s.next)(fr:Fr s)
  (hk:∀e' s' bx vs,(∀t:Nat,t<5->Env.get e' t=Env.get e t)->dX s' B m a.next.length (N5 a.fa) m bx vs ->
   (∀j,j<s.next->j≠B->s'.get j=s.get j)->s.next<=s'.next->Fr s'->Zu (goN U fin ks e' s')) :
  Zu (SC U fin (.bk 0::ks) Ju e s):=by
 have Qg:=ha.few;have Gk:m<=2^16:=by
  have:=Pk a.lines (by have:=ha.lines;omega);have:=Ov a.lines;unfold Cm at this;omega
 refine YG (σ:=Nat) (fun x=>m-x) (fun x e' s'=>x<=m/\(∀t:Nat,t<5\/7<t/\t<29->Env.get e' t=Env.get e t)/\Env.get e' 29=.int .i64 (x:Nat)/\(∀j,j<s.next->j≠B->s'.get j=s.get j)/\s.next<=s'.next/\Fr s' /\
   ∃bx vs,dX s' B m a.next.length (N5 a.fa) x bx vs) 0 ?_
  ⟨aji _,fun _ _=>rfl,g29,fun _ _ _=>rfl,ajg _,fr,fun _=>0,fun _ _=>.ZM,⟨by rw[gB];simp,fun y hy=>by omega,fun y hy=>by omega,fun y hy=>by omega⟩⟩
 rintro Lp x e' s' ⟨jF,hold,q29,hs,UL,UB,bx,vs,X⟩ IH;have q1:=(hold 1 (by omega)).trans g1;have q4:=(hold 4 (by omega)).trans g4;have q28:=(hold 28 (by omega)).trans g28;by_cases hd:x<m
 ·have Qp:=ZE hd (by omega);have ga':=(hs ab hab Zv).trans ga;have hl:=ZJ a.TN (a.next.map Zi);rw[aje] at hl;have mk:=fun (ex:Ex) (t:Nat) (e:Env) (S:St) (h:Env.get e t=.int .i64 (a.next.length:Int))=>qo (ex:=ex) (s:=S) h (by omega)
  have J0:=vt (f:=fun y=>if y<x then .sl (bx y) 0 a.next.length (some a.next.length) 1 else .ZM) hd (.sl s'.next 0 a.next.length (some a.next.length) 1);have z1:(s'.next=B)=False:=by simp;omega
  have z2:(B=ab)=False:=by simp;omega
  have z3:(s'.next=ab)=False:=by simp;omega
  have hBn:B<s'.next:=by omega
  have XB:=X.g;unfold U6 Xd at ga';simp only[go_sem,Ju,q1,q4,q28,q29,Z9,hd,ga',hl,↓mk,XB,J0,ajj,z1,z2,z3];refine acN ha (x:=x) (B:=B) (bX:=s'.next) (m:=m) (Bc:=(List.range m).map (Ga (fun y=>if y<x then .sl (bx y) 0 a.next.length (some a.next.length) 1 else .ZM) x (.sl s'.next 0 a.next.length (some a.next.length) 1))) (by omega) ?_ ?_ ?_ ?_ ?_ hd ?_ ?_ ?_ (by omega) (by simp only[Z_,Z'];omega) (by simp only[Z_,Z'];omega) ?_ ?_
  case refine_10 =>
   intro e2 s2 vx Og h2X hvx Se Gc IV;simp only[Z_,Z'] at Se Gc hvx;have p29:Env.get e2 29=.int .i64 (x:Nat):=by rw[Og 29 (by omega)];simp only[go_sem,q29]
   have old:∀j,j<s'.next->j≠B->s2.get j=s'.get j:=fun j h1 h2=>by
    rw[Se j (by omega) (by omega),Z0,if_neg h2.symm,ZY,if_neg (by omega)]
   simp only[go_sem,p29,Qp];refine IH (x+1) _ _ (by omega) ⟨by omega,fun t ht=>?_,?_,fun j h1 h2=>by rw[old j (by omega) h2,hs j h1 h2],by omega,IV,fun y=>if y=x then s'.next else bx y,fun y=>if y=x then vx else vs y,⟨?_,fun y hy=>?_,fun y hy c hc=>?_,fun y hy=>?_⟩⟩
   ·have Zv:∀k:Nat,29<=k->(k=t)=False:=fun k hk=>by simp;omega
    have abP:(5=t)=False:=by simp;omega
    simp only[go_sem,Zv];rw[Og t (by omega)];simp only[go_sem,Zv,abP];exact hold t ht
   ·simp only[go_sem]
   ·rw[Se B (by omega) (by omega),Z0,if_pos rfl]
    congr 2
    refine ajV fun y hy=>?_
    unfold Ga;by_cases e:y=x
    ·rw[if_pos e,if_pos (by omega),if_pos e]
    ·rw[if_neg e,if_neg e];show (if y<x then _ else _)=_;by_cases e2:y<x
     ·rw[if_pos e2,if_pos (by omega)]
     ·rw[if_neg e2,if_neg (by omega)]
   ·by_cases e:y=x
    ·simp only[e,if_true];exact h2X
    ·simp only[e,if_false];have hb:=X.hx y (by omega);rw[old _ hb.2 (by omega)];exact X.row y (by omega)
   ·by_cases e:y=x
    ·simp only[e,if_true];rcases hvx c hc with h1|⟨b,h1,h2,h3,h4⟩
     ·exact .inl h1
     ·exact .inr ⟨b,h1,h2,by omega,h4⟩
    ·simp only[e,if_false];have hb:=X.bl y (by omega) c hc;exact hb.keep (by omega) fun j h1 h2 h3=>old j h1 (by omega)
   ·by_cases e:y=x
    ·simp only[e,if_true];omega
    ·simp only[e,if_false];have:=X.hx y (by omega);omega
  case refine_9=>exact (UB.new _).put (by rw[Z'];omega) _
  case refine_8=>rw[Z0,if_neg (by omega),ZY,if_pos rfl]
  case refine_7 =>
   rw[OH _ hd];unfold Ga;rw[if_pos rfl]
  case refine_6=>rw[Z0,if_pos rfl]
  all_goals simp only[go_sem,q4]
  all_goals rfl
 ·have:x=m:=by omega
  subst this;simp only[go_sem,Ju,q28,q29,Z9,ajp];refine hk _ _ bx vs (fun t ht=>?_) X hs UL UB;have Zv:∀k:Nat,29<=k->(k=t)=False:=fun k hk=>by simp;omega
  simp only[go_sem,Zv];exact hold t (by omega)
theorem aew {β:Type}{fin:Fl->β}{ks:List K}{Zu:β->Prop}{n:Nat}{e:Env}{s:St}(hn:n<=2^20)(g8:Env.get e 8=.ZM)(g75:Env.get e 75=.int .i64 (n:Int))(g76:Env.get e 76=.int .i64 (0:Nat))(fr:Fr s)
  (hk:∀e' s' wv,(∀t:Nat,t<8->Env.get e' t=Env.get e t)->Env.get e' 8=wv->OO s' s.next (List.range n) wv->(∀j,j<s.next->s'.get j=s.get j)->s.next<=s'.next->Fr s'->Zu (goN U fin ks e' s')) :
  Zu (SC U fin (.bk 4::ks) Jt e s):=by
 refine YG (σ:=Nat) (fun i=>n-i) (fun i e' s'=>i<=n/\(∀t:Nat,t<8\/9<t/\t<76->Env.get e' t=Env.get e t)/\Env.get e' 76=.int .i64 (i:Nat)/\(∀j,j<s.next->s'.get j=s.get j)/\s.next<=s'.next/\Fr s' /\
   ∃wv,Env.get e' 8=wv/\OO s' s.next (List.range i) wv) 0 ?_
  ⟨aji _,fun _ _=>rfl,g76,fun _ _=>rfl,ajg _,fr,.ZM,g8,.inl ⟨rfl,rfl⟩⟩
 rintro Lp i e' s' ⟨dC,hold,q76,hs,UL,UB,wv,q8,hW⟩ IH;have q75:=(hold 75 (by omega)).trans g75;by_cases hd:i<n
 ·have Qp:=ZE hd (by omega);have ju:=hW.Xg;rw[List.length_range] at ju;have vq:(i+1)*8<=1099511627776:=by omega
  have pY:i+1<=1099511627776:=by omega
  simp only[go_sem,Jt,q8,q75,q76,Z9,hd,Qp,ajj,ajB,ZD,Nat.reducePow,ju,vq,pY];have W3:OO (s'.new (.cells [.int .i64 (i:Int)] 3 false 0 0)) s.next (List.range i) wv:=hW.keep (by rw[Z'];omega) fun j h1 _ _=>by rw[ZY,if_neg (by omega)]
  obtain⟨s4,d1,d2,d3,d4,d5⟩:=W3.app (by rw[Z'];omega) i;rw[Z'] at d1 d2 d3 d4;rw[d1];simp only[go_sem,q76,Qp];refine IH (i+1) _ _ (by omega) ⟨by omega,fun t ht=>?_,?_,fun j hj=>?_,by omega,d5 (UB.new _),_,?_,by rw[List.range_succ];exact d3⟩
  ·have Zv:∀k:Nat,76<=k->(k=t)=False:=fun k hk=>by simp;omega
   have kZ:(8=t)=False:=by simp;omega
   have ail:(9=t)=False:=by simp;omega
   simp only[go_sem,Zv,kZ,ail];exact hold t ht
  ·simp only[go_sem]
  ·rw[d4 j (by omega) (fun h=>by have:=hW.lt h;omega),ZY,if_neg (by omega)];exact hs j hj
  ·simp only[go_sem]
 ·have:i=n:=by omega
  subst this;simp only[go_sem,Jt,q75,q76,Z9,ajp];refine hk _ _ wv (fun t ht=>?_) ?_ hW hs UL UB
  ·have Zv:∀k:Nat,76<=k->(k=t)=False:=fun k hk=>by simp;omega
   simp only[go_sem,Zv];exact hold t (by omega)
  ·simp only[go_sem,q8]
noncomputable def SK (a:YY):List Nat :=
 (Jc (N5 a.fa) a.fa.m (2*(a.fa.n-(Wx (Zg a) a.fa.n).bg.length)+(Wx (Zg a) a.fa.n).bg.length) (Wx (Zg a) a.fa.n) (List.range (Wx (Zg a) a.fa.n).bg.length)).set
theorem uf {a:YY}(ha:a.ok){u v:Nat}(hu:u<a.fa.n)(hv:v<a.fa.n):Zg a u=Zg a v<->∀x,x<a.fa.m->a.fa.fr u x=a.fa.fr v x:=by
 have y0:u<a.ZC.length:=by rw[ha.fl];exact hu
 have hv':v<a.ZC.length:=by rw[ha.fl];exact hv
 have h1:=ha.Wg u y0;have h2:=ha.Wg v hv';have e1:∀s x,a.fa.fr s x=(a.ZC.getD s (true,[])).2.getD x false:=fun _ _=>rfl
 unfold Zg;simp only[e1];rw[XT y0,XT hv']
 constructor
 ·intro h x _;rw[Hq (by omega) h]
 ·intro h
  congr 1
  refine List.ext_getElem (by omega) fun x q1 q2=>?_
  have:=h x (by show x<2^a.lines.toNat;omega);rw[XT q1,XT q2] at this;exact this
theorem Ep {a:YY}(ha:a.ok):iW a.fa (Wx (Zg a) a.fa.n) (List.range (Wx (Zg a) a.fa.n).bg.length):=Af fun u v hu hv=>uf ha hu hv
theorem KZ {a:YY}(ha:a.ok):(SK a).length=a.fa.n:=by
 have h:=D1 ha.Ob (fun y _ c _ u=>LS a.fa y c u) _ (Ep ha) (ajg _);rw[List.length_range] at h;exact h.wf.ls
theorem lI {a:YY}(ha:a.ok){u v:Nat}(hu:u<a.fa.n)(hv:v<a.fa.n):gt (SK a) u=gt (SK a) v<->YP a.fa u=YP a.fa v :=
 abr ha.Ob (fun u v hu hv=>uf ha hu hv) hu hv
theorem ahr {a:YY}(ha:a.ok):Zw U 130 [VQ a]=some (.fz (ZA (SK a))):=by
 refine ZI ag1 (by kernel_rfl) (by simp[ZO,Xp]) ?_;have Qg:=ha.few;have Gk:2^a.lines.toNat<=2^8:=Nat.pow_le_pow_right (by omega) (by have:=ha.lines;omega);have nn:=ZW a.TN (a.next.map Zi);have nf:=ZW a.Tc (a.ZC.map Zq);have cn:=ZR a.TN (a.next.map Zi);have cf:=ZR a.Tc (a.ZC.map Zq);have SF:=Va U 3 true .i64 (n:=a.lines) (show 0<=a.lines/\a.lines<=16 by have:=ha.lines;omega);have aeu:(2^a.lines.toNat:Int)=((2^a.lines.toNat:Nat):Int):=by simp
 rw[aeu] at SF;have mk:=fun (ex:Ex) (t:Nat) (e:Env) (S:St) (h:Env.get e t=.int .i64 ((2^a.lines.toNat:Nat):Int))=>wV (ex:=ex) (s:=S) h (by omega)
 obtain⟨s1,pb,bl,bp,bs,bb,be,bm,h1,P,l1,l2,l3,l4,l5,l6,l7,hn1,gZ,Sq⟩:=ag4 ha (s:=(Yl U).new (.cells [.int .i64 a.lines,U6 a,Xd a] 42 false 0 0)) (Fr.own.new _);have P:M9 s1 pb a.fa.n bl bp bs bb be bm (Wx (Zg a) a.fa.n):=P;rw[WT] at h1 ⊢;unfold U6 Xd at *;have ho:(Yl U).next=8:=rfl;simp only[Z',ho] at l1 l2 l3 l4 l5 l6 l7 hn1 Sq;have g8:s1.get 8=some (.cells [.int .i64 a.lines,ZG a.TN (a.next.map Zi),ZG a.Tc (a.ZC.map Zq)] 42 false 0 0):=by
  rw[Sq 8 (by omega),ZY,ho,if_pos rfl]
 simp only[go_sem,ad7,nn,nf,cn,cf,adl,h1,g8,SF,↓mk];have Fh:Cm a.lines=((2^a.lines.toNat:Nat):Int):=Ov a.lines;have hH:=Ep ha;have bR:=hH.wf.few;have aiW:=P.jC;refine aev (Zu:=fun r:Option AV=>r=some (AV.fz (ZA (SK a)))) ha (B:=s1.next) (ab:=8) (m:=2^a.lines.toNat) rfl ?_ ?_ ?_ ?_ ?_ ?_ ?_ ?_ ?_ (gZ.new _) ?_
 case refine_10 =>
  intro e2 s2 bx vs Og X Se qf IV;rw[Z'] at Se qf;have p3:Env.get e2 3=.ptr pb 0:=by rw[Og 3 (by omega)];simp only[go_sem]
  have p4:Env.get e2 4=.sl s1.next 0 (2^a.lines.toNat) (some (2^a.lines.toNat)) 1:=by rw[Og 4 (by omega)];simp only[go_sem]
  have BI:=X.full (by omega);have P2:=P.mono (s':=s2) (by omega) fun j hj=>by
   have:=P.lt j hj;rw[Se j (by omega) (by omega),ZY,if_neg (by omega)]
  have iU:∀j,Ou s1.next s2.next j\/Xr pb bl bp bs bb be bm j:=fun j=>by unfold Ou Xr;omega
  simp only[go_sem,p3,P2.g];refine aew (Zu:=fun r:Option AV=>r=some (AV.fz (ZA (SK a)))) (n:=(Wx (Zg a) a.next.length).bg.length) (by have:(Wx (Zg a) a.next.length).bg.length<=a.next.length:=bR;omega) ?_ ?_ ?_ IV ?_
  case refine_4 =>
   intro e3 s3 wv FM h3w W yQ iT tn;have p3':Env.get e3 3=.ptr pb 0:=by rw[FM 3 (by omega)];simp only[go_sem,p3]
   have p4':Env.get e3 4=.sl s1.next 0 (2^a.lines.toNat) (some (2^a.lines.toNat)) 1:=by rw[FM 4 (by omega)];simp only[go_sem,p4]
   simp only[go_sem];refine aex (Zu:=fun r:Option AV=>r=some (AV.fz (ZA (SK a)))) (A:=a.fa) ha.Ob (N:=s2.next) (B:=s1.next) (lo:=s1.next) (hi:=s2.next) (bx:=bx) (vs:=vs) (F:=2*(a.fa.n-(Wx (Zg a) a.fa.n).bg.length)+(Wx (Zg a) a.fa.n).bg.length) (wv:=wv) Qg Gk (P2.mono iT fun j hj=>yQ j (P2.lt j hj)) hH ?_ ?_ p3' p4' h3w W (fun j hj=>?_) iT (BI.keep iT fun j h1 h2=>yQ j (by omega)) iU tn ?_
   ·have:a.fa.n<=512:=Qg;omega
   ·rw[List.length_range];exact ajg _
   ·have:=W.lt hj;unfold Xr Ou;omega
   ·intro e4 s4 cb ce cm q3 P4;have LA:(Jc (N5 a.fa) a.fa.m (2*(a.fa.n-(Wx (Zg a) a.fa.n).bg.length)+(Wx (Zg a) a.fa.n).bg.length) (Wx (Zg a) a.fa.n) (List.range (Wx (Zg a) a.fa.n).bg.length)).set.length=a.fa.n:=KZ ha;have hz:=eK (d:=38) (cap:=some a.fa.n) LA P4.gs;have P4g:=P4.g;rw[LA] at P4g;simp only[go_sem,q3,P4g];rw[QF] at hz;exact hz
  all_goals simp only[go_sem]
  all_goals rfl
 case refine_9=>rw[Z'];omega
 case refine_8=>omega
 case refine_7=>rw[Z'];omega
 case refine_6=>rw[ZY,if_pos rfl]
 case refine_5=>rw[ZY,if_neg (by omega),g8];rfl
 all_goals simp only[go_sem]
 all_goals rfl
def Rc:List Nat->Nat->List (AV×AV)
 |[],_=>[]
 |k::ks,i=>(.int .i64 (k:Int),.int .i64 (i:Int))::Rc ks (i+1)
theorem ni (a b:Nat):WB (.int .i64 (a:Int)) (.int .i64 (b:Int))=some (b==a):=by
 simp only[WB,if_true]
 congr 1
 rw[aj4];simp only[beq_iff_eq];omega
theorem Hy (k:Nat):∀(ks:List Nat) (i:Nat),VH (.int .i64 (k:Int)) (Rc ks i)=some (bif decide (Vo ks k<ks.length) then some (.int .i64 ((i+Vo ks k:Nat):Int)) else none)
 |[],i=>rfl
 |x::l,i=>by
  rw[Rc,VH,ni,Vo]
  cases h:x==k with
  |true=>simp
  |false =>
   simp only[cond_false,ajk];rw[Hy k l (i+1)];have e:decide (Vo l k+1<l.length+1)=decide (Vo l k<l.length):=by congr 1;apply propext;omega
   rw[e]
   congr 2
   rw[show i+1+Vo l k=i+(Vo l k+1) by omega]
theorem Ez (k:Nat):∀(ks:List Nat) (i:Nat),k∉ks->Mw (.int .i64 (k:Int)) (.int .i64 ((i+ks.length:Nat):Int)) (Rc ks i)=some (Rc (ks++[k]) i)
 |[],i,_=>rfl
 |x::l,i,h=>by
  rw[ajo,not_or] at h;have Zv:(x==k)=false:=by simpa using fun e=>h.1 (Eq.symm e)
  have ih:=Ez k l (i+1) h.2;rw[show i+1+l.length=i+(x::l).length by rw[ajk];omega] at ih;rw[Rc,Mw,ni,Zv,ajz,Rc];simp only[ih]
theorem rN {s:St}{m:Nat}{ks:List Nat}(h:s.get m=some (.map (Rc ks 0) false))(k:Nat):Xh U 204 (.map m) (.int .i64 (k:Int)) true s=some (bif decide (Vo ks k<ks.length) then .XF [.int .i64 ((Vo ks k:Nat):Int),.bool true] else .XF [.int .i64 0,.bool false]):=by
 have hu:U.Zj 204=some (.map 3 3):=by kernel_rfl
 have h3:U.Zj 3=some (.int .i64):=by kernel_rfl
 have hz:zero U 3=some (.int .i64 0):=by kernel_rfl
 unfold Xh;rw[hu];simp only[Vi,h3,decide_true,if_true,h,Hy,ajr]
 cases decide (Vo ks k<ks.length) with
 |true=>rfl
 |false=>simp only[cond_false,hz]
theorem Ey {s:St}{m:Nat}{ks:List Nat}(h:s.get m=some (.map (Rc ks 0) false)){k:Nat}(hk:k∉ks):V0 U 204 (.map m) (.int .i64 (k:Int)) (.int .i64 ((ks.length:Nat):Int)) s=some (s.put m (.map (Rc (ks++[k]) 0) false)):=by
 have hu:U.Zj 204=some (.map 3 3):=by kernel_rfl
 have h3:U.Zj 3=some (.int .i64):=by kernel_rfl
 have:=Ez k ks 0 hk;rw[ajr] at this;unfold V0;rw[hu];simp only[Vi,h3,decide_true,if_true,h,this]
theorem cY (args:List AV)(s:St):XR U (Zw U 131 args) 131 args s=SH U 131 args s:=(XL U 131 args s).symm
theorem ad2 (l:List AV):WO U .eql 72 true (.fz l) .ZM=some (.bool false):=by
 have h:U.Zj 72=some (.slice 4):=by kernel_rfl
 simp only[WO,ET,yG,h]
theorem CW (l:List Bool)(s:St):WV 1 (.fz (ZB l)) s=some (l.length,ZB l):=by
 have h1:(ZB l).all (fun x=>x.cells.length==1)=true:=by
  induction l with
  |nil=>rfl
  |cons t ts ih=>rw[ZB,aju,List.all_cons];exact ih
 have h2:(ZB l).flatMap AV.cells=ZB l:=by
  clear h1
  induction l with
  |nil=>rfl
  |cons t ts ih=>rw[ZB,aju,ajL];show AV.cells (.bool t)++(ZB ts).flatMap AV.cells=_;rw[ih];rfl
 simp only[WV,h1,h2,Wm];rfl
theorem agX (l:List Bool)(h0:l≠[])(hl:l.length<=2^20)(s:St):SH U 131 [.fz (ZB l)] s=some (.sl (s.next+1) 0 l.length none 1,(s.new (.cells [] 4 false 0 0)).new (.cells (ZB l) 4 false 0 0)):=by
 refine V_ agY (by kernel_rfl) ?_;have Dr:0<l.length:=List.length_pos_iff.2 h0;have hap:∀S:St,S.get s.next=some (.cells [] 4 false 0 0)->JW 4 1 1 (.sl s.next 0 0 (some 0) 1) (some (l.length,ZB l)) S=some (.sl S.next 0 (0+l.length) none 1,S.new (.cells ([]++ZB l) 4 false 0 0)):=fun S h=>by
  rw[ZD (by rw[Wm,ajj]) (by simp only[QB];omega) (by simp only[QB];omega) (by omega),TU h rfl (by omega)]
 simp only[go_sem,ad3,ad2,CW,hap,ajr,ajP]
theorem xw {a:YY}(ha:a.ok){s:Nat}(hs:s<a.ZC.length):a.ZC[s].2=Wg a.fa s:=by
 have h1:=ha.Wg s hs;refine List.ext_getElem (by rw[h1,Rb];rfl) fun x q1 q2=>?_
 rw[uv a.fa s (by show x<2^a.lines.toNat;omega)];show _=(a.ZC.getD s (true,[])).2.getD x false;rw[XT hs,XT q1]
theorem agZ {s:St}{b n:Nat}{cap:Option Nat}{L:List Nat}(hc:cap=none\/cap=some n)(hL:L.length=n)(hg:s.get b=some (.cells (ZA L) 3 false 0 0))(hb:b<s.next)(k:Nat) :
  ∃s1,QE 3 1 1 [.int .i64 (k:Int)] (.sl b 0 n cap 1) s=some (.sl s.next 0 (n+1) none 1,s1)/\s1.next=s.next+1/\s1.get s.next=some (.cells (ZA (L++[k])) 3 false 0 0)/\(∀j,j<s.next->j≠b->s1.get j=s.get j)/\(Fr s->Fr s1):=by
 rcases hc with rfl|rfl
 ·refine⟨_,BG hL hg k,rfl,?_,fun j h1 h2=>?_,fun hf=>(hf.put hb _).new _⟩
  ·rw[ZY,Z_,if_pos rfl]
  ·rw[ZY,Z_,if_neg (by omega),Z0,if_neg h2.symm]
 ·refine⟨s.new (.cells (ZA (L++[k])) 3 false 0 0),?_,rfl,?_,fun j h1 h2=>?_,fun hf=>hf.new _⟩
  ·rw[TU hg (by rw[U',hL,ajj]) (by omega),L7]
  ·rw[ZY,if_pos rfl]
  ·rw[ZY,if_neg (by omega)]
theorem JG.Xg {s:St}{N:Nat}{L:List Nat}{v:AV}(h:JG s N L v):Go.Am.Xg v=L.length:=by
 rcases h with⟨rfl,rfl⟩|⟨b,rfl,h2,h3,h4⟩ <;> rfl
theorem JG.app {s:St}{N:Nat}{L:List Nat}{v:AV}(h:JG s N L v)(hN:N<=s.next)(k:Nat) :
  ∃s1,QE 3 1 1 [.int .i64 (k:Int)] v s=some (.sl s.next 0 (L.length+1) none 1,s1)/\s1.next=s.next+1/\JG s1 N (L++[k]) (.sl s.next 0 (L.length+1) none 1)/\(∀j,j<s.next->¬Xi v j->s1.get j=s.get j)/\(Fr s->Fr s1):=by
 rcases h with⟨rfl,rfl⟩|⟨b,rfl,h2,h3,h4⟩
 ·refine⟨_,Wq _ _ _ _ _,rfl,.inr ⟨s.next,rfl,?_,hN,by rw[Z'];omega⟩,fun j hj _=>by rw[ZY,if_neg (by omega)],fun hf=>hf.new _⟩;rw[ZY,if_pos rfl];rfl
 ·refine⟨_,BG rfl h2 k,rfl,.inr ⟨s.next,by simp,?_,hN,by rw[Z',Z_];omega⟩,fun j hj hb=>?_,fun hf=>(hf.put h4 _).new _⟩
  ·rw[ZY,Z_,if_pos rfl]
  ·rw[Yu] at hb;rw[ZY,Z_,if_neg (by omega),Z0,if_neg hb]
noncomputable def X7 (a:YY)(u:Nat):Nat:=gt (SK a) u
theorem Hd (A:Fa)(q:Nat):(X0 A q).length=A.m:=by simp[X0]
theorem dT (A:Fa)(q:Nat){x:Nat}(h:x<A.m):(X0 A q)[x]'(by rw[Hd];exact h)=A.nx q x:=by simp[X0]
theorem aeU {β:Type}{fin:Fl->β}{ks:List K}{Zu:β->Prop}{a:YY}(ha:a.ok){L:List Nat}{q b m:Nat}{cap:Option Nat}(hq:q<a.next.length)(F4:cap=none\/cap=some L.length)(vR:∀z∈L,z<a.next.length)(BL:(L.map (X7 a)).Nodup)(hbm:b≠m)
  {e:Env}{s:St}(g3:Env.get e 3=.fz (ZA (SK a)))(g4:Env.get e 4=.map m)(g5:Env.get e 5=.sl b 0 L.length cap 1)(g8:Env.get e 8=.ZM)(yj:Env.get e 37=ZG a.next[q].1 (ints a.next[q].2))(oy:Env.get e 38=.int .i64 ((2^a.lines.toNat:Nat):Int))(g39:Env.get e 39=.int .i64 (0:Nat))
  (gm:s.get m=some (.map (Rc (L.map (X7 a)) 0) false))(gb:s.get b=some (.cells (ZA L) 3 false 0 0))(nb:b<s.next)(nm:m<s.next)(fr:Fr s)
  (hk:∀e' s' b' FQ rv,(∀t:Nat,t<10->t≠5->t≠8->Env.get e' t=Env.get e t)->Env.get e' 5=.sl b' 0 (YV (X7 a) (X0 a.fa q) L).1.length FQ 1->(FQ=none\/FQ=some (YV (X7 a) (X0 a.fa q) L).1.length)->(b'=b\/s.next<=b')->b'<s'.next ->
   s'.get b'=some (.cells (ZA (YV (X7 a) (X0 a.fa q) L).1) 3 false 0 0)->s'.get m=some (.map (Rc ((YV (X7 a) (X0 a.fa q) L).1.map (X7 a)) 0) false)->Env.get e' 8=rv->JG s' s.next (YV (X7 a) (X0 a.fa q) L).2 rv->(∀j,Xi rv j->j≠b') ->
   (∀j,j<s.next->j≠b->j≠m->s'.get j=s.get j)->s.next<=s'.next->Fr s'->Zu (goN U fin ks e' s')) :
  Zu (SC U fin (.bk 2::ks) L6 e s):=by
 have Qg:=ha.few;have hA:=ha.Ob;have Gk:=ha.m16;have hTl:(X0 a.fa q).length=2^a.lines.toNat:=Hd a.fa q;obtain⟨_,_,_,Cp,_⟩:=Vn (κ:=X7 a) (X0 a.fa q) L BL;have Cp:(YV (X7 a) (X0 a.fa q) L).2.length=2^a.lines.toNat:=by rw[Cp,hTl]
 generalize A5:(YV (X7 a) (X0 a.fa q) L).2=kf at *;generalize JJ:(YV (X7 a) (X0 a.fa q) L).1=Lf at *;refine YG (σ:=Nat) (fun x=>2^a.lines.toNat-x) (fun x e' s'=>x<=2^a.lines.toNat/\(∀t:Nat,t<10\/12<t/\t<39->t≠5->t≠8->Env.get e' t=Env.get e t)/\Env.get e' 39=.int .i64 (x:Nat) /\
   (∀j,j<s.next->j≠b->j≠m->s'.get j=s.get j)/\s.next<=s'.next/\Fr s' /\
   ∃L' b' FQ rv,YV (X7 a) ((X0 a.fa q).drop x) L'=(Lf,kf.drop x)/\(∀z∈L',z<a.next.length)/\(L'.map (X7 a)).Nodup /\
    Env.get e' 5=.sl b' 0 L'.length FQ 1/\(FQ=none\/FQ=some L'.length)/\(b'=b\/s.next<=b')/\b'<s'.next/\s'.get b'=some (.cells (ZA L') 3 false 0 0)/\s'.get m=some (.map (Rc (L'.map (X7 a)) 0) false) /\
    Env.get e' 8=rv/\JG s' s.next (kf.take x) rv/\(∀j,Xi rv j->j≠b')) 0 ?_
  ⟨aji _,fun _ _ _ _=>rfl,g39,fun _ _ _ _=>rfl,ajg _,fr,
   L,b,cap,.ZM,by rw[ajS,ajS,<-JJ,<-A5],vR,BL,g5,F4,.inl rfl,nb,gb,gm,g8,.inl ⟨rfl,rfl⟩,fun j hj=>absurd hj (Ws j)⟩
 rintro Lp x e' s' ⟨hx,hold,q39,hs,UL,UB,L',b',FQ,rv,P9,ab7,ab8,q5,jO,TM,nb',qb,qm,q8,hR,hRf⟩ IH;have q3:=(hold 3 (by omega) (by omega) (by omega)).trans g3;have q4:=(hold 4 (by omega) (by omega) (by omega)).trans g4;have q37:=(hold 37 (by omega) (by omega) (by omega)).trans yj;have q38:=(hold 38 (by omega) (by omega) (by omega)).trans oy;have ai':L'.length<=a.next.length:=Vm ab8 ab7;by_cases hd:x<2^a.lines.toNat
 ·have hw:=ZE hd (by omega);have oM:x<(X0 a.fa q).length:=by omega
  have c_:a.fa.nx q x<a.next.length:=hA.lt q x hq hd;have n1:=ha.ie hq hd;have o1:=Ev (l:=SK a) (i:=a.fa.nx q x) (by rw[KZ ha];exact c_);have hTx:(X0 a.fa q)[x]=a.fa.nx q x:=dT a.fa q hd;have hxk:x<kf.length:=by omega
  rw[abc oM,hTx,abc hxk,YV] at P9;have o1:UC 1 (.fz (ZA (SK a))) (.int .i64 ((a.fa.nx q x:Nat):Int))=some (.fp [.int .i64 ((X7 a (a.fa.nx q x):Nat):Int)] 0):=o1;generalize hc:a.fa.nx q x=c at *;have lk:=fun (S:St) (h:S.get m=some (.map (Rc (L'.map (X7 a)) 0) false))=>rN h (X7 a c)
  have KA:kf.take (x+1)=kf.take x++[kf[x]]:=by rw[ajC hxk]
  have hRl:(kf.take x).length=x:=by rw[aj2];omega
  have ju:=hR.Xg;rw[hRl] at ju;have Un:(x+1)*8<=1099511627776:=by omega
  have VD:x+1<=1099511627776:=by omega
  have CU:(L'.length+1)*8<=1099511627776:=by omega
  have hb4:L'.length+1<=1099511627776:=by omega
  have aj:(L'.map (X7 a)).length=L'.length:=by simp
  have FK:∀t:Nat,t<10\/12<t/\t<39->t≠5->t≠8->(5=t)=False/\(8=t)=False/\(10=t)=False/\(11=t)=False/\(12=t)=False/\∀k:Nat,39<=k->(k=t)=False:=fun t h1 h2 h3=>⟨by simp;omega,by simp;omega,by simp;omega,by simp;omega,by simp;omega,fun k hk=>by simp;omega⟩
  by_cases Sd:Vo (L'.map (X7 a)) (X7 a c)<L'.length
  ·rw[decide_eq_true Sd] at P9;simp only[cond_true] at P9;have TW:YV (X7 a) ((X0 a.fa q).drop (x+1)) L'=(Lf,kf.drop (x+1)):=by
    have h1:=congrArg Prod.fst P9;have h2:=congrArg Prod.snd P9;simp only[List.cons.injEq] at h1 h2;exact Prod.ext h1 h2.2
   have hkx:kf[x]=Vo (L'.map (X7 a)) (X7 a c):=by
    have h2:=congrArg Prod.snd P9;simp only[List.cons.injEq] at h2;exact h2.1.symm
   rw[aj,decide_eq_true Sd] at lk;simp only[cond_true] at lk;rw[<-hkx] at lk;simp only[go_sem,L6,q3,q4,q5,q8,q37,q38,q39,qm,Z9,hd,n1,o1,lk,hw,ajj,ajB,ZD,Nat.reducePow,ju,Un,VD];have R3:JG (s'.new (.cells [.int .i64 ((kf[x]:Nat):Int)] 3 false 0 0)) s.next (kf.take x) rv:=hR.keep (by rw[Z'];omega) fun j h1 _ _=>by rw[ZY,if_neg (by omega)]
   obtain⟨s4,d1,d2,d3,d4,d5⟩:=R3.app (by rw[Z'];omega) kf[x];rw[Z'] at d1 d2 d3 d4;rw[hRl] at d1 d3;rw[d1];simp only[go_sem,q39,hw];have k4:∀j,j<s'.next->¬Xi rv j->s4.get j=s'.get j:=fun j h1 h2=>by rw[d4 j (by omega) h2,ZY,if_neg (by omega)]
   have hrv:∀j,j<s.next->¬Xi rv j:=fun j hj h=>by have:=hR.lt h;omega
   refine IH (x+1) _ _ (by omega) ⟨by omega,fun t h1 h2 h3=>?_,?_,fun j h1 h2 h3=>by rw[k4 j (by omega) (hrv j h1),hs j h1 h2 h3],by omega,d5 (UB.new _),L',b',FQ,.sl (s'.next+1) 0 (x+1) none 1,TW,ab7,ab8,?_,jO,TM,by omega,(k4 b' nb' fun h=>hRf b' h rfl).trans qb,(k4 m (by omega) (hrv m nm)).trans qm,?_,by rw[KA];exact d3,fun j hj=>?_⟩
   ·obtain⟨n5,n8,jm,r_,uQ,n39⟩:=FK t h1 h2 h3;simp only[go_sem,n5,n8,jm,r_,uQ,n39];exact hold t h1 h2 h3
   ·simp only[go_sem]
   ·simp only[go_sem,q5]
   ·simp only[go_sem]
   ·rw[Yu] at hj;omega
  ·have afI:X7 a c∉L'.map (X7 a):=by rw[<-ML,aj];exact Sd
   rw[decide_eq_false Sd] at P9;simp only[cond_false] at P9;have TW:YV (X7 a) ((X0 a.fa q).drop (x+1)) (L'++[c])=(Lf,kf.drop (x+1)):=by
    have h1:=congrArg Prod.fst P9;have h2:=congrArg Prod.snd P9;simp only[List.cons.injEq] at h1 h2;exact Prod.ext h1 h2.2
   have hkx:kf[x]=L'.length:=by
    have h2:=congrArg Prod.snd P9;simp only[List.cons.injEq] at h2;exact h2.1.symm
   rw[aj,decide_eq_false Sd] at lk;simp only[cond_false] at lk;have up:=fun (S:St) (h:S.get m=some (.map (Rc (L'.map (X7 a)) 0) false))=>Ey h afI
   rw[aj] at up;have aja:∀c:Option Nat,Go.Am.Xg (.sl b' 0 L'.length c 1)=L'.length:=fun _=>rfl
   simp only[go_sem,L6,q3,q4,q5,q8,q37,q38,q39,qm,Z9,hd,n1,o1,lk,up,hw,ajj,ajB,ZD,Nat.reducePow,CU,hb4];obtain⟨s4,d1,d2,d3,d4,d5⟩:=agZ (b:=b') (L:=L') (s:=(s'.put m (.map (Rc (L'.map (X7 a)++[X7 a c]) 0) false)).new (.cells [.int .i64 (c:Int)] 3 false 0 0)) jO rfl (by rw[ZY,Z_,if_neg (by omega),Z0,if_neg (by omega)];exact qb) (by rw[Z',Z_];omega) c;simp only[Z',Z_] at d1 d2 d3 d4;rw[d1];simp only[go_sem,q8,ajj,ajB,ZD,Nat.reducePow,ju,Un,VD];have k4:∀j,j<s'.next->j≠b'->j≠m->s4.get j=s'.get j:=fun j h1 h2 h3=>by rw[d4 j (by omega) h2,ZY,Z_,if_neg (by omega),Z0,if_neg h3.symm]
   have k4m:s4.get m=some (.map (Rc (L'.map (X7 a)++[X7 a c]) 0) false):=by rw[d4 m (by omega) (by omega),ZY,Z_,if_neg (by omega),Z0,if_pos rfl]
   have hrv:∀j,j<s.next->¬Xi rv j:=fun j hj h=>by have:=hR.lt h;omega
   have R3:JG (s4.new (.cells [.int .i64 (L'.length:Int)] 3 false 0 0)) s.next (kf.take x) rv:=hR.keep (by rw[Z'];omega) fun j h1 h2 h3=>by
    rw[ZY,if_neg (by omega)];exact k4 j h1 (hRf j h3) (by omega)
   obtain⟨s6,b1,b2,b3,b4,b5⟩:=R3.app (by rw[Z'];omega) L'.length;rw[Z'] at b1 b2 b3 b4;rw[hRl] at b1 b3;rw[b1];simp only[go_sem,q39,hw];have k6:∀j,j<s4.next->¬Xi rv j->s6.get j=s4.get j:=fun j h1 h2=>by rw[b4 j (by omega) h2,ZY,if_neg (by omega)]
   refine IH (x+1) _ _ (by omega) ⟨by omega,fun t h1 h2 h3=>?_,?_,fun j h1 h2 h3=>by rw[k6 j (by omega) (hrv j h1),k4 j (by omega) (by omega) h3,hs j h1 h2 h3],by omega,b5 ((d5 ((UB.put (by omega) _).new _)).new _),L'++[c],s'.next+1,none,.sl (s4.next+1) 0 (x+1) none 1,TW,fun z hz=>?_,?_,?_,.inl rfl,.inr (by omega),by omega,(k6 _ (by omega) fun h=>by have:=hR.lt h;omega).trans d3,?_,?_,by rw[KA,hkx];exact b3,fun j hj=>?_⟩
   ·obtain⟨n5,n8,jm,r_,uQ,n39⟩:=FK t h1 h2 h3;simp only[go_sem,n5,n8,jm,r_,uQ,n39];exact hold t h1 h2 h3
   ·simp only[go_sem]
   ·rcases ajX.1 hz with h|h
    ·exact ab7 z h
    ·rw[ajm.1 h];exact c_
   ·rw[ajA,List.nodup_append];refine⟨ab8,by simp,fun y hy z hz=>?_⟩;rw[aju,List.map_nil,ajm] at hz;rintro rfl;rw[hz] at hy;exact afI hy
   ·simp only[go_sem,ajh,ajR]
   ·rw[k6 m (by omega) (hrv m nm),k4m,ajA,aju,List.map_nil]
   ·simp only[go_sem]
   ·rw[Yu] at hj;omega
 ·have hxe:x=2^a.lines.toNat:=by omega
  subst hxe;rw[List.drop_of_length_le (by omega),List.drop_of_length_le (by omega),YV] at P9;obtain rfl:L'=Lf:=congrArg Prod.fst P9;rw[List.take_of_length_le (by omega)] at hR;simp only[go_sem,L6,q38,q39,Z9,ajp];refine hk _ _ b' FQ rv (fun t h1 h2 h3=>?_) ?_ jO TM nb' qb qm ?_ hR hRf hs UL UB
  ·have Zv:∀k:Nat,39<=k->(k=t)=False:=fun k hk=>by simp;omega
   simp only[go_sem,Zv];exact hold t (.inl h1) h2 h3
  ·simp only[go_sem,q5]
  ·simp only[go_sem,q8]
theorem vU {s:St}{b n:Nat}{t:TypeId}{cs:List AV}(hL:cs.length=n)(hg:s.get b=some (.cells cs t false 0 0))(x:AV)(hx:Zx x=true) :
  QE t 1 1 [x] (.sl b 0 n none 1) s=some (.sl s.next 0 (n+1) none 1,(s.put b .gone).new (.cells (cs++[x]) t false 0 0)):=by
 rw[Tg,hg,UO (by omega) (by omega) (by simp[hx])]
theorem Wp {s:St}{j k:Nat}{c c':List AV}{t t':TypeId}(h:s.get j=some (.cells c t false 0 0))(h':s.get k=some (.cells c' t' false 0 0))(ht:t≠t'):j≠k:=by
 rintro rfl;have:=h.symm.trans h'
 injection this with this
 injection this with _ e
 exact ht e
theorem aec {β:Type}{fin:Fl->β}{ks:List K}{Zu:β->Prop}{a:YY}(ha:a.ok){L:List Nat}{q b i ob jr:Nat}{cap:Option Nat}{cN cF:List AV}{v w:AV}(hq:q<a.next.length)(hi:i<L.length)(hLi:gt L i=q)(hi9:i<=2^20)
  {e:Env}{s:St}(g1:Env.get e 1=.ptr 8 0)(g5:Env.get e 5=.sl b 0 L.length cap 1)(g6:Env.get e 6=.ptr ob 0)(g7:Env.get e 7=.int .i64 (i:Int))(g8:Env.get e 8=.sl jr 0 (2^a.lines.toNat) none 1)
  (gs:s.get 8=some (.cells [.int .i64 a.lines,U6 a,Xd a] 42 false 0 0))(Qe:s.get ob=some (.cells [.int .i64 a.lines,v,w] 42 false 0 0))(gb:s.get b=some (.cells (ZA L) 3 false 0 0))(h8:8<s.next)(zo:ob<s.next)(hb:b<s.next)(h8o:8≠ob)(h13:13<=s.next)
  (hv:ZF s 13 48 1 i cN v)(hw:ZF s 13 72 1 i cF w)(fr:Fr s)
  (hk:∀e' s' v' w' jc,(∀t:Nat,t<10->Env.get e' t=Env.get e t)->s'.get ob=some (.cells [.int .i64 a.lines,v',w'] 42 false 0 0)->ZF s' 13 48 1 (i+1) (cN++[.sl jr 0 (2^a.lines.toNat) none 1]) v'->ZF s' 13 72 1 (i+1) (cF++[.sl jc 0 (2^a.lines.toNat) none 1]) w' ->
   s'.get jc=some (.cells (ZB (Wg a.fa q)) 4 false 0 0)->s.next<=jc->jc<s'.next->(∀j,j<s.next->j≠ob->¬Xi v j->¬Xi w j->s'.get j=s.get j)->s.next<=s'.next->Fr s'->Zu (goN U fin ks e' s')) :
  Zu (go U fin ks (.raw xr) e s):=by
 have Qg:=ha.few;rw[UZ aaK];have LC:=fr.at;have FK:∀t:Nat,t<10->(∀k:Nat,71<=k->(k=t)=False):=fun t ht=>fun k hk=>by simp;omega
 have Q5:∀j q,j<s.next->(j=s.next+q)=False:=fun j q hj=>by simp;omega
 have Tp:∀j q,j<s.next->(s.next+q=j)=False:=fun j q hj=>by simp;omega
 have DU:∀q,q≠0->(s.next+q=s.next)=False:=fun q hq=>by simp;omega
 have DT:∀q,q≠0->(s.next=s.next+q)=False:=fun q hq=>by simp;omega
 have hq':q<a.ZC.length:=by rw[ha.fl];exact hq
 have Lt:(Wg a.fa q).length=2^a.lines.toNat:=Rb a.fa q;have Gk:=ha.m16;have hmp:0<2^a.lines.toNat:=Nat.two_pow_pos _;have r2:=Pg (nl:=a.Tc) hq';have Sb:=xw ha hq';have Zv:Wg a.fa q≠[]:=fun e=>by rw[e,List.length_nil] at Lt;omega
 have ag9:ZG a.ZC[q].1 (ZB a.ZC[q].2)=.fz (ZB (Wg a.fa q)):=by
  rw[Sb]
  cases hh:ZB (Wg a.fa q) with
  |nil=>have:=congrArg List.length hh;rw[Wm,Lt,List.length_nil] at this;omega
  |cons x l=>cases a.ZC[q].1 <;> rfl
 rw[ag9] at r2;have vV:=agX (Wg a.fa q) Zv (by omega);rw[Lt] at vV;have o1:=X9 (l:=L) (i:=i) hi;rw[hLi] at o1;unfold U6 Xd at gs;have x1:(ob=8)=False:=eq_false (fun e=>h8o e.symm);have x2:(8=ob)=False:=eq_false h8o;have Un:(i+1)*24<=1099511627776:=by omega
 have VD:i+1<=1099511627776:=by omega
 have aed:b≠ob:=Wp gb Qe (by decide);have hb8:b≠8:=Wp gb gs (by decide);have x3:(b=ob)=False:=eq_false aed;have x4:(ob=b)=False:=eq_false aed.symm;have key:∀(E:Env) (S:St),(∀t:Nat,t<10->Env.get E t=Env.get e t) ->
   S.get ob=some (.cells [.int .i64 a.lines,.sl (s.next+22) 0 (i+1) none 1,.sl (s.next+25) 0 (i+1) none 1] 42 false 0 0) ->
   S.get (s.next+22)=some (.cells (cN++[.sl jr 0 (2^a.lines.toNat) none 1]) 48 false 0 0)->S.get (s.next+25)=some (.cells (cF++[.sl (s.next+24) 0 (2^a.lines.toNat) none 1]) 72 false 0 0)->S.get (s.next+24)=some (.cells (ZB (Wg a.fa q)) 4 false 0 0) ->
   (∀j,j<s.next->j≠ob->¬Xi v j->¬Xi w j->S.get j=s.get j)->s.next+25<S.next->Fr S->cN.length=i->cF.length=i->Zu (goN U fin ks E S):=by
  intro E S k1 k2 k3 k4 k5 k6 k7 k8 k9 zn;exact hk E S (.sl (s.next+22) 0 (i+1) none 1) (.sl (s.next+25) 0 (i+1) none 1) (s.next+24) k1 k2 (.inr ⟨by omega,by simp[k9],s.next+22,by omega,by omega,rfl,k3⟩) (.inr ⟨by omega,by simp[zn],s.next+25,by omega,by omega,rfl,k4⟩) k5 (by omega) (by omega) k6 (by omega) k8
 rcases hv with⟨i0,rfl,rfl⟩|⟨i0,tk,bv,v1,v2,rfl,v4⟩
 ·rcases hw with⟨_,rfl,rfl⟩|⟨i1,_⟩
  ·subst i0;simp only[go_sem,g1,g5,g6,g7,g8,gs,Qe,gb,hi,o1,r2,cY,vV,Wq,ZD,ajj,ajB,Nat.reducePow,ajr,ajf,LC,h8,zo,hb,Q5,Tp,DU,DT,x1,x2,x3,x4,Un,VD];refine key _ _ (fun t ht=>?_) ?_ ?_ ?_ ?_ (fun j h1 h2 _ _=>?_) ?_ ?_ rfl rfl
   ·have Zv:=FK t ht;simp only[go_sem,Zv]
   ·simp only[go_sem]
   ·simp[go_sem,Q5,Tp,zo,ajf]
   ·simp[go_sem,Q5,Tp,zo,ajf]
   ·simp[go_sem,Q5,Tp,zo,ajf]
   ·have e0:∀q,(s.next+q=j)=False:=fun q=>by simp;omega
    simp only[Z0,ZY,Z_,Z',ZV,ZH,ajf,Nat.reduceAdd,e0,eq_false h2.symm,if_false]
   ·simp only[Z_,Z',ZV];omega
   ·repeat first|exact fr|apply Fr.new|apply Fr.put|apply Fr.upto
    all_goals try simp only[Z_,Z',ZV]
    all_goals omega
  ·omega
 ·rcases hw with⟨i1,_⟩|⟨_,tj,bw,w1,w2,rfl,w4⟩
  ·omega
  ·rw[ajj] at tk tj;have n1:=Wp v4 w4 (by decide);have n2:=Wp v4 Qe (by decide);have n3:=Wp w4 Qe (by decide);have n4:=Wp v4 gb (by decide);have n5:=Wp w4 gb (by decide);have n6:=Wp v4 gs (by decide);have n7:=Wp w4 gs (by decide);have y1:(bv=bw)=False:=eq_false n1;have y2:(bv=ob)=False:=eq_false n2;have y3:(bw=ob)=False:=eq_false n3;have y4:(bv=b)=False:=eq_false n4;have y5:(bw=b)=False:=eq_false n5;have y6:(bv=8)=False:=eq_false n6;have y7:(bw=8)=False:=eq_false n7;have y8:(ob=bv)=False:=eq_false n2.symm;have y9:(ob=bw)=False:=eq_false n3.symm;have y10:(bw=bv)=False:=eq_false n1.symm;have a1:=fun (S:St) (h:S.get bv=some (.cells cN 48 false 0 0))=>vU tk h (.sl jr 0 (2^a.lines.toNat) none 1) rfl
   have a2:=fun (S:St) (h:S.get bw=some (.cells cF 72 false 0 0))=>vU tj h (.sl (s.next+24) 0 (2^a.lines.toNat) none 1) rfl
   simp only[go_sem,g1,g5,g6,g7,g8,gs,Qe,gb,hi,o1,r2,cY,vV,ZD,ajj,ajB,Nat.reducePow,ajr,ajf,LC,h8,zo,hb,Q5,Tp,DU,DT,x1,x2,x3,x4,Un,VD,v2,v4,w2,w4,y1,y2,y3,y4,y5,y6,y7,y8,y9,y10,a1,a2];refine key _ _ (fun t ht=>?_) ?_ ?_ ?_ ?_ (fun j h1 h2 h3 h4=>?_) ?_ ?_ tk tj
   ·have Zv:=FK t ht;simp only[go_sem,Zv]
   ·simp only[go_sem]
   ·simp[go_sem,Q5,Tp,zo,v2,w2,ajf]
   ·simp[go_sem,Q5,Tp,zo,v2,w2,ajf]
   ·simp[go_sem,Q5,Tp,zo,v2,w2,ajf]
   ·have e0:∀q,(s.next+q=j)=False:=fun q=>by simp;omega
    rw[Yu] at h3 h4;simp only[Z0,ZY,Z_,Z',ZV,ZH,ajf,Nat.reduceAdd,e0,eq_false h2.symm,eq_false h3,eq_false h4,if_false]
   ·simp only[Z_,Z',ZV];omega
   ·repeat first|exact fr|apply Fr.new|apply Fr.put|apply Fr.upto
    all_goals try simp only[Z_,Z',ZV]
    all_goals omega
def TJ (s:St)(b:Nat)(t:TypeId)(c:AV)(l:List AV):Prop:=∃j cap,c=.sl j 0 l.length cap 1/\j<s.next/\j≠b/\13<=j/\s.get j=some (.cells l t false 0 0)
theorem TJ.mono {s s':St}{b b':Nat}{t:TypeId}{c:AV}{l:List AV}(h:TJ s b t c l)(hn:s.next<=s'.next)(hg:∀j,j<s.next->j≠b->13<=j->s.get j=some (.cells l t false 0 0)->j≠b'/\s'.get j=some (.cells l t false 0 0)):TJ s' b' t c l:=by
 obtain⟨j,cap,h1,h2,h3,h4,h5⟩:=h;obtain⟨h6,h7⟩:=hg j h2 h3 h4 h5;exact⟨j,cap,h1,by omega,h6,h4,h7⟩
theorem TJ.Yc {s:St}{b d:Nat}{c:AV}{l:List AV}{t:TypeId}(h:TJ s b t c l)(F1:YB U t=some false)(Wh:size U t=some 1)(Ub:l.all Zx=true)(hf:YT (Go.Am.Yc U s d) l=some l):Go.Am.Yc U s (d+1) c=some (.fz l):=by
 obtain⟨j,cap,rfl,_,_,_,h5⟩:=h;rw[QF,h5,UQ,ajj,Wi,F1,Wh,Rh,if_pos Ub,Vt,hf,SQ]
theorem ZF.M6 {s:St}{B:Nat}{t:TypeId}{i:Nat}{cs:List AV}{v:AV}(h:ZF s B t 1 i cs v){j:Nat}(hj:Xi v j):B<=j/\j<s.next/\s.get j=some (.cells cs t false 0 0):=by
 rcases h with⟨_,rfl,_⟩|⟨_,_,b,h2,h3,rfl,h5⟩
 ·exact absurd hj (Ws j)
 ·rw[Yu] at hj;subst hj;exact⟨h2,h3,h5⟩
structure T5 (s:St)(b:Nat)(a:YY)(cN cF:List AV)(v w:AV):Prop where
 v:ZF s 13 48 1 cN.length cN v
 w:ZF s 13 72 1 cF.length cF w
 ln:cN.length=(NF a.fa (X7 a)).length
 lf:cF.length=(NF a.fa (X7 a)).length
 bn:∀j (h:j<(NF a.fa (X7 a)).length) (h':j<cN.length),TJ s b 3 cN[j] (ZA (NF a.fa (X7 a))[j].2)
 bf:∀j (h:j<(NF a.fa (X7 a)).length) (h':j<cF.length),TJ s b 4 cF[j] (ZB (Wg a.fa (NF a.fa (X7 a))[j].1))
 h9:b≠9
theorem T5.keep {s S:St}{b:Nat}{a:YY}{cN cF:List AV}{v w:AV}(h:T5 s b a cN cF v w)(hn:S.next=s.next)(hg:∀j,j≠9->S.get j=s.get j):T5 S b a cN cF v w :=
 ⟨h.v.Ty (by omega) fun j c h _ h2=>by rw[hg j (by omega)];exact h,h.w.Ty (by omega) fun j c h _ h2=>by rw[hg j (by omega)];exact h,h.ln,h.lf,
  fun j h1 h'=>(h.bn j h1 h').mono (by omega) fun k _ h2 h3 h5=>⟨h2,by rw[hg k (by omega)];exact h5⟩,fun j h1 h'=>(h.bf j h1 h').mono (by omega) fun k _ h2 h3 h5=>⟨h2,by rw[hg k (by omega)];exact h5⟩,h.h9⟩
theorem T5.na {s:St}{b:Nat}{a:YY}{cN cF:List AV}{v w:AV}(h:T5 s b a cN cF v w):cN.all Zx=true/\cF.all Zx=true:=by
 have h1:=h.ln;have h2:=h.lf;refine⟨?_,?_⟩
 ·rw[ajq];intro x hx;obtain⟨j,hj,rfl⟩:=ajw.1 hx;obtain⟨_,_,e,_⟩:=h.bn j (by omega) hj;rw[e];rfl
 ·rw[ajq];intro x hx;obtain⟨j,hj,rfl⟩:=ajw.1 hx;obtain⟨_,_,e,_⟩:=h.bf j (by omega) hj;rw[e];rfl
theorem T5.Yc {s:St}{b:Nat}{a:YY}{cN cF:List AV}{v w:AV}(h:T5 s b a cN cF v w)(d:Nat):Go.Am.Yc U s (d+3) v=some (ZG true ((NF a.fa (X7 a)).map fun x=>AV.fz (ZA x.2)))/\Go.Am.Yc U s (d+3) w=some (ZG true ((NF a.fa (X7 a)).map fun x=>AV.fz (ZB (Wg a.fa x.1)))) :=
 ⟨h.v.Sz U vP vO h.na.1 (d:=d+2) (S9 h.ln fun j h1 h'=>(h.bn j h' h1).Yc DP DO (VB _) (U_ _ _ _)),h.w.Sz U vM vL h.na.2 (d:=d+2) (S9 h.lf fun j h1 h'=>(h.bf j h' h1).Yc tg tf (T4 _) (ON _ _ _))⟩
theorem aeT {a:YY}(ha:a.ok){e:Env}{s:St}(g1:Env.get e 1=.ptr 8 0)(g2:Env.get e 2=.ptr 9 0)(g3:Env.get e 3=.fz (ZA (SK a)))(g4:Env.get e 4=.map 10)(g5:Env.get e 5=.sl 11 0 1 (some 1) 1)(g6:Env.get e 6=.ptr 12 0)(g7:Env.get e 7=.int .i64 (0:Nat))
  (gs:s.get 8=some (.cells [.int .i64 a.lines,U6 a,Xd a] 42 false 0 0))(g9:s.get 9=some (.cells [.int .i64 0,.ZM,.ZM] 42 false 0 0))(gm:s.get 10=some (.map (Rc [X7 a 0] 0) false))(gb:s.get 11=some (.cells (ZA [0]) 3 false 0 0))(Qe:s.get 12=some (.cells [.int .i64 a.lines,.ZM,.ZM] 42 false 0 0))(nx:13<=s.next)(fr:Fr s){β:Type}{fin:Fl->β}{ks:List K}{Zu:β->Prop}
  (hk:∀e' s' v w b cN cF,Env.get e' 6=.ptr 12 0->Env.get e' 2=.ptr 9 0->s'.get 12=some (.cells [.int .i64 a.lines,v,w] 42 false 0 0)->s'.get 9=some (.cells [.int .i64 0,.ZM,.ZM] 42 false 0 0)->T5 s' b a cN cF v w->Zu (goN U fin ks e' s')) :
  Zu (SC U fin (.bk 0::ks) Jv e s):=by
 have Qg:=ha.few;have hA:=ha.Ob;have Gk:=ha.m16;have hmp:0<2^a.lines.toNat:=Nat.two_pow_pos _;refine YG (σ:=Nat) (fun i=>a.next.length-i) (fun i e s=>Env.get e 1=.ptr 8 0/\Env.get e 2=.ptr 9 0/\Env.get e 3=.fz (ZA (SK a))/\Env.get e 4=.map 10/\Env.get e 6=.ptr 12 0/\Env.get e 7=.int .i64 (i:Nat)/\s.get 8=some (.cells [.int .i64 a.lines,U6 a,Xd a] 42 false 0 0)/\s.get 9=some (.cells [.int .i64 0,.ZM,.ZM] 42 false 0 0)/\13<=s.next/\Fr s /\
   ∃(L:List Nat) (b:Nat) (cap:Option Nat) (acc:List (Nat×List Nat)) (cN cF:List AV) (v w:AV),Env.get e 5=.sl b 0 L.length cap 1/\(cap=none\/cap=some L.length)/\s.get b=some (.cells (ZA L) 3 false 0 0)/\b<s.next/\(b=11\/13<=b)/\(∀z∈L,z<a.next.length)/\(L.map (X7 a)).Nodup/\s.get 10=some (.map (Rc (L.map (X7 a)) 0) false) /\
    s.get 12=some (.cells [.int .i64 a.lines,v,w] 42 false 0 0)/\ZF s 13 48 1 i cN v/\ZF s 13 72 1 i cF w/\acc.length=i/\cN.length=i/\cF.length=i /\
    (∀j (h:j<acc.length) (h':j<cN.length),TJ s b 3 cN[j] (ZA acc[j].2))/\(∀j (h:j<acc.length) (h':j<cF.length),TJ s b 4 cF[j] (ZB (Wg a.fa acc[j].1))) /\
    i<=L.length/\acc++UT (X7 a) (X0 a.fa) (a.next.length+1-i) i L=NF a.fa (X7 a)) 0 ?_
  ⟨g1,g2,g3,g4,g6,g7,gs,g9,nx,fr,[0],11,some 1,[],[],[],.ZM,.ZM,g5,.inr rfl,gb,by omega,.inl rfl,fun z hz=>by rw[ajm.1 hz];exact ha.pos,by simp,gm,Qe,ZF.nil _ _ _ _,ZF.nil _ _ _ _,rfl,rfl,rfl,fun j h=>by simp at h,fun j h=>by simp at h,aji _,rfl⟩
 clear g1 g2 g3 g4 g5 g6 g7 gs g9 gb gm Qe nx fr e s;rintro Lp i e s ⟨g1,g2,g3,g4,g6,g7,gs,g9,nx,fr,L,b,cap,acc,cN,cF,v,w,g5,F4,gb,nb,hb,vR,BL,gm,Qe,hv,hw,Ls,tk,tj,hBN,hBF,hiL,X'⟩ IH;have aiO:L.length<=a.next.length:=Vm BL vR;by_cases hd:i<L.length
 ·have Qp:=ZE hd (by omega);have hq:L[i]<a.next.length:=vR _ (ajc hd);have hLi:L[i]? = some L[i]:=aaa hd;have o1:=X9 (l:=L) (i:=i) hd;rw[R_ hd] at o1;rw[show a.next.length+1-i=(a.next.length+1-(i+1))+1 by omega,UT,hLi] at X';simp only at X';have Sb:=Ru (nl:=a.TN) hq;have hlen:=(ha.row _ hq).1;have hl:=ZJ a.next[L[i]].1 (ints a.next[L[i]].2);rw[Zl,hlen] at hl;generalize hqe:L[i]=q at *;have cC:=gs;unfold U6 Xd at cC;simp only[go_sem,Jv,g1,g5,g7,cC,gb,o1,Z9,hd,Sb,hl,ajj];refine aeU (Zu:=Zu) ha (L:=L) (q:=q) (b:=b) (m:=10) (cap:=cap) hq F4 vR BL (by omega) ?_ ?_ ?_ ?_ ?_ ?_ ?_ gm gb (by rw[ZV];omega) (by rw[ZV];omega) (fr.upto (by omega)) ?_
  case refine_8 =>
   intro e2 s2 b2 aeV rv Og p5 aeW VD nb2 qb2 qm2 p8 hR hRf Se Gc IV;simp only[ZV,ZH] at VD hR Se Gc;obtain⟨nd2,ai3,aaR,Cp,_⟩:=Vn (κ:=X7 a) (X0 a.fa q) L BL;have Cp:(YV (X7 a) (X0 a.fa q) L).2.length=2^a.lines.toNat:=by rw[Cp];exact Hd a.fa q
   have gJ:∀z∈(YV (X7 a) (X0 a.fa q) L).1,z<a.next.length:=by
    have:=(SY (κ:=X7 a) (ρ:=X7 a) (Q:=fun z=>z<a.next.length) (fun _ _ _ _=>Iff.rfl) (X0 a.fa q) L (fun y hy=>by
     obtain⟨x,hx,rfl⟩:=ajs.1 hy;exact hA.lt q x hq (ajE.1 hx)) vR).2
    exact this
   have hLf:=aaR i hd;rw[hLi] at hLf;generalize ai4:(YV (X7 a) (X0 a.fa q) L).1=Lf at *;generalize ai5:(YV (X7 a) (X0 a.fa q) L).2=kf at *;have abJ:i<Lf.length:=by omega
   have jh:gt Lf i=q:=by
    rw[aaa abJ] at hLf;rw[R_ abJ];exact Option.some.inj hLf
   obtain⟨jr,rfl,hjr,jr1,jr2⟩:∃jr,rv=.sl jr 0 (2^a.lines.toNat) none 1/\s2.get jr=some (.cells (ZA kf) 3 false 0 0)/\s.next+10<=jr/\jr<s2.next:=by
    rcases hR with⟨_,h⟩|⟨j,h1,h2,h3,h4⟩
    ·rw[h,List.length_nil] at Cp;omega
    ·exact⟨j,by rw[h1,Cp],h2,h3,h4⟩
   have hJ:=hRf jr ((Yu _ _ _).2 rfl);have E2:∀t:Nat,t<10->t≠5->t≠8->Env.get e2 t=Env.get e t:=fun t h1 h5 h8=>by
    rw[Og t h1 h5 h8];have Zv:∀k:Nat,10<=k->(k=t)=False:=fun k hk=>by simp;omega
    have kZ:(8=t)=False:=by simp;omega
    simp only[go_sem,Zv,kZ]
   have p1:=(E2 1 (by omega) (by omega) (by omega)).trans g1;have p2:=(E2 2 (by omega) (by omega) (by omega)).trans g2;have p3:=(E2 3 (by omega) (by omega) (by omega)).trans g3;have p4:=(E2 4 (by omega) (by omega) (by omega)).trans g4;have p6:=(E2 6 (by omega) (by omega) (by omega)).trans g6;have p7:=(E2 7 (by omega) (by omega) (by omega)).trans g7;have u8:=(Se 8 (by omega) (by omega) (by omega)).trans gs;have u9:=(Se 9 (by omega) (by omega) (by omega)).trans g9;have u12:=(Se 12 (by omega) (by omega) (by omega)).trans Qe;have Cv:ZF s2 13 48 1 i cN v:=hv.Ty (by omega) fun j c h1 h2 h3=>by rw[Se j (by omega) (Wp h1 gb (by decide)) (by omega)];exact h1
   have Gx:ZF s2 13 72 1 i cF w:=hw.Ty (by omega) fun j c h1 h2 h3=>by rw[Se j (by omega) (Wp h1 gb (by decide)) (by omega)];exact h1
   have ahL:∀j (h:j<acc.length) (h':j<cN.length),TJ s2 b2 3 cN[j] (ZA acc[j].2):=fun j h h'=>(hBN j h h').mono (by omega) fun k h1 h2 h3 h4=>⟨by omega,by rw[Se k (by omega) h2 (by omega)];exact h4⟩
   have ahM:∀j (h:j<acc.length) (h':j<cF.length),TJ s2 b2 4 cF[j] (ZB (Wg a.fa acc[j].1)):=fun j h h'=>(hBF j h h').mono (by omega) fun k h1 h2 h3 h4=>⟨by omega,by rw[Se k (by omega) h2 (by omega)];exact h4⟩
   simp only[go_sem];refine aec (Zu:=Zu) ha (L:=Lf) (q:=q) (b:=b2) (i:=i) (ob:=12) (jr:=jr) (cap:=aeV) hq abJ jh (by omega) p1 p5 p6 p7 p8 u8 u12 qb2 (by omega) (by omega) nb2 (by omega) (by omega) Cv Gx IV ?_;intro e3 s3 v' w' jc FM ahN hv3 hw3 hjc jc1 jc2 fs3 aL tn;have qE:∀t:Nat,t<10->Env.get e3 t=Env.get e2 t:=FM;have o7:=(FM 7 (by omega)).trans p7;simp only[go_sem,o7,Qp];have nv:∀j c t,s2.get j=some (.cells c t false 0 0)->t≠48->¬Xi v j:=fun j c t h1 h2 h3=>h2 (by
    have:=Cv.M6 h3;by_cases e:t=48
    ·exact e
    ·exact absurd rfl (Wp h1 this.2.2 e))
   have nw:∀j c t,s2.get j=some (.cells c t false 0 0)->t≠72->¬Xi w j:=fun j c t h1 h2 h3=>h2 (by
    have:=Gx.M6 h3;by_cases e:t=72
    ·exact e
    ·exact absurd rfl (Wp h1 this.2.2 e))
   have pr:∀j c t,j<s2.next->j≠12->s2.get j=some (.cells c t false 0 0)->t≠48->t≠72->s3.get j=some (.cells c t false 0 0):=fun j c t h1 h2 h3 h4 h5=>by
    rw[fs3 j h1 h2 (nv j c t h3 h4) (nw j c t h3 h5)];exact h3
   have ahO:s3.get 10=s2.get 10:=fs3 10 (by omega) (by omega) (fun h=>by have:=(Cv.M6 h).1;omega) fun h=>by have:=(Gx.M6 h).1;omega
   have bj3:∀c l,TJ s2 b2 3 c l->TJ s3 b2 3 c l:=fun c l h=>h.mono aL fun k h1 h2 h3 h4=>⟨h2,pr k _ _ h1 (by omega) h4 (by decide) (by decide)⟩
   have bj4:∀c l,TJ s2 b2 4 c l->TJ s3 b2 4 c l:=fun c l h=>h.mono aL fun k h1 h2 h3 h4=>⟨h2,pr k _ _ h1 (by omega) h4 (by decide) (by decide)⟩
   have Lt:(Wg a.fa q).length=2^a.lines.toNat:=Rb a.fa q;rw[List.append_cons] at X';refine IH (i+1) _ _ (by omega) ⟨?_,?_,?_,?_,?_,?_,pr _ _ _ (by omega) (by omega) u8 (by decide) (by decide),pr _ _ _ (by omega) (by omega) u9 (by decide) (by decide),by omega,tn,Lf,b2,aeV,acc++[(q,kf)],cN++[.sl jr 0 (2^a.lines.toNat) none 1],cF++[.sl jc 0 (2^a.lines.toNat) none 1],v',w',?_,aeW,pr _ _ _ nb2 (by omega) qb2 (by decide) (by decide),by omega,by omega,gJ,nd2,ahO.trans qm2,ahN,hv3,hw3,by simp[Ls],by simp[tk],by simp[tj],fun j h h'=>?_,fun j h h'=>?_,by omega,X'⟩
   case refine_8 =>
    by_cases hj:j<acc.length
    ·rw[aj9 (by omega),aj9 hj];exact bj3 _ _ (ahL j hj (by omega))
    ·have hj:j=acc.length:=by rw[ajh,ajR] at h;omega
     subst hj;rw[ake (by omega),ake (by omega)];simp only[List.getElem_singleton];exact bj3 _ _ ⟨jr,none,by rw[U',Cp],jr2,hJ,by omega,hjr⟩
   case refine_9 =>
    by_cases hj:j<acc.length
    ·rw[aj9 (by omega),aj9 hj];exact bj4 _ _ (ahM j hj (by omega))
    ·have hj:j=acc.length:=by rw[ajh,ajR] at h;omega
     subst hj;rw[ake (by omega),ake (by omega)];simp only[List.getElem_singleton];exact⟨jc,none,by rw[Wm,Lt],jc2,by omega,by omega,hjc⟩
   all_goals simp only[go_sem,(FM 1 (by omega)).trans p1,(FM 2 (by omega)).trans p2,(FM 3 (by omega)).trans p3,(FM 4 (by omega)).trans p4,(FM 5 (by omega)).trans p5,(FM 6 (by omega)).trans p6]
  all_goals simp only[go_sem,g3,g4,g5]
  all_goals rfl
 ·have hie:i=L.length:=by omega
  have Tb:UT (X7 a) (X0 a.fa) (a.next.length+1-i) i L=[]:=by
   rw[show a.next.length+1-i=(a.next.length-i)+1 by omega,UT,akb (by omega)]
  rw[Tb,ajG] at X';have hle:decide ((i:Int)<(L.length:Int))=false:=by rw[Z9];simp;omega
  simp only[go_sem,Jv,g5,g7,hle];have hv':ZF s 13 48 1 cN.length cN v:=by rw[tk];exact hv
  have M8:ZF s 13 72 1 cF.length cF w:=by rw[tj];exact hw
  refine hk _ _ v w b cN cF ?_ ?_ Qe g9 ⟨hv',M8,by rw[<-X'];omega,by rw[<-X'];omega,?_,?_,by omega⟩
  ·simp only[go_sem,g6]
  ·simp only[go_sem,g2]
  ·rw[<-X'];exact hBN
  ·rw[<-X'];exact hBF
theorem abK {a:YY}(ha:a.ok):(NF a.fa (X7 a)).map (fun x=>AV.fz (ZA x.2))=(Vx a.fa).map (fun x=>AV.fz (ZA x.2))/\(NF a.fa (X7 a)).map (fun x=>AV.fz (ZB (Wg a.fa x.1)))=(Vx a.fa).map (fun x=>AV.fz (ZB (Wg a.fa x.1))):=by
 obtain⟨h1,h2⟩:=min_eq ha.Ob (cl:=X7 a) fun u v hu hv=>lI ha hu hv
 rw[h1];simp only[List.map_map];refine⟨rfl,ajV fun x hx=>?_⟩;show _=AV.fz (ZB (Wg a.fa (YP a.fa x.1)))
 congr 2
 unfold Wg;refine ajV fun y hy=>?_
 exact (Dp ha.Ob (h2 x hx) (ajE.1 hy)).symm
theorem ago {a:YY}(ha:a.ok):Zw U 63 [VQ a]=some (VQ (YW a)):=by
 refine ZI ag0 (by kernel_rfl) (by simp[ZO,Xp]) ?_;have h172:=ahr ha;rw[WT] at h172 ⊢;have nn:=ZW a.TN (a.next.map Zi);have nf:=ZW a.Tc (a.ZC.map Zq);have cn:=ZR a.TN (a.next.map Zi);have cf:=ZR a.Tc (a.ZC.map Zq);have hA:=ha.Ob;have o1:=Ev (l:=SK a) (i:=0) (by rw[KZ ha];exact ha.pos);have o1:UC 1 (.fz (ZA (SK a))) (.int .i64 0)=some (.fp [.int .i64 ((X7 a 0:Nat):Int)] 0):=o1;have up:=fun (S:St) (h:S.get 10=some (.map [] false))=>Ey (m:=10) (ks:=[]) h (k:=X7 a 0) (by simp)
 have up:∀S:St,S.get 10=some (.map [] false)->V0 U 204 (.map 10) (.int .i64 ((X7 a 0:Nat):Int)) (.int .i64 0) S=some (S.put 10 (.map (Rc [X7 a 0] 0) false)):=up;unfold U6 Xd at h172 ⊢;simp only[go_sem,ad6,nn,nf,cn,cf,h172,o1,up];refine aeT (Zu:=fun (o:Option AV)=>o=some (VQ (YW a))) ha ?_ ?_ ?_ ?_ ?_ ?_ ?_ ?_ ?_ ?_ ?_ ?_ ?_ ?_ ?_
 case refine_15 =>
  intro e' s' v w b cN cF p6 p2 u12 u9 MR;have nav:=MR.v.Zx;have naw:=MR.w.Zx;have hE:VQ (YW a)=.agg [.int .i64 a.lines,ZG true ((Vx a.fa).map fun x=>AV.fz (ZA x.2)),ZG true ((Vx a.fa).map fun x=>AV.fz (ZB (Wg a.fa x.1)))]:=by
   rw[WT,U6,Xd,YW];simp only[List.map_map];have e1:∀x:Nat×List Nat,(Zi∘fun x:Nat×List Nat=>(false,NU x.2)) x=AV.fz (ZA x.2):=fun x=>by simp only[Function.comp,Zi,QD];rfl
   have e2:∀x:Nat×List Nat,(Zq∘fun x:Nat×List Nat=>(false,Wg a.fa x.1)) x=AV.fz (ZB (Wg a.fa x.1)):=fun x=>by simp only[Function.comp,Zq,QD]
   rw[ajV (fun x _=>e1 x),ajV (fun x _=>e2 x)]
  obtain⟨m1,m2⟩:=abK ha;have MK:=fun x=>MR.keep (S:=s'.put 9 x) (by rw[Z_]) fun j hj=>by rw[Z0,if_neg (fun e=>hj e.symm)]
  have fv':=fun x=>((MK x).Yc 36).1
  have fw':=fun x=>((MK x).Yc 36).2
  rw[m1] at fv';rw[m2] at fw';rw[hE];simp only[go_sem,p6,p2,u12,u9,nav,naw,fv',fw']
 case refine_14 =>
  repeat first|exact Fr.own|apply Fr.new|apply Fr.put|apply Fr.upto
  all_goals simp only[go_sem]
 all_goals simp only[go_sem]
 all_goals rfl
end Go.Am
