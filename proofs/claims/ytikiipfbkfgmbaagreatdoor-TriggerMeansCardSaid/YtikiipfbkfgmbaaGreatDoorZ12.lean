/- A part of the proof of a statement of this seat: the machine on which the program is read, and what it computes; for every input. -/
import Derived.Test.YtikiipfbkfgmbaaGreatDoorZ11
import Derived.Test.YtikiipfbkfgmbaaGreatDoorZ07
set_option linter.all false
namespace Go.Am
open Go
variable [Z4]
set_option maxRecDepth 100000
set_option maxHeartbeats 8000000
theorem aj2 {b n k:Nat}(h:k<=n):Es 1 (.sl b 0 n none 1) none (some (.int .i64 (k:Int)))=some (.sl b 0 k none 1):=by
 have e1:Yz (some (.int .i64 (k:Int))) n n=some k:=by simp[Yz];omega
 have e2:Yz none 0 k=some 0:=by simp[Yz]
 simp only[Es,Option.getD_none,e1,e2,ah1,ald,if_true,Option.map_none,Nat.sub_zero]
theorem iW (Xy:Nat->Nat->List Nat)(m f:Nat)(p:Pt):Hh Xy m f p []=p:=by
 cases f <;> rfl
theorem iV (A:Fa)(x c:Nat):(M5 A x c).length<=A.n:=by
 unfold M5;have:=List.length_filter_le (fun u=>A.nx u x==c) (List.range A.n);rw[List.length_range] at this;exact this
theorem afT {β:Type}{fin:Fl->β}{ks:List K}{ZB:β->Prop}{A:Fa}(hA:A.ok){pb bl bp bs bb be bm N B lo hi F:Nat}{bx:Nat->Nat}{vs:Nat->Nat->AV}{p:Pt}{W:List Nat}{wv:AV}{e:Env}{s:St}(hn:A.n<=2^9)(hm:A.m<=2^8)(h:LI s pb A.n bl bp bs bb be bm p)(hH:ft A p W)(hF:F<=2^12)(hme:2*(A.n-p.bg.length)+W.length<=F)
  (g3:Env.get e 3=.ptr pb 0)(g4:Env.get e 4=.sl B 0 A.m (some A.m) 1)(g8:Env.get e 8=wv)
  (hW:NP s N W wv)(PQ:∀j,Xb wv j->Xk pb bl bp bs bb be bm j/\Ou lo hi j)(hN:N<=s.next)
  (hB:AT s B A.m A.n (M5 A) lo hi bx vs)(fj:∀j,Ou lo hi j\/Xk pb bl bp bs bb be bm j)(fr:Fr s)
  (hk:∀e' s' Pg Pf Pe,Env.get e' 3=.ptr pb 0->LI s' pb A.n bl bp bs Pg Pf Pe (Hh (M5 A) A.m F p W)->ZB (goN U fin ks e' s')) :
  ZB (SD U fin (.bk 6::ks) Hw e s):=by
 have lts:=h.fZ;have hle:=hB.le;refine YP (σ:=Nat) (fun f=>f) (fun f e' s'=>f<=F/\Env.get e' 3=.ptr pb 0/\Env.get e' 4=.sl B 0 A.m (some A.m) 1/\s.next<=s'.next/\Fr s' /\
   ∃p' W' Ph Pg Pf Pe,Env.get e' 8=Ph/\LI s' pb A.n bl bp bs Pg Pf Pe p'/\ft A p' W'/\2*(A.n-p'.bg.length)+W'.length<=f/\Hh (M5 A) A.m f p' W'=Hh (M5 A) A.m F p W/\NP s' N W' Ph/\(∀j,Xb Ph j->Xk pb bl bp bs Pg Pf Pe j/\Ou lo hi j)/\AT s' B A.m A.n (M5 A) lo hi bx vs/\(∀j,Ou lo hi j\/Xk pb bl bp bs Pg Pf Pe j)) F ?_
  ⟨agB _,g3,g4,agB _,fr,p,W,wv,bb,be,bm,g8,h,hH,hme,rfl,hW,PQ,hB,fj⟩
 rintro Lp f e' s' ⟨hf,q3,q4,Vl,Xx,p',W',Ph,Pg,Pf,Pe,q8,P,bU,acG,iU,rE,Iy,B',acH⟩ IH;have EK:=rE.SW;rcases List.eq_nil_or_concat W' with rfl|⟨W0,k,rfl⟩
 ·rw[iW] at iU;simp only[go_sem,Hw,q8,EK];refine hk _ _ Pg Pf Pe ?_ (by rw[<-iU];exact P);simp only[go_sem,q3]
 ·rw[List.concat_eq_append] at *;obtain⟨f,rfl⟩:∃g,f=g+1:=⟨f-1,by simp at acG;omega⟩;have Je:(W0++[k]).getLast? = some k:=by simp
  obtain⟨H2,bR⟩:=AZ hA (fun y _ c _ u=>KG A y c u) bU Je;rw[Hh,Je] at iU;simp only[List.dropLast_concat] at iU H2 bR;have hkW:=bU.work k (by simp);obtain⟨k1,k2,k3⟩:=bU.wf.sp k hkW;have Si:=bU.wf.few;have alu:=bU.wf.le;have alv:=bU.wf.ll;have PY:W0.length+1<=F:=by simp at acG;omega
  have hlen:(W0++[k]).length=W0.length+1:=by simp
  rw[hlen] at EK;obtain⟨b,R,rfl,hg,eG⟩:∃b R,Ph=.sl b 0 (W0.length+1) none 1/\s'.get b=some (.cells (ZO (W0++[k]++R)) 3 false 0 0)/\N<=b/\b<s'.next:=by
   rcases rE with⟨_,h⟩|⟨b,R,h1,h2,h3,h4⟩
   ·simp at h
   ·exact⟨b,R,by rw[h1,hlen],h2,h3,h4⟩
  have o1:(ZO (W0++[k]++R))[W0.length]? = some (.int .i64 (k:Nat)):=by
   rw[Yq (by simp),HC (by simp),yx (agB _),Nat.sub_self];rfl
  have w1:IntKind.i64.wrap (((W0.length+1:Nat):Int)-1)=(W0.length:Int):=by rw[wrap_i64] <;> omega
  have fI:decide (((W0.length+1:Nat):Int)>0)=true:=by simp
  have sl1:=aj2 (b:=b) (n:=W0.length+1) (k:=W0.length) (by omega);have o2:=Yq (l:=p'.bg) (i:=k) hkW;have o3:=Yq (l:=p'.en) (i:=k) (by omega);have ke:k<p'.en.length:=by omega
  have sl2:=acI (b:=bl) (n:=p'.list.length) (f:=gt p'.bg k) (t:=gt p'.en k) (.inl rfl) (by omega) (by omega);have aaO:=P.fZ;obtain⟨t1,t2,t3,t4,t5,t6,t7⟩:=aaO;have c1:=aj3 (s:=s'.upto (s'.next+21)) (b:=bl) (f:=gt p'.bg k) (k:=gt p'.en k-gt p'.bg k) (cap:=none) (L:=p'.list) (by rw[ZT];exact P.gl) (by rw[Z6];omega) (by omega) (by omega) (by omega);have M0:∀j q,j<s'.next->(s'.next+q=j)=False:=fun j q hj=>by simp;omega
  have lb:=eG.2;have q1:W0.length<W0.length+1:=by omega
  simp only[go_sem,Hw,q3,q4,q8,EK,hg,o1,w1,fI,sl1,o2,o3,hkW,ke,sl2,P.g,P.gb,P.ge,ah1,agc,c1,Option.map_none,q1];have fQ:∀j x y,j<s'.next->((((s'.upto (s'.next+21)).new x).new y).get j=s'.get j):=fun j x y hj=>by
   rw[Z7,Z_,Z6,if_neg (by omega),Z7,Z6,if_neg (by omega),ZT]
  have Mw:(piece p'.list (gt p'.bg k) (gt p'.en k)).length=gt p'.en k-gt p'.bg k:=Jv (by omega);have hms:∀u∈piece p'.list (gt p'.bg k) (gt p'.en k),u<A.n:=fun u hu=>by
   obtain⟨i,h1,h2,rfl⟩:=(NR (by omega)).1 hu;exact (bU.wf.li i (by omega)).1
  refine ady (N:=N) (n:=A.n) (m:=A.m) (nx:=A.nx) (B:=B) (lo:=lo) (hi:=hi) (bx:=bx) (vs:=vs) (bf:=M5 A) (p:=p') (W:=W0) (wv:=.sl b 0 W0.length none 1) (ms:=piece p'.list (gt p'.bg k) (gt p'.en k)) (mv:=.sl (s'.next+22) 0 (gt p'.en k-gt p'.bg k) none 1) hn hm (P.mono (by simp only[Z_,Z6];omega) fun j hj=>fQ j _ _ (P.lt j hj)) bU.wf bU.zero hms (by omega) (by omega) (fun y _ c _ u=>KG A y c u) (fun y _ c _=>iV A y c) ?_ ?_ ?_ ?_ ?_ ?_ (.inr ⟨b,[k]++R,rfl,?_,eG.1,?_⟩) (fun j hj=>?_) ?_ (.inr ⟨s'.next+22,?_,?_,?_⟩) (fun j hj=>?_) (B'.keep (by simp only[Z_,Z6];omega) fun j h1 h2=>fQ j _ _ (by omega)) acH ?_ ?_
  case refine_16 =>
   intro e2 s2 wv2 cb ce cm QF fh P2 W2 S4 hf2 hcb hce Ef fs2 rD O1;simp only[Z_,Z6] at rD fs2 S4 hcb hce Ef;simp only[go_sem];refine IH f _ _ (by omega) ⟨by omega,?_,?_,by omega,O1,_,_,wv2,cb,ce,cm,fh,P2,H2,by simp at acG;omega,iU,W2,fun j hj=>⟨hf2 j hj,?_⟩,?_,fun j=>?_⟩
   ·rw[QF 3 (by omega)];simp only[go_sem,q3]
   ·rw[QF 4 (by omega)];simp only[go_sem,q4]
   ·rcases S4 j hj with h6|h6
    ·rw[Yl] at h6;exact (Iy j ((Yl _ _ _).2 h6)).2
    ·unfold Ou;omega
   ·refine B'.keep (by omega) fun j h1 h2=>?_
    have h3:Xk pb bl bp bs Pg Pf Pe j:=by rcases acH j with h|h;unfold Ou at h;omega;exact h
    rw[fs2 j (by omega) h3 (fun hb=>by
     rw[Yl] at hb;have:=(Iy j ((Yl _ _ _).2 hb)).2;unfold Ou at this;omega),fQ j _ _ (by omega)]
   ·rcases acH j with h3|h3
    ·exact .inl h3
    ·unfold Xk at h3 ⊢;unfold Ou;omega
  case refine_15=>exact ((Xx.upto (by omega)).new _).new _
  case refine_14 =>
   rw[Yl] at hj;subst hj;rw[Yl];refine⟨by unfold Xk;omega,by omega⟩
  case refine_13=>simp only[Z_,Z6];omega
  case refine_12=>rw[Z7,Z_,Z6,if_pos rfl];rfl
  case refine_11=>rw[Mw]
  case refine_10=>simp only[Z_,Z6];omega
  case refine_9 =>
   rw[Yl] at hj;exact Iy j ((Yl _ _ _).2 hj)
  case refine_8=>simp only[Z_,Z6];omega
  case refine_7=>rw[fQ _ _ _ eG.2,hg,alS]
  all_goals simp only[go_sem,q3,q4]
  all_goals rfl
def OF (A:Fa)(x c i:Nat):List Nat:=(List.range i).filter fun u=>A.nx u x==c
theorem DQ (A:Fa)(x c i:Nat):OF A x c (i+1)=if A.nx i x=c then OF A x c i++[i] else OF A x c i:=by
 unfold OF;rw[List.range_succ,List.filter_append];by_cases e:A.nx i x=c <;> simp[e]
theorem mA (A:Fa)(x c i:Nat):(OF A x c i).length<=i:=by
 unfold OF;have:=List.length_filter_le (fun u=>A.nx u x==c) (List.range i);rw[List.length_range] at this;exact this
def Cc (f:Nat->AV)(c:Nat)(v:AV)(k:Nat):AV:=if k=c then v else f k
theorem tB {f:Nat->AV}{n c:Nat}(h:c<n)(v:AV):lay c [v] ((List.range n).map f)=some ((List.range n).map (Cc f c v)):=by
 rw[NH _ _ _ (by simpa using h)]
 congr 1
 apply List.ext_getElem?;intro k;rw[List.getElem?_set];simp only[alV,agC,List.length_range];by_cases e:c=k
 ·subst e;rw[if_pos rfl,if_pos h,List.getElem?_range h];simp[Cc]
 ·rw[if_neg e];by_cases hk:k<n
  ·rw[List.getElem?_range hk];simp[Cc,Ne.symm e]
  ·rw[amm (by simp;omega)];rfl
theorem ad7 {β:Type}{fin:Fl->β}{ks:List K}{ZB:β->Prop}{a:Yi}(ha:a.ok){x B bX m:Nat}{Bc:List AV}{e:Env}{s:St}(hx:x<2^a.lines.toNat)
  (g4:Env.get e 4=.sl B 0 m (some m) 1)(g5:Env.get e 5=.int .i64 (x:Int))(g40:Env.get e 40=ZG a.TH (a.next.map Zn))(g41:Env.get e 41=.int .i64 a.next.length)(g42:Env.get e 42=.int .i64 (0:Nat))
  (hxm:x<m)(gB:s.get B=some (.cells Bc 66 false 0 0))(hBx:Bc[x]? = some (.sl bX 0 a.next.length (some a.next.length) 1))(gX:s.get bX=some (.cells ((List.range a.next.length).map fun _=>.ZW) 40 false 0 0))(ZC:B≠bX)(hB:B<s.next)(hX:bX<s.next)(fr:Fr s)
  (hk:∀e' s' vs,(∀t:Nat,t<6\/7<t/\t<40->Env.get e' t=Env.get e t)->s'.get bX=some (.cells ((List.range a.next.length).map vs) 40 false 0 0)->(∀c,c<a.next.length->HS s' s.next (OF a.fa x c a.next.length) (vs c)) ->
   (∀j,j<s.next->j≠bX->s'.get j=s.get j)->s.next<=s'.next->Fr s'->ZB (goN U fin ks e' s')) :
  ZB (SD U fin (.bk 2::ks) Li e s):=by
 have Si:=ha.few;refine YP (σ:=Nat) (fun i=>a.next.length-i) (fun i e' s'=>i<=a.next.length/\(∀t:Nat,t<6\/7<t/\t<42->Env.get e' t=Env.get e t)/\Env.get e' 42=.int .i64 (i:Nat)/\(∀j,j<s.next->j≠bX->s'.get j=s.get j)/\s.next<=s'.next/\Fr s' /\
   ∃vs:Nat->AV,s'.get bX=some (.cells ((List.range a.next.length).map vs) 40 false 0 0)/\(∀c,c<a.next.length->HS s' s.next (OF a.fa x c i) (vs c))/\∀c c' j,c≠c'->c<a.next.length->c'<a.next.length->Xb (vs c) j->¬Xb (vs c') j) 0 ?_
  ⟨aic _,fun _ _=>rfl,g42,fun _ _ _=>rfl,agB _,fr,fun _=>.ZW,gX,fun c _=>.inl ⟨rfl,rfl⟩,fun c c' j _ _ _ h=>absurd h (V' j)⟩
 rintro Lp i e' s' ⟨ra,hold,ay,hs,Vl,Xx,vs,qX,SI,ad8⟩ IH;have q4:=(hold 4 (by omega)).trans g4;have q5:=(hold 5 (by omega)).trans g5;have Bg:=(hold 40 (by omega)).trans g40;have fT:=(hold 41 (by omega)).trans g41;by_cases hd:i<a.next.length
 ·have Rm:=ZN hd (by omega);have M_:=Sf (nl:=a.TH) hd;have OL:=ha.mz hd hx;have hc:a.fa.nx i x<a.next.length:=ha.M9.lt i x hd hx;have gB':=(hs B hB ZC).trans gB;have o1:=NG vs hc;have hvc:=SI _ hc;have Hd:=mA a.fa x (a.fa.nx i x) i;have LQ:OF a.fa x (a.fa.nx i x) (i+1)=OF a.fa x (a.fa.nx i x) i++[i]:=by rw[DQ,if_pos rfl]
  have hbo:∀c,c≠a.fa.nx i x->OF a.fa x c (i+1)=OF a.fa x c i:=fun c h=>by rw[DQ,if_neg (fun e=>h e.symm)]
  generalize a.fa.nx i x=c at *;have OE:=fun v=>tB (f:=vs) hc v
  have hX':bX<s'.next:=by omega
  have hBn:B<s'.next:=by omega
  have Nc:=Xx.at;have M0:∀j q,j<s'.next->(j=s'.next+q)=False:=fun j q hj=>by simp;omega
  have Kl:∀j q,j<s'.next->(s'.next+q=j)=False:=fun j q hj=>by simp;omega
  have z1:(bX=B)=False:=eq_false ZC.symm;have z2:(B=bX)=False:=eq_false ZC;have key:∀(E:Env) (S:St),(∀t:Nat,t<6\/7<t/\t<42->Env.get E t=Env.get e' t)->Env.get E 42=.int .i64 ((i+1:Nat):Int) ->
    S.get bX=some (.cells ((List.range a.next.length).map (Cc vs c (.sl (s'.next+23) 0 ((OF a.fa x c i).length+1) none 1))) 40 false 0 0)->S.get (s'.next+23)=some (.cells (ZO (OF a.fa x c i++[i])) 3 false 0 0) ->
    (∀j,j<s'.next->j≠bX->¬Xb (vs c) j->S.get j=s'.get j)->s'.next+23<S.next->Fr S->ZB (SD U fin (.bk 2::ks) Lp E S):=by
   intro E S k1 k2 k3 k4 k5 k6 k7;refine IH (i+1) _ _ (by omega) ⟨by omega,fun t ht=>(k1 t ht).trans (hold t ht),k2,fun j h1 h2=>(k5 j (by omega) h2 fun h=>by have:=hvc.lt h;omega).trans (hs j h1 h2),by omega,k7,_,k3,fun d tR=>?_,fun d d' j h1 h2 h3 h4=>?_⟩
   ·unfold Cc;by_cases my:d=c
    ·subst my;rw[if_pos rfl,LQ];exact .inr ⟨s'.next+23,by simp,k4,by omega,k6⟩
    ·rw[if_neg my,hbo d my];exact (SI d tR).keep (by omega) fun j h1 h2 h3=>k5 j h1 (by omega) fun h4=>ad8 d c j my tR hc h3 h4
   ·unfold Cc at h4 ⊢;by_cases my:d=c
    ·have eE:d'≠c:=by omega
     rw[if_pos my,Yl] at h4;rw[if_neg eE];intro h5;have:=(SI d' h3).lt h5;omega
    ·rw[if_neg my] at h4;by_cases eE:d'=c
     ·rw[if_pos eE,Yl];have:=(SI d h2).lt h4;omega
     ·rw[if_neg eE];exact ad8 d d' j h1 h2 h3 h4
  have UP:((OF a.fa x c i).length+1)*8<=1099511627776:=by omega
  have VP:(OF a.fa x c i).length+1<=1099511627776:=by omega
  have tA:(0+1)*8<=1099511627776:=by omega
  have Ib:∀t:Nat,t<6\/7<t/\t<42->(6=t)=False/\(7=t)=False/\∀k:Nat,42<=k->(k=t)=False:=fun t ht=>⟨by simp;omega,by simp;omega,fun k hk=>by simp;omega⟩
  rcases hvc with⟨hv,hL⟩|⟨b,hv,hg,e1,e2⟩
  ·rw[hv] at o1 key;rw[hL] at key;simp only[go_sem,Li,q4,q5,Bg,fT,ay,Z8,hd,Rm,M_,OL,Uc mu,gB',hBx,qX,o1,hxm,hc,V_,ZH,ah1,amk,Nat.reducePow,ald,Nc,hX',hBn,Kl,tA,OE];refine key _ _ (fun t ht=>?_) ?_ ?_ ?_ (fun j h1 h2 h3=>?_) ?_ ?_
   ·obtain⟨n6,n7,n42⟩:=Ib t ht;simp only[go_sem,n6,n7,n42]
   ·simp only[go_sem]
   ·simp only[go_sem]
    try rfl
   ·simp[go_sem,M0,hX']
    try rfl
   ·have e0:∀q,(s'.next+q=j)=False:=fun q=>by simp;omega
    simp only[Z9,Z7,Z',Z6,ZT,e0,eq_false h2.symm,if_false]
   ·simp only[Z',Z_,Z6];omega
   ·repeat first|exact Xx|apply Fr.new|apply Fr.put|apply Fr.upto
    all_goals try simp only[Z',Z_,Z6]
    all_goals omega
  ·rw[hv] at o1 key;have a1:=fun (S:St) (h:S.get b=some (.cells (ZO (OF a.fa x c i)) 3 false 0 0))=>Ai rfl h i
   have z3:(bX=b)=False:=by simp;omega
   have z4:(b=bX)=False:=by simp;omega
   have z5:(b=B)=False:=by simp;omega
   have z6:(B=b)=False:=by simp;omega
   simp only[go_sem,Li,q4,q5,Bg,fT,ay,Z8,hd,Rm,M_,OL,Uc mu,gB',hBx,qX,o1,hxm,hc,hg,a1,ZH,ah1,Nat.reducePow,ald,Nc,hX',hBn,Kl,z4,z5,e2,UP,VP,OE];refine key _ _ (fun t ht=>?_) ?_ ?_ ?_ (fun j h1 h2 h3=>?_) ?_ ?_
   ·obtain⟨n6,n7,n42⟩:=Ib t ht;simp only[go_sem,n6,n7,n42]
   ·simp only[go_sem]
   ·simp only[go_sem]
   ·simp[go_sem,M0,hX']
   ·have e0:∀q,(s'.next+q=j)=False:=fun q=>by simp;omega
    rw[Yl] at h3;simp only[Z9,Z7,Z',Z6,ZT,e0,eq_false h2.symm,eq_false h3,if_false]
   ·simp only[Z',Z_,Z6];omega
   ·repeat first|exact Xx|apply Fr.new|apply Fr.put|apply Fr.upto
    all_goals try simp only[Z',Z_,Z6]
    all_goals omega
 ·have:i=a.next.length:=by omega
  subst this;simp only[go_sem,Li,fT,ay,Z8,alh];refine hk _ _ vs (fun t ht=>?_) qX SI hs Vl Xx;have ZC:∀k:Nat,42<=k->(k=t)=False:=fun k hk=>by simp;omega
  simp only[go_sem,ZC];exact hold t (by omega)
theorem oC {ex:Ex}{a:Nat}{e:Env}{s:St}{n:Nat}(h:Env.get e a=.int .i64 (n:Int))(hn:n<=2^20) :
  YI U ex e (.makeSlice 66 (.tmp a) (.tmp a)) s=some (.sl s.next 0 n (some n) 1,s.new (.cells ((List.range n).map fun _=>.ZW) 40 false 0 0)):=by
 have h40:U.Zd 66=some (.slice 40):=by kernel_rfl
 have hz:zero U 40=some .ZW:=by kernel_rfl
 have hi:(U.inf 40).map (fun i=>(i.bytes,i.size))=some (24,1):=by kernel_rfl
 have e1:((List.range n).map fun _=>AV.ZW)=List.replicate n .ZW:=by simp[List.map_const']
 cases hj:U.inf 40 with
 |none=>rw[hj] at hi;cases hi
 |some j =>
  rw[hj] at hi;simp only[amo,Option.some.injEq,Prod.mk.injEq] at hi;obtain⟨h1,h2⟩:=hi;rw[e1,<-VN];simp only[YI,eval,h,h40,hj,hz];rw[if_pos ⟨by omega,by omega,by rw[h1];omega,by omega,by rw[h2];rfl,by omega⟩,h2];rfl
theorem uO {ex:Ex}{a:Nat}{e:Env}{s:St}{n:Nat}(h:Env.get e a=.int .i64 (n:Int))(hn:n<=2^20) :
  YI U ex e (.makeSlice 283 (.tmp a) (.tmp a)) s=some (.sl s.next 0 n (some n) 1,s.new (.cells ((List.range n).map fun _=>.ZW) 66 false 0 0)):=by
 have h40:U.Zd 283=some (.slice 66):=by kernel_rfl
 have hz:zero U 66=some .ZW:=by kernel_rfl
 have hi:(U.inf 66).map (fun i=>(i.bytes,i.size))=some (24,1):=by kernel_rfl
 have e1:((List.range n).map fun _=>AV.ZW)=List.replicate n .ZW:=by simp[List.map_const']
 cases hj:U.inf 66 with
 |none=>rw[hj] at hi;cases hi
 |some j =>
  rw[hj] at hi;simp only[amo,Option.some.injEq,Prod.mk.injEq] at hi;obtain⟨h1,h2⟩:=hi;rw[e1,<-VN];simp only[YI,eval,h,h40,hj,hz];rw[if_pos ⟨by omega,by omega,by rw[h1];omega,by omega,by rw[h2];rfl,by omega⟩,h2];rfl
structure aX (s:St)(B m n:Nat)(bf:Nat->Nat->List Nat)(x:Nat)(bx:Nat->Nat)(vs:Nat->Nat->AV):Prop where
 g:s.get B=some (.cells ((List.range m).map fun y=>if y<x then .sl (bx y) 0 n (some n) 1 else .ZW) 66 false 0 0)
 row:∀y,y<x->s.get (bx y)=some (.cells ((List.range n).map (vs y)) 40 false 0 0)
 bl:∀y,y<x->∀c,c<n->HS s (B+1) (bf y c) (vs y c)
 hx:∀y,y<x->B<bx y/\bx y<s.next
theorem aX.full {s:St}{B m n:Nat}{bf:Nat->Nat->List Nat}{bx:Nat->Nat}{vs:Nat->Nat->AV}(h:aX s B m n bf m bx vs)(hB:B<s.next):AT s B m n bf B s.next bx vs:=by
 refine⟨?_,h.row,fun x hx c hc=>?_,⟨agB _,hB⟩,fun x hx=>⟨by have:=h.hx x hx;omega,(h.hx x hx).2⟩,fun x hx c hc j hj=>?_,agB _⟩
 ·rw[h.g]
  congr 2
  refine amc fun y hy=>?_
  rw[if_pos (al4.1 hy)]
 ·rcases h.bl x hx c hc with h1|⟨b,h1,h2,h3,h4⟩
  ·exact .inl h1
  ·exact .inr ⟨b,h1,h2,h4⟩
 ·have:=(h.bl x hx c hc).lt hj;omega
theorem afR {β:Type}{fin:Fl->β}{ks:List K}{ZB:β->Prop}{a:Yi}(ha:a.ok){B ab m:Nat}{e:Env}{s:St}(hm:m=2^a.lines.toNat)
  (g1:Env.get e 1=.ptr ab 0)(g4:Env.get e 4=.sl B 0 m (some m) 1)(g28:Env.get e 28=.int .i64 (m:Int))(g29:Env.get e 29=.int .i64 (0:Nat))
  (ga:s.get ab=some (.cells [.int .i64 a.lines,SV a,Vy a] 69 false 0 0))(gB:s.get B=some (.cells ((List.range m).map fun _=>.ZW) 66 false 0 0))(hab:ab<s.next)(ZC:ab≠B)(hB:B<s.next)(fr:Fr s)
  (hk:∀e' s' bx vs,(∀t:Nat,t<5->Env.get e' t=Env.get e t)->aX s' B m a.next.length (M5 a.fa) m bx vs ->
   (∀j,j<s.next->j≠B->s'.get j=s.get j)->s.next<=s'.next->Fr s'->ZB (goN U fin ks e' s')) :
  ZB (SD U fin (.bk 0::ks) Hz e s):=by
 have Si:=ha.few;have Nb:m<=2^16:=by
  have:=Ot a.lines (by have:=ha.lines;omega);have:=Ny a.lines;unfold RA at this;omega
 refine YP (σ:=Nat) (fun x=>m-x) (fun x e' s'=>x<=m/\(∀t:Nat,t<5\/7<t/\t<29->Env.get e' t=Env.get e t)/\Env.get e' 29=.int .i64 (x:Nat)/\(∀j,j<s.next->j≠B->s'.get j=s.get j)/\s.next<=s'.next/\Fr s' /\
   ∃bx vs,aX s' B m a.next.length (M5 a.fa) x bx vs) 0 ?_
  ⟨aic _,fun _ _=>rfl,g29,fun _ _ _=>rfl,agB _,fr,fun _=>0,fun _ _=>.ZW,⟨by rw[gB];simp,fun y hy=>by omega,fun y hy=>by omega,fun y hy=>by omega⟩⟩
 rintro Lp x e' s' ⟨gg,hold,q29,hs,Vl,Xx,bx,vs,X⟩ IH;have q1:=(hold 1 (by omega)).trans g1;have q4:=(hold 4 (by omega)).trans g4;have q28:=(hold 28 (by omega)).trans g28;by_cases hd:x<m
 ·have Rm:=ZN hd (by omega);have ga':=(hs ab hab ZC).trans ga;have hl:=ZI a.TH (a.next.map Zn);rw[agC] at hl;have mk:=fun (ex:Ex) (t:Nat) (e:Env) (S:St) (h:Env.get e t=.int .i64 (a.next.length:Int))=>oC (ex:=ex) (s:=S) h (by omega)
  have OE:=tB (f:=fun y=>if y<x then .sl (bx y) 0 a.next.length (some a.next.length) 1 else .ZW) hd (.sl s'.next 0 a.next.length (some a.next.length) 1);have z1:(s'.next=B)=False:=by simp;omega
  have z2:(B=ab)=False:=by simp;omega
  have z3:(s'.next=ab)=False:=by simp;omega
  have hBn:B<s'.next:=by omega
  have XB:=X.g;unfold SV Vy at ga';simp only[go_sem,Hz,q1,q4,q28,q29,Z8,hd,ga',hl,↓mk,XB,OE,ah1,z1,z2,z3];refine ad7 ha (x:=x) (B:=B) (bX:=s'.next) (m:=m) (Bc:=(List.range m).map (Cc (fun y=>if y<x then .sl (bx y) 0 a.next.length (some a.next.length) 1 else .ZW) x (.sl s'.next 0 a.next.length (some a.next.length) 1))) (by omega) ?_ ?_ ?_ ?_ ?_ hd ?_ ?_ ?_ (by omega) (by simp only[Z',Z_];omega) (by simp only[Z',Z_];omega) ?_ ?_
  case refine_10 =>
   intro e2 s2 vx QF h2X hvx S4 OL O1;simp only[Z',Z_] at S4 OL hvx;have p29:Env.get e2 29=.int .i64 (x:Nat):=by rw[QF 29 (by omega)];simp only[go_sem,q29]
   have old:∀j,j<s'.next->j≠B->s2.get j=s'.get j:=fun j h1 h2=>by
    rw[S4 j (by omega) (by omega),Z9,if_neg h2.symm,Z7,if_neg (by omega)]
   simp only[go_sem,p29,Rm];refine IH (x+1) _ _ (by omega) ⟨by omega,fun t ht=>?_,?_,fun j h1 h2=>by rw[old j (by omega) h2,hs j h1 h2],by omega,O1,fun y=>if y=x then s'.next else bx y,fun y=>if y=x then vx else vs y,⟨?_,fun y hy=>?_,fun y hy c hc=>?_,fun y hy=>?_⟩⟩
   ·have ZC:∀k:Nat,29<=k->(k=t)=False:=fun k hk=>by simp;omega
    have acZ:(5=t)=False:=by simp;omega
    simp only[go_sem,ZC];rw[QF t (by omega)];simp only[go_sem,ZC,acZ];exact hold t ht
   ·simp only[go_sem]
   ·rw[S4 B (by omega) (by omega),Z9,if_pos rfl]
    congr 2
    refine amc fun y hy=>?_
    unfold Cc;by_cases e:y=x
    ·rw[if_pos e,if_pos (by omega),if_pos e]
    ·rw[if_neg e,if_neg e];show (if y<x then _ else _)=_;by_cases e2:y<x
     ·rw[if_pos e2,if_pos (by omega)]
     ·rw[if_neg e2,if_neg (by omega)]
   ·by_cases e:y=x
    ·simp only[e,if_true];exact h2X
    ·simp only[e,if_false];have hb:=X.hx y (by omega);rw[old _ hb.2 (by omega)];exact X.row y (by omega)
   ·by_cases e:y=x
    ·simp only[e,if_true];rcases hvx c hc with h1|⟨b,h1,h2,h3,h4⟩
     ·exact .inl h1
     ·exact .inr ⟨b,h1,h2,by omega,h4⟩
    ·simp only[e,if_false];have hb:=X.bl y (by omega) c hc;exact hb.keep (by omega) fun j h1 h2 h3=>old j h1 (by omega)
   ·by_cases e:y=x
    ·simp only[e,if_true];omega
    ·simp only[e,if_false];have:=X.hx y (by omega);omega
  case refine_9=>exact (Xx.new _).put (by rw[Z_];omega) _
  case refine_8=>rw[Z9,if_neg (by omega),Z7,if_pos rfl]
  case refine_7 =>
   rw[NG _ hd];unfold Cc;rw[if_pos rfl]
  case refine_6=>rw[Z9,if_pos rfl]
  all_goals simp only[go_sem,q4]
  all_goals rfl
 ·have:x=m:=by omega
  subst this;simp only[go_sem,Hz,q28,q29,Z8,alh];refine hk _ _ bx vs (fun t ht=>?_) X hs Vl Xx;have ZC:∀k:Nat,29<=k->(k=t)=False:=fun k hk=>by simp;omega
  simp only[go_sem,ZC];exact hold t (by omega)
theorem afS {β:Type}{fin:Fl->β}{ks:List K}{ZB:β->Prop}{n:Nat}{e:Env}{s:St}(hn:n<=2^20)(g8:Env.get e 8=.ZW)(s7:Env.get e 75=.int .i64 (n:Int))(uh:Env.get e 76=.int .i64 (0:Nat))(fr:Fr s)
  (hk:∀e' s' wv,(∀t:Nat,t<8->Env.get e' t=Env.get e t)->Env.get e' 8=wv->NP s' s.next (List.range n) wv->(∀j,j<s.next->s'.get j=s.get j)->s.next<=s'.next->Fr s'->ZB (goN U fin ks e' s')) :
  ZB (SD U fin (.bk 4::ks) Hy e s):=by
 refine YP (σ:=Nat) (fun i=>n-i) (fun i e' s'=>i<=n/\(∀t:Nat,t<8\/9<t/\t<76->Env.get e' t=Env.get e t)/\Env.get e' 76=.int .i64 (i:Nat)/\(∀j,j<s.next->s'.get j=s.get j)/\s.next<=s'.next/\Fr s' /\
   ∃wv,Env.get e' 8=wv/\NP s' s.next (List.range i) wv) 0 ?_
  ⟨aic _,fun _ _=>rfl,uh,fun _ _=>rfl,agB _,fr,.ZW,g8,.inl ⟨rfl,rfl⟩⟩
 rintro Lp i e' s' ⟨ra,hold,q76,hs,Vl,Xx,wv,q8,hW⟩ IH;have q75:=(hold 75 (by omega)).trans s7;by_cases hd:i<n
 ·have Rm:=ZN hd (by omega);have fS:=hW.Xj;rw[List.length_range] at fS;have tA:(i+1)*8<=1099511627776:=by omega
  have nZ:i+1<=1099511627776:=by omega
  simp only[go_sem,Hy,q8,q75,q76,Z8,hd,ah1,ZH,Nat.reducePow,fS,tA,nZ];have W3:NP (s'.new (.cells [.int .i64 (i:Int)] 3 false 0 0)) s.next (List.range i) wv:=hW.keep (by rw[Z_];omega) fun j h1 _ _=>by rw[Z7,if_neg (by omega)]
  obtain⟨s4,d1,d2,d3,d4,d5⟩:=W3.app (by rw[Z_];omega) i;rw[Z_] at d1 d2 d3 d4;rw[d1];simp only[go_sem,q76,Rm];refine IH (i+1) _ _ (by omega) ⟨by omega,fun t ht=>?_,?_,fun j hj=>?_,by omega,d5 (Xx.new _),_,?_,by rw[List.range_succ];exact d3⟩
  ·have ZC:∀k:Nat,76<=k->(k=t)=False:=fun k hk=>by simp;omega
   have uC:(8=t)=False:=by simp;omega
   have akI:(9=t)=False:=by simp;omega
   simp only[go_sem,ZC,uC,akI];exact hold t ht
  ·simp only[go_sem]
  ·rw[d4 j (by omega) (fun h=>by have:=hW.lt h;omega),Z7,if_neg (by omega)];exact hs j hj
  ·simp only[go_sem]
 ·have:i=n:=by omega
  subst this;simp only[go_sem,Hy,q75,q76,Z8,alh];refine hk _ _ wv (fun t ht=>?_) ?_ hW hs Vl Xx
  ·have ZC:∀k:Nat,76<=k->(k=t)=False:=fun k hk=>by simp;omega
   simp only[go_sem,ZC];exact hold t (by omega)
  ·simp only[go_sem,q8]
noncomputable def Rs (a:Yi):List Nat :=
 (Hh (M5 a.fa) a.fa.m (2*(a.fa.n-(Wi (Zg a) a.fa.n).bg.length)+(Wi (Zg a) a.fa.n).bg.length) (Wi (Zg a) a.fa.n) (List.range (Wi (Zg a) a.fa.n).bg.length)).set
theorem si {a:Yi}(ha:a.ok){u v:Nat}(hu:u<a.fa.n)(hv:v<a.fa.n):Zg a u=Zg a v<->∀x,x<a.fa.m->a.fa.fr u x=a.fa.fr v x:=by
 have A8:u<a.ZD.length:=by rw[ha.fl];exact hu
 have ck:v<a.ZD.length:=by rw[ha.fl];exact hv
 have h1:=ha.XF u A8;have h2:=ha.XF v ck;have e1:∀s x,a.fa.fr s x=(a.ZD.getD s (true,[])).2.getD x false:=fun _ _=>rfl
 unfold Zg;simp only[e1];rw[XK A8,XK ck]
 constructor
 ·intro h x _;rw[FU (by omega) h]
 ·intro h
  congr 1
  refine List.ext_getElem (by omega) fun x q1 q2=>?_
  have:=h x (by show x<2^a.lines.toNat;omega);rw[XK q1,XK q2] at this;exact this
theorem Dg {a:Yi}(ha:a.ok):ft a.fa (Wi (Zg a) a.fa.n) (List.range (Wi (Zg a) a.fa.n).bg.length):=yC fun u v hu hv=>si ha hu hv
theorem Jy {a:Yi}(ha:a.ok):(Rs a).length=a.fa.n:=by
 have h:=CK ha.M9 (fun y _ c _ u=>KG a.fa y c u) _ (Dg ha) (agB _);rw[List.length_range] at h;exact h.wf.ls
theorem jg {a:Yi}(ha:a.ok){u v:Nat}(hu:u<a.fa.n)(hv:v<a.fa.n):gt (Rs a) u=gt (Rs a) v<->YM a.fa u=YM a.fa v :=
 acx ha.M9 (fun u v hu hv=>si ha hu hv) hu hv
theorem ajF {a:Yi}(ha:a.ok):ZE U 172 [Wd a]=some (.fz (ZO (Rs a))):=by
 refine ZR ajg (by kernel_rfl) (by simp[ZU,VJ]) ?_;have Si:=ha.few;have Nb:2^a.lines.toNat<=2^8:=Nat.pow_le_pow_right (by omega) (by have:=ha.lines;omega);have nn:=ZL a.TH (a.next.map Zn);have nf:=ZL a.S6 (a.ZD.map Zv);have cn:=Zu a.TH (a.next.map Zn);have cf:=Zu a.S6 (a.ZD.map Zv);have QC:=Tq U 3 true .i64 (n:=a.lines) (show 0<=a.lines/\a.lines<=16 by have:=ha.lines;omega);have afQ:(2^a.lines.toNat:Int)=((2^a.lines.toNat:Nat):Int):=by simp
 rw[afQ] at QC;have mk:=fun (ex:Ex) (t:Nat) (e:Env) (S:St) (h:Env.get e t=.int .i64 ((2^a.lines.toNat:Nat):Int))=>uO (ex:=ex) (s:=S) h (by omega)
 obtain⟨s1,pb,bl,bp,bs,bb,be,bm,h1,P,l1,l2,l3,l4,l5,l6,l7,gq,mg,QK⟩:=ajj ha (s:=(X8 U).new (.cells [.int .i64 a.lines,SV a,Vy a] 69 false 0 0)) (Fr.own.new _);have P:LI s1 pb a.fa.n bl bp bs bb be bm (Wi (Zg a) a.fa.n):=P;rw[WJ] at h1 ⊢;unfold SV Vy at *;have ho:(X8 U).next=8:=rfl;simp only[Z_,ho] at l1 l2 l3 l4 l5 l6 l7 gq QK;have g8:s1.get 8=some (.cells [.int .i64 a.lines,ZG a.TH (a.next.map Zn),ZG a.S6 (a.ZD.map Zv)] 69 false 0 0):=by
  rw[QK 8 (by omega),Z7,ho,if_pos rfl]
 simp only[go_sem,afu,aey,h1,g8,QC,↓mk];have OG:RA a.lines=((2^a.lines.toNat:Nat):Int):=Ny a.lines;have hH:=Dg ha;have PY:=hH.wf.few;have alp:=P.fZ;refine afR (ZB:=fun r:Option AV=>r=some (AV.fz (ZO (Rs a)))) ha (B:=s1.next) (ab:=8) (m:=2^a.lines.toNat) rfl ?_ ?_ ?_ ?_ ?_ ?_ ?_ ?_ ?_ (mg.new _) ?_
 case refine_10 =>
  intro e2 s2 bx vs QF X S4 rD O1;rw[Z_] at S4 rD;have p3:Env.get e2 3=.ptr pb 0:=by rw[QF 3 (by omega)];simp only[go_sem]
  have p4:Env.get e2 4=.sl s1.next 0 (2^a.lines.toNat) (some (2^a.lines.toNat)) 1:=by rw[QF 4 (by omega)];simp only[go_sem]
  have BI:=X.full (by omega);have P2:=P.mono (s':=s2) (by omega) fun j hj=>by
   have:=P.lt j hj;rw[S4 j (by omega) (by omega),Z7,if_neg (by omega)]
  have fj:∀j,Ou s1.next s2.next j\/Xk pb bl bp bs bb be bm j:=fun j=>by unfold Ou Xk;omega
  simp only[go_sem,p3,P2.g];refine afS (ZB:=fun r:Option AV=>r=some (AV.fz (ZO (Rs a)))) (n:=(Wi (Zg a) a.next.length).bg.length) (by have:(Wi (Zg a) a.next.length).bg.length<=a.next.length:=PY;omega) ?_ ?_ ?_ O1 ?_
  case refine_4 =>
   intro e3 s3 wv Eg h3w W xm fg rC;have p3':Env.get e3 3=.ptr pb 0:=by rw[Eg 3 (by omega)];simp only[go_sem,p3]
   have p4':Env.get e3 4=.sl s1.next 0 (2^a.lines.toNat) (some (2^a.lines.toNat)) 1:=by rw[Eg 4 (by omega)];simp only[go_sem,p4]
   simp only[go_sem];refine afT (ZB:=fun r:Option AV=>r=some (AV.fz (ZO (Rs a)))) (A:=a.fa) ha.M9 (N:=s2.next) (B:=s1.next) (lo:=s1.next) (hi:=s2.next) (bx:=bx) (vs:=vs) (F:=2*(a.fa.n-(Wi (Zg a) a.fa.n).bg.length)+(Wi (Zg a) a.fa.n).bg.length) (wv:=wv) Si Nb (P2.mono fg fun j hj=>xm j (P2.lt j hj)) hH ?_ ?_ p3' p4' h3w W (fun j hj=>?_) fg (BI.keep fg fun j h1 h2=>xm j (by omega)) fj rC ?_
   ·have:a.fa.n<=512:=Si;omega
   ·rw[List.length_range];exact agB _
   ·have:=W.lt hj;unfold Xk Ou;omega
   ·intro e4 s4 cb ce cm q3 P4;have LP:(Hh (M5 a.fa) a.fa.m (2*(a.fa.n-(Wi (Zg a) a.fa.n).bg.length)+(Wi (Zg a) a.fa.n).bg.length) (Wi (Zg a) a.fa.n) (List.range (Wi (Zg a) a.fa.n).bg.length)).set.length=a.fa.n:=Jy ha;have hz:=Nm (d:=38) (cap:=some a.fa.n) LP P4.gs;have P4g:=P4.g;rw[LP] at P4g;simp only[go_sem,q3,P4g];rw[VD] at hz;exact hz
  all_goals simp only[go_sem]
  all_goals rfl
 case refine_9=>rw[Z_];omega
 case refine_8=>omega
 case refine_7=>rw[Z_];omega
 case refine_6=>rw[Z7,if_pos rfl]
 case refine_5=>rw[Z7,if_neg (by omega),g8];rfl
 all_goals simp only[go_sem]
 all_goals rfl
def Qb:List Nat->Nat->List (AV×AV)
 |[],_=>[]
 |k::ks,i=>(.int .i64 (k:Int),.int .i64 (i:Int))::Qb ks (i+1)
theorem kE (a b:Nat):VQ (.int .i64 (a:Int)) (.int .i64 (b:Int))=some (b==a):=by
 simp only[VQ,if_true]
 congr 1
 rw[amj];simp only[beq_iff_eq];omega
theorem F4 (k:Nat):∀(ks:List Nat) (i:Nat),UM (.int .i64 (k:Int)) (Qb ks i)=some (bif decide (Xq ks k<ks.length) then some (.int .i64 ((i+Xq ks k:Nat):Int)) else none)
 |[],i=>rfl
 |x::l,i=>by
  rw[Qb,UM,kE,Xq]
  cases h:x==k with
  |true=>simp
  |false =>
   simp only[cond_false,akd];rw[F4 k l (i+1)];have e:decide (Xq l k+1<l.length+1)=decide (Xq l k<l.length):=by congr 1;apply propext;omega
   rw[e]
   congr 2
   rw[show i+1+Xq l k=i+(Xq l k+1) by omega]
theorem Dl (k:Nat):∀(ks:List Nat) (i:Nat),k∉ks->Ir (.int .i64 (k:Int)) (.int .i64 ((i+ks.length:Nat):Int)) (Qb ks i)=some (Qb (ks++[k]) i)
 |[],i,_=>rfl
 |x::l,i,h=>by
  rw[alL,not_or] at h;have ZC:(x==k)=false:=by simpa using fun e=>h.1 (Eq.symm e)
  have ih:=Dl k l (i+1) h.2;rw[show i+1+l.length=i+(x::l).length by rw[akd];omega] at ih;rw[Qb,Ir,kE,ZC,alU,Qb];simp only[ih]
theorem qd {s:St}{m:Nat}{ks:List Nat}(h:s.get m=some (.map (Qb ks 0) false))(k:Nat):VK U 249 (.map m) (.int .i64 (k:Int)) true s=some (bif decide (Xq ks k<ks.length) then .XU [.int .i64 ((Xq ks k:Nat):Int),.bool true] else .XU [.int .i64 0,.bool false]):=by
 have hu:U.Zd 249=some (.map 3 3):=by kernel_rfl
 have h3:U.Zd 3=some (.int .i64):=by kernel_rfl
 have hz:zero U 3=some (.int .i64 0):=by kernel_rfl
 unfold VK;rw[hu];simp only[Uq,h3,decide_true,if_true,h,F4,ald]
 cases decide (Xq ks k<ks.length) with
 |true=>rfl
 |false=>simp only[cond_false,hz]
theorem Dk {s:St}{m:Nat}{ks:List Nat}(h:s.get m=some (.map (Qb ks 0) false)){k:Nat}(hk:k∉ks):UX U 249 (.map m) (.int .i64 (k:Int)) (.int .i64 ((ks.length:Nat):Int)) s=some (s.put m (.map (Qb (ks++[k]) 0) false)):=by
 have hu:U.Zd 249=some (.map 3 3):=by kernel_rfl
 have h3:U.Zd 3=some (.int .i64):=by kernel_rfl
 have:=Dl k ks 0 hk;rw[ald] at this;unfold UX;rw[hu];simp only[Uq,h3,decide_true,if_true,h,this]
theorem aan (args:List AV)(s:St):X6 U (ZE U 173 args) 173 args s=Rl U 173 args s:=(XI U 173 args s).symm
theorem afm (l:List AV):Wg U .eql 43 true (.fz l) .ZW=some (.bool false):=by
 have h:U.Zd 43=some (.slice 4):=by kernel_rfl
 simp only[Wg,IY,Au,h]
theorem BJ (l:List Bool)(s:St):Wc 1 (.fz (ZM l)) s=some (l.length,ZM l):=by
 have h1:(ZM l).all (fun x=>x.cells.length==1)=true:=by
  induction l with
  |nil=>rfl
  |cons t ts ih=>rw[ZM,alT,List.all_cons];exact ih
 have h2:(ZM l).flatMap AV.cells=ZM l:=by
  clear h1
  induction l with
  |nil=>rfl
  |cons t ts ih=>rw[ZM,alT,al7];show AV.cells (.bool t)++(ZM ts).flatMap AV.cells=_;rw[ih];rfl
 simp only[Wc,h1,h2,WX];rfl
theorem ai3 (l:List Bool)(h0:l≠[])(hl:l.length<=2^20)(s:St):Rl U 173 [.fz (ZM l)] s=some (.sl (s.next+1) 0 l.length none 1,(s.new (.cells [] 4 false 0 0)).new (.cells (ZM l) 4 false 0 0)):=by
 refine VE ai4 (by kernel_rfl) ?_;have Aq:0<l.length:=List.length_pos_iff.2 h0;have hap:∀S:St,S.get s.next=some (.cells [] 4 false 0 0)->B7 4 1 1 (.sl s.next 0 0 (some 0) 1) (some (l.length,ZM l)) S=some (.sl S.next 0 (0+l.length) none 1,S.new (.cells ([]++ZM l) 4 false 0 0)):=fun S h=>by
  rw[ZH (by rw[WX,ah1]) (by simp only[Np];omega) (by simp only[Np];omega) (by omega),T1 h rfl (by omega)]
 simp only[go_sem,afn,afm,BJ,hap,ald]
theorem vw {a:Yi}(ha:a.ok){s:Nat}(hs:s<a.ZD.length):a.ZD[s].2=XF a.fa s:=by
 have h1:=ha.XF s hs;refine List.ext_getElem (by rw[h1,S9];rfl) fun x q1 q2=>?_
 rw[BH a.fa s (by show x<2^a.lines.toNat;omega)];show _=(a.ZD.getD s (true,[])).2.getD x false;rw[XK hs,XK q1]
theorem ai5 {s:St}{b n:Nat}{cap:Option Nat}{L:List Nat}(hc:cap=none\/cap=some n)(hL:L.length=n)(hg:s.get b=some (.cells (ZO L) 3 false 0 0))(hb:b<s.next)(k:Nat) :
  ∃s1,Rx 3 1 1 [.int .i64 (k:Int)] (.sl b 0 n cap 1) s=some (.sl s.next 0 (n+1) none 1,s1)/\s1.next=s.next+1/\s1.get s.next=some (.cells (ZO (L++[k])) 3 false 0 0)/\(∀j,j<s.next->j≠b->s1.get j=s.get j)/\(Fr s->Fr s1):=by
 rcases hc with rfl|rfl
 ·refine⟨_,Ai hL hg k,rfl,?_,fun j h1 h2=>?_,fun hf=>(hf.put hb _).new _⟩
  ·rw[Z7,Z',if_pos rfl]
  ·rw[Z7,Z',if_neg (by omega),Z9,if_neg h2.symm]
 ·refine⟨s.new (.cells (ZO (L++[k])) 3 false 0 0),?_,rfl,?_,fun j h1 h2=>?_,fun hf=>hf.new _⟩
  ·rw[T1 hg (by rw[Ww,hL,ah1]) (by omega),Qa]
  ·rw[Z7,if_pos rfl]
  ·rw[Z7,if_neg (by omega)]
theorem HS.Xj {s:St}{N:Nat}{L:List Nat}{v:AV}(h:HS s N L v):Go.Am.Xj v=L.length:=by
 rcases h with⟨rfl,rfl⟩|⟨b,rfl,h2,h3,h4⟩ <;> rfl
theorem HS.app {s:St}{N:Nat}{L:List Nat}{v:AV}(h:HS s N L v)(hN:N<=s.next)(k:Nat) :
  ∃s1,Rx 3 1 1 [.int .i64 (k:Int)] v s=some (.sl s.next 0 (L.length+1) none 1,s1)/\s1.next=s.next+1/\HS s1 N (L++[k]) (.sl s.next 0 (L.length+1) none 1)/\(∀j,j<s.next->¬Xb v j->s1.get j=s.get j)/\(Fr s->Fr s1):=by
 rcases h with⟨rfl,rfl⟩|⟨b,rfl,h2,h3,h4⟩
 ·refine⟨_,V_ _ _ _ _ _,rfl,.inr ⟨s.next,rfl,?_,hN,by rw[Z_];omega⟩,fun j hj _=>by rw[Z7,if_neg (by omega)],fun hf=>hf.new _⟩;rw[Z7,if_pos rfl];rfl
 ·refine⟨_,Ai rfl h2 k,rfl,.inr ⟨s.next,by simp,?_,hN,by rw[Z_,Z'];omega⟩,fun j hj hb=>?_,fun hf=>(hf.put h4 _).new _⟩
  ·rw[Z7,Z',if_pos rfl]
  ·rw[Yl] at hb;rw[Z7,Z',if_neg (by omega),Z9,if_neg hb]
noncomputable def XZ (a:Yi)(u:Nat):Nat:=gt (Rs a) u
theorem KL (A:Fa)(q:Nat):(XM A q).length=A.m:=by simp[XM]
theorem aT (A:Fa)(q:Nat){x:Nat}(h:x<A.m):(XM A q)[x]'(by rw[KL];exact h)=A.nx q x:=by simp[XM]
theorem agr {β:Type}{fin:Fl->β}{ks:List K}{ZB:β->Prop}{a:Yi}(ha:a.ok){L:List Nat}{q b m:Nat}{cap:Option Nat}(hq:q<a.next.length)(TN:cap=none\/cap=some L.length)(Ee:∀z∈L,z<a.next.length)(EG:(L.map (XZ a)).Nodup)(hbm:b≠m)
  {e:Env}{s:St}(g3:Env.get e 3=.fz (ZO (Rs a)))(g4:Env.get e 4=.map m)(g5:Env.get e 5=.sl b 0 L.length cap 1)(g8:Env.get e 8=.ZW)(g37:Env.get e 37=ZG a.next[q].1 (ints a.next[q].2))(g38:Env.get e 38=.int .i64 ((2^a.lines.toNat:Nat):Int))(g39:Env.get e 39=.int .i64 (0:Nat))
  (gm:s.get m=some (.map (Qb (L.map (XZ a)) 0) false))(gb:s.get b=some (.cells (ZO L) 3 false 0 0))(nb:b<s.next)(nm:m<s.next)(fr:Fr s)
  (hk:∀e' s' b' Ru rv,(∀t:Nat,t<10->t≠5->t≠8->Env.get e' t=Env.get e t)->Env.get e' 5=.sl b' 0 (Zs (XZ a) (XM a.fa q) L).1.length Ru 1->(Ru=none\/Ru=some (Zs (XZ a) (XM a.fa q) L).1.length)->(b'=b\/s.next<=b')->b'<s'.next ->
   s'.get b'=some (.cells (ZO (Zs (XZ a) (XM a.fa q) L).1) 3 false 0 0)->s'.get m=some (.map (Qb ((Zs (XZ a) (XM a.fa q) L).1.map (XZ a)) 0) false)->Env.get e' 8=rv->HS s' s.next (Zs (XZ a) (XM a.fa q) L).2 rv->(∀j,Xb rv j->j≠b') ->
   (∀j,j<s.next->j≠b->j≠m->s'.get j=s.get j)->s.next<=s'.next->Fr s'->ZB (goN U fin ks e' s')) :
  ZB (SD U fin (.bk 2::ks) KR e s):=by
 have Si:=ha.few;have hA:=ha.M9;have Nb:=ha.m16;have eD:(XM a.fa q).length=2^a.lines.toNat:=KL a.fa q;obtain⟨_,_,_,NA,_⟩:=TF (κ:=XZ a) (XM a.fa q) L EG;have NA:(Zs (XZ a) (XM a.fa q) L).2.length=2^a.lines.toNat:=by rw[NA,eD]
 generalize BW:(Zs (XZ a) (XM a.fa q) L).2=kf at *;generalize Jd:(Zs (XZ a) (XM a.fa q) L).1=Lf at *;refine YP (σ:=Nat) (fun x=>2^a.lines.toNat-x) (fun x e' s'=>x<=2^a.lines.toNat/\(∀t:Nat,t<10\/12<t/\t<39->t≠5->t≠8->Env.get e' t=Env.get e t)/\Env.get e' 39=.int .i64 (x:Nat) /\
   (∀j,j<s.next->j≠b->j≠m->s'.get j=s.get j)/\s.next<=s'.next/\Fr s' /\
   ∃L' b' Ru rv,Zs (XZ a) ((XM a.fa q).drop x) L'=(Lf,kf.drop x)/\(∀z∈L',z<a.next.length)/\(L'.map (XZ a)).Nodup /\
    Env.get e' 5=.sl b' 0 L'.length Ru 1/\(Ru=none\/Ru=some L'.length)/\(b'=b\/s.next<=b')/\b'<s'.next/\s'.get b'=some (.cells (ZO L') 3 false 0 0)/\s'.get m=some (.map (Qb (L'.map (XZ a)) 0) false) /\
    Env.get e' 8=rv/\HS s' s.next (kf.take x) rv/\(∀j,Xb rv j->j≠b')) 0 ?_
  ⟨aic _,fun _ _ _ _=>rfl,g39,fun _ _ _ _=>rfl,agB _,fr,
   L,b,cap,.ZW,by rw[amd,amd,<-Jd,<-BW],Ee,EG,g5,TN,.inl rfl,nb,gb,gm,g8,.inl ⟨rfl,rfl⟩,fun j hj=>absurd hj (V' j)⟩
 rintro Lp x e' s' ⟨hx,hold,vi,hs,Vl,Xx,L',b',Ru,rv,UO,vt,zd,q5,F3,TQ,nb',qb,qm,q8,hR,hRf⟩ IH;have q3:=(hold 3 (by omega) (by omega) (by omega)).trans g3;have q4:=(hold 4 (by omega) (by omega) (by omega)).trans g4;have tg:=(hold 37 (by omega) (by omega) (by omega)).trans g37;have pX:=(hold 38 (by omega) (by omega) (by omega)).trans g38;have ai9:L'.length<=a.next.length:=Vn zd vt;by_cases hd:x<2^a.lines.toNat
 ·have hw:=ZN hd (by omega);have hxm:x<(XM a.fa q).length:=by omega
  have sT:a.fa.nx q x<a.next.length:=hA.lt q x hq hd;have n1:=ha.mz hq hd;have o1:=Nn (l:=Rs a) (i:=a.fa.nx q x) (by rw[Jy ha];exact sT);have hTx:(XM a.fa q)[x]=a.fa.nx q x:=aT a.fa q hd;have hxk:x<kf.length:=by omega
  rw[abc hxm,hTx,abc hxk,Zs] at UO;have o1:Ud 1 (.fz (ZO (Rs a))) (.int .i64 ((a.fa.nx q x:Nat):Int))=some (.fp [.int .i64 ((XZ a (a.fa.nx q x):Nat):Int)] 0):=o1;generalize hc:a.fa.nx q x=c at *;have lk:=fun (S:St) (h:S.get m=some (.map (Qb (L'.map (XZ a)) 0) false))=>qd h (XZ a c)
  have JS:kf.take (x+1)=kf.take x++[kf[x]]:=by rw[alX hxk]
  have hRl:(kf.take x).length=x:=by rw[amr];omega
  have fS:=hR.Xj;rw[hRl] at fS;have UP:(x+1)*8<=1099511627776:=by omega
  have VP:x+1<=1099511627776:=by omega
  have Ba:(L'.length+1)*8<=1099511627776:=by omega
  have hb4:L'.length+1<=1099511627776:=by omega
  have qZ:(L'.map (XZ a)).length=L'.length:=by simp
  have Ib:∀t:Nat,t<10\/12<t/\t<39->t≠5->t≠8->(5=t)=False/\(8=t)=False/\(10=t)=False/\(11=t)=False/\(12=t)=False/\∀k:Nat,39<=k->(k=t)=False:=fun t h1 h2 h3=>⟨by simp;omega,by simp;omega,by simp;omega,by simp;omega,by simp;omega,fun k hk=>by simp;omega⟩
  by_cases Ue:Xq (L'.map (XZ a)) (XZ a c)<L'.length
  ·rw[decide_eq_true Ue] at UO;simp only[cond_true] at UO;have UF:Zs (XZ a) ((XM a.fa q).drop (x+1)) L'=(Lf,kf.drop (x+1)):=by
    have h1:=congrArg Prod.fst UO;have h2:=congrArg Prod.snd UO;simp only[List.cons.injEq] at h1 h2;exact Prod.ext h1 h2.2
   have dK:kf[x]=Xq (L'.map (XZ a)) (XZ a c):=by
    have h2:=congrArg Prod.snd UO;simp only[List.cons.injEq] at h2;exact h2.1.symm
   rw[qZ,decide_eq_true Ue] at lk;simp only[cond_true] at lk;rw[<-dK] at lk;simp only[go_sem,KR,q3,q4,q8,tg,pX,vi,qm,Z8,hd,n1,o1,lk,ah1,ZH,Nat.reducePow,fS,UP,VP];have R3:HS (s'.new (.cells [.int .i64 ((kf[x]:Nat):Int)] 3 false 0 0)) s.next (kf.take x) rv:=hR.keep (by rw[Z_];omega) fun j h1 _ _=>by rw[Z7,if_neg (by omega)]
   obtain⟨s4,d1,d2,d3,d4,d5⟩:=R3.app (by rw[Z_];omega) kf[x];rw[Z_] at d1 d2 d3 d4;rw[hRl] at d1 d3;rw[d1];simp only[go_sem,vi,hw];have k4:∀j,j<s'.next->¬Xb rv j->s4.get j=s'.get j:=fun j h1 h2=>by rw[d4 j (by omega) h2,Z7,if_neg (by omega)]
   have hrv:∀j,j<s.next->¬Xb rv j:=fun j hj h=>by have:=hR.lt h;omega
   refine IH (x+1) _ _ (by omega) ⟨by omega,fun t h1 h2 h3=>?_,?_,fun j h1 h2 h3=>by rw[k4 j (by omega) (hrv j h1),hs j h1 h2 h3],by omega,d5 (Xx.new _),L',b',Ru,.sl (s'.next+1) 0 (x+1) none 1,UF,vt,zd,?_,F3,TQ,by omega,(k4 b' nb' fun h=>hRf b' h rfl).trans qb,(k4 m (by omega) (hrv m nm)).trans qm,?_,by rw[JS];exact d3,fun j hj=>?_⟩
   ·obtain⟨n5,n8,fP,wR,xE,n39⟩:=Ib t h1 h2 h3;simp only[go_sem,n8,fP,wR,xE,n39];exact hold t h1 h2 h3
   ·simp only[go_sem]
   ·simp only[go_sem,q5]
   ·simp only[go_sem]
   ·rw[Yl] at hj;omega
  ·have ahf:XZ a c∉L'.map (XZ a):=by rw[<-HT,qZ];exact Ue
   rw[decide_eq_false Ue] at UO;simp only[cond_false] at UO;have UF:Zs (XZ a) ((XM a.fa q).drop (x+1)) (L'++[c])=(Lf,kf.drop (x+1)):=by
    have h1:=congrArg Prod.fst UO;have h2:=congrArg Prod.snd UO;simp only[List.cons.injEq] at h1 h2;exact Prod.ext h1 h2.2
   have dK:kf[x]=L'.length:=by
    have h2:=congrArg Prod.snd UO;simp only[List.cons.injEq] at h2;exact h2.1.symm
   rw[qZ,decide_eq_false Ue] at lk;simp only[cond_false] at lk;have up:=fun (S:St) (h:S.get m=some (.map (Qb (L'.map (XZ a)) 0) false))=>Dk h ahf
   rw[qZ] at up;have alG:∀c:Option Nat,Go.Am.Xj (.sl b' 0 L'.length c 1)=L'.length:=fun _=>rfl
   simp only[go_sem,KR,q3,q4,q5,tg,pX,vi,qm,Z8,hd,n1,o1,lk,up,ah1,ZH,Nat.reducePow,Ba,hb4];obtain⟨s4,d1,d2,d3,d4,d5⟩:=ai5 (b:=b') (L:=L') (s:=(s'.put m (.map (Qb (L'.map (XZ a)++[XZ a c]) 0) false)).new (.cells [.int .i64 (c:Int)] 3 false 0 0)) F3 rfl (by rw[Z7,Z',if_neg (by omega),Z9,if_neg (by omega)];exact qb) (by rw[Z_,Z'];omega) c;simp only[Z_,Z'] at d1 d2 d3 d4;rw[d1];simp only[go_sem,q8,ah1,ZH,Nat.reducePow,fS,UP,VP];have k4:∀j,j<s'.next->j≠b'->j≠m->s4.get j=s'.get j:=fun j h1 h2 h3=>by rw[d4 j (by omega) h2,Z7,Z',if_neg (by omega),Z9,if_neg h3.symm]
   have k4m:s4.get m=some (.map (Qb (L'.map (XZ a)++[XZ a c]) 0) false):=by rw[d4 m (by omega) (by omega),Z7,Z',if_neg (by omega),Z9,if_pos rfl]
   have hrv:∀j,j<s.next->¬Xb rv j:=fun j hj h=>by have:=hR.lt h;omega
   have R3:HS (s4.new (.cells [.int .i64 (L'.length:Int)] 3 false 0 0)) s.next (kf.take x) rv:=hR.keep (by rw[Z_];omega) fun j h1 h2 h3=>by
    rw[Z7,if_neg (by omega)];exact k4 j h1 (hRf j h3) (by omega)
   obtain⟨s6,b1,b2,b3,b4,b5⟩:=R3.app (by rw[Z_];omega) L'.length;rw[Z_] at b1 b2 b3 b4;rw[hRl] at b1 b3;rw[b1];simp only[go_sem,vi,hw];have k6:∀j,j<s4.next->¬Xb rv j->s6.get j=s4.get j:=fun j h1 h2=>by rw[b4 j (by omega) h2,Z7,if_neg (by omega)]
   refine IH (x+1) _ _ (by omega) ⟨by omega,fun t h1 h2 h3=>?_,?_,fun j h1 h2 h3=>by rw[k6 j (by omega) (hrv j h1),k4 j (by omega) (by omega) h3,hs j h1 h2 h3],by omega,b5 ((d5 ((Xx.put (by omega) _).new _)).new _),L'++[c],s'.next+1,none,.sl (s4.next+1) 0 (x+1) none 1,UF,fun z hz=>?_,?_,?_,.inl rfl,.inr (by omega),by omega,(k6 _ (by omega) fun h=>by have:=hR.lt h;omega).trans d3,?_,?_,by rw[JS,dK];exact b3,fun j hj=>?_⟩
   ·obtain⟨n5,n8,fP,wR,xE,n39⟩:=Ib t h1 h2 h3;simp only[go_sem,n5,n8,fP,wR,xE,n39];exact hold t h1 h2 h3
   ·simp only[go_sem]
   ·rcases amb.1 hz with h|h
    ·exact vt z h
    ·rw[ake.1 h];exact sT
   ·rw[alY,List.nodup_append];refine⟨zd,by simp,fun y hy z hz=>?_⟩;rw[alT,List.map_nil,ake] at hz;rintro rfl;rw[hz] at hy;exact ahf hy
   ·simp only[go_sem,agy,alW]
   ·rw[k6 m (by omega) (hrv m nm),k4m,alY,alT,List.map_nil]
   ·simp only[go_sem]
   ·rw[Yl] at hj;omega
 ·have hxe:x=2^a.lines.toNat:=by omega
  subst hxe;rw[List.drop_of_length_le (by omega),List.drop_of_length_le (by omega),Zs] at UO;obtain rfl:L'=Lf:=congrArg Prod.fst UO;rw[List.take_of_length_le (by omega)] at hR;simp only[go_sem,KR,pX,vi,Z8,alh];refine hk _ _ b' Ru rv (fun t h1 h2 h3=>?_) ?_ F3 TQ nb' qb qm ?_ hR hRf hs Vl Xx
  ·have ZC:∀k:Nat,39<=k->(k=t)=False:=fun k hk=>by simp;omega
   simp only[go_sem,ZC];exact hold t (.inl h1) h2 h3
  ·simp only[go_sem,q5]
  ·simp only[go_sem,q8]
theorem tP {s:St}{b n:Nat}{t:TypeId}{cs:List AV}(hL:cs.length=n)(hg:s.get b=some (.cells cs t false 0 0))(x:AV)(hx:Zz x=true) :
  Rx t 1 1 [x] (.sl b 0 n none 1) s=some (.sl s.next 0 (n+1) none 1,(s.put b .gone).new (.cells (cs++[x]) t false 0 0)):=by
 rw[TR,hg,VA (by omega) (by omega) (by simp[hx])]
theorem Ya {s:St}{j k:Nat}{c c':List AV}{t t':TypeId}(h:s.get j=some (.cells c t false 0 0))(h':s.get k=some (.cells c' t' false 0 0))(ht:t≠t'):j≠k:=by
 rintro rfl;have:=h.symm.trans h'
 injection this with this
 injection this with _ e
 exact ht e
theorem afy {β:Type}{fin:Fl->β}{ks:List K}{ZB:β->Prop}{a:Yi}(ha:a.ok){L:List Nat}{q b i ob jr:Nat}{cap:Option Nat}{cN cF:List AV}{v w:AV}(hq:q<a.next.length)(hi:i<L.length)(dL:gt L i=q)(hi9:i<=2^20)
  {e:Env}{s:St}(g1:Env.get e 1=.ptr 8 0)(g5:Env.get e 5=.sl b 0 L.length cap 1)(g6:Env.get e 6=.ptr ob 0)(g7:Env.get e 7=.int .i64 (i:Int))(g8:Env.get e 8=.sl jr 0 (2^a.lines.toNat) none 1)
  (gs:s.get 8=some (.cells [.int .i64 a.lines,SV a,Vy a] 69 false 0 0))(QD:s.get ob=some (.cells [.int .i64 a.lines,v,w] 69 false 0 0))(gb:s.get b=some (.cells (ZO L) 3 false 0 0))(h8:8<s.next)(Bk:ob<s.next)(hb:b<s.next)(h8o:8≠ob)(h13:13<=s.next)
  (hv:ZK s 13 40 1 i cN v)(hw:ZK s 13 43 1 i cF w)(fr:Fr s)
  (hk:∀e' s' v' w' jc,(∀t:Nat,t<10->Env.get e' t=Env.get e t)->s'.get ob=some (.cells [.int .i64 a.lines,v',w'] 69 false 0 0)->ZK s' 13 40 1 (i+1) (cN++[.sl jr 0 (2^a.lines.toNat) none 1]) v'->ZK s' 13 43 1 (i+1) (cF++[.sl jc 0 (2^a.lines.toNat) none 1]) w' ->
   s'.get jc=some (.cells (ZM (XF a.fa q)) 4 false 0 0)->s.next<=jc->jc<s'.next->(∀j,j<s.next->j≠ob->¬Xb v j->¬Xb w j->s'.get j=s.get j)->s.next<=s'.next->Fr s'->ZB (goN U fin ks e' s')) :
  ZB (go U fin ks (.raw vr) e s):=by
 have Si:=ha.few;rw[Uc abT];have Nc:=fr.at;have Ib:∀t:Nat,t<10->(∀k:Nat,71<=k->(k=t)=False):=fun t ht=>fun k hk=>by simp;omega
 have M0:∀j q,j<s.next->(j=s.next+q)=False:=fun j q hj=>by simp;omega
 have Kl:∀j q,j<s.next->(s.next+q=j)=False:=fun j q hj=>by simp;omega
 have xh:∀q,q≠0->(s.next+q=s.next)=False:=fun q hq=>by simp;omega
 have xg:∀q,q≠0->(s.next=s.next+q)=False:=fun q hq=>by simp;omega
 have hq':q<a.ZD.length:=by rw[ha.fl];exact hq
 have MB:(XF a.fa q).length=2^a.lines.toNat:=S9 a.fa q;have Nb:=ha.m16;have hmp:0<2^a.lines.toNat:=Nat.two_pow_pos _;have r2:=Se (nl:=a.S6) hq';have M_:=vw ha hq';have ZC:XF a.fa q≠[]:=fun e=>by rw[e,List.length_nil] at MB;omega
 have ajm:ZG a.ZD[q].1 (ZM a.ZD[q].2)=.fz (ZM (XF a.fa q)):=by
  rw[M_]
  cases hh:ZM (XF a.fa q) with
  |nil=>have:=congrArg List.length hh;rw[WX,MB,List.length_nil] at this;omega
  |cons x l=>cases a.ZD[q].1 <;> rfl
 rw[ajm] at r2;have tQ:=ai3 (XF a.fa q) ZC (by omega);rw[MB] at tQ;have o1:=Yq (l:=L) (i:=i) hi;rw[dL] at o1;unfold SV Vy at gs;have x1:(ob=8)=False:=eq_false (fun e=>h8o e.symm);have x2:(8=ob)=False:=eq_false h8o;have UP:(i+1)*24<=1099511627776:=by omega
 have VP:i+1<=1099511627776:=by omega
 have afz:b≠ob:=Ya gb QD (by decide);have hb8:b≠8:=Ya gb gs (by decide);have x3:(b=ob)=False:=eq_false afz;have x4:(ob=b)=False:=eq_false afz.symm;have key:∀(E:Env) (S:St),(∀t:Nat,t<10->Env.get E t=Env.get e t) ->
   S.get ob=some (.cells [.int .i64 a.lines,.sl (s.next+22) 0 (i+1) none 1,.sl (s.next+25) 0 (i+1) none 1] 69 false 0 0) ->
   S.get (s.next+22)=some (.cells (cN++[.sl jr 0 (2^a.lines.toNat) none 1]) 40 false 0 0)->S.get (s.next+25)=some (.cells (cF++[.sl (s.next+24) 0 (2^a.lines.toNat) none 1]) 43 false 0 0)->S.get (s.next+24)=some (.cells (ZM (XF a.fa q)) 4 false 0 0) ->
   (∀j,j<s.next->j≠ob->¬Xb v j->¬Xb w j->S.get j=s.get j)->s.next+25<S.next->Fr S->cN.length=i->cF.length=i->ZB (goN U fin ks E S):=by
  intro E S k1 k2 k3 k4 k5 k6 k7 k8 k9 nj;exact hk E S (.sl (s.next+22) 0 (i+1) none 1) (.sl (s.next+25) 0 (i+1) none 1) (s.next+24) k1 k2 (.inr ⟨by omega,by simp[k9],s.next+22,by omega,by omega,rfl,k3⟩) (.inr ⟨by omega,by simp[nj],s.next+25,by omega,by omega,rfl,k4⟩) k5 (by omega) (by omega) k6 (by omega) k8
 rcases hv with⟨i0,rfl,rfl⟩|⟨i0,Cz,bv,v1,v2,rfl,v4⟩
 ·rcases hw with⟨_,rfl,rfl⟩|⟨i1,_⟩
  ·subst i0;simp only[go_sem,g1,g5,g6,g7,g8,gs,QD,gb,hi,o1,r2,aan,tQ,V_,ZH,ah1,amk,Nat.reducePow,ald,akc,Nc,h8,Bk,hb,Kl,xh,xg,UP,VP];refine key _ _ (fun t ht=>?_) ?_ ?_ ?_ ?_ (fun j h1 h2 _ _=>?_) ?_ ?_ rfl rfl
   ·have ZC:=Ib t ht;simp only[go_sem,ZC]
   ·simp only[go_sem]
   ·simp[go_sem,M0,Bk,akc]
   ·simp[go_sem,M0,Bk,akc]
   ·simp[go_sem,M0,Bk,akc]
   ·have e0:∀q,(s.next+q=j)=False:=fun q=>by simp;omega
    simp only[Z9,Z7,Z',Z_,Z6,ZT,akc,Nat.reduceAdd,e0,eq_false h2.symm,if_false]
   ·simp only[Z',Z_,Z6];omega
   ·repeat first|exact fr|apply Fr.new|apply Fr.put|apply Fr.upto
    all_goals try simp only[Z',Z_,Z6]
    all_goals omega
  ·omega
 ·rcases hw with⟨i1,_⟩|⟨_,Cy,bw,w1,w2,rfl,w4⟩
  ·omega
  ·rw[ah1] at Cz Cy;have n1:=Ya v4 w4 (by decide);have n2:=Ya v4 QD (by decide);have n3:=Ya w4 QD (by decide);have n4:=Ya v4 gb (by decide);have n5:=Ya w4 gb (by decide);have n6:=Ya v4 gs (by decide);have n7:=Ya w4 gs (by decide);have y1:(bv=bw)=False:=eq_false n1;have y2:(bv=ob)=False:=eq_false n2;have y3:(bw=ob)=False:=eq_false n3;have y4:(bv=b)=False:=eq_false n4;have y5:(bw=b)=False:=eq_false n5;have y6:(bv=8)=False:=eq_false n6;have y7:(bw=8)=False:=eq_false n7;have y8:(ob=bv)=False:=eq_false n2.symm;have y9:(ob=bw)=False:=eq_false n3.symm;have y10:(bw=bv)=False:=eq_false n1.symm;have a1:=fun (S:St) (h:S.get bv=some (.cells cN 40 false 0 0))=>tP Cz h (.sl jr 0 (2^a.lines.toNat) none 1) rfl
   have a2:=fun (S:St) (h:S.get bw=some (.cells cF 43 false 0 0))=>tP Cy h (.sl (s.next+24) 0 (2^a.lines.toNat) none 1) rfl
   simp only[go_sem,g1,g5,g6,g7,g8,gs,QD,gb,hi,o1,r2,aan,tQ,ZH,ah1,Nat.reducePow,ald,akc,Nc,h8,Bk,hb,M0,Kl,xh,xg,UP,VP,v2,v4,w2,w4,y1,y2,y3,y4,y6,a1,a2];refine key _ _ (fun t ht=>?_) ?_ ?_ ?_ ?_ (fun j h1 h2 h3 h4=>?_) ?_ ?_ Cz Cy
   ·have ZC:=Ib t ht;simp only[go_sem,ZC]
   ·simp only[go_sem]
   ·simp[go_sem,M0,Bk,w2,akc]
   ·simp[go_sem,M0,Bk,akc]
   ·simp[go_sem,M0,Bk,w2,akc]
   ·have e0:∀q,(s.next+q=j)=False:=fun q=>by simp;omega
    rw[Yl] at h3 h4;simp only[Z9,Z7,Z',Z_,Z6,ZT,akc,Nat.reduceAdd,e0,eq_false h2.symm,eq_false h3,eq_false h4,if_false]
   ·simp only[Z',Z_,Z6];omega
   ·repeat first|exact fr|apply Fr.new|apply Fr.put|apply Fr.upto
    all_goals try simp only[Z',Z_,Z6]
    all_goals omega
def UQ (s:St)(b:Nat)(t:TypeId)(c:AV)(l:List AV):Prop:=∃j cap,c=.sl j 0 l.length cap 1/\j<s.next/\j≠b/\13<=j/\s.get j=some (.cells l t false 0 0)
theorem UQ.mono {s s':St}{b b':Nat}{t:TypeId}{c:AV}{l:List AV}(h:UQ s b t c l)(hn:s.next<=s'.next)(hg:∀j,j<s.next->j≠b->13<=j->s.get j=some (.cells l t false 0 0)->j≠b'/\s'.get j=some (.cells l t false 0 0)):UQ s' b' t c l:=by
 obtain⟨j,cap,h1,h2,h3,h4,h5⟩:=h;obtain⟨h6,h7⟩:=hg j h2 h3 h4 h5;exact⟨j,cap,h1,by omega,h6,h4,h7⟩
theorem UQ.Yn {s:St}{b d:Nat}{c:AV}{l:List AV}{t:TypeId}(h:UQ s b t c l)(Et:YC U t=some false)(VY:size U t=some 1)(Re:l.all Zz=true)(hf:Y' (Go.Am.Yn U s d) l=some l):Go.Am.Yn U s (d+1) c=some (.fz l):=by
 obtain⟨j,cap,rfl,_,_,_,h5⟩:=h;rw[VD,h5,Wo,ah1,Ws,Et,VY,TX,if_pos Re,VC,hf,Tb]
theorem ZK.LD {s:St}{B:Nat}{t:TypeId}{i:Nat}{cs:List AV}{v:AV}(h:ZK s B t 1 i cs v){j:Nat}(hj:Xb v j):B<=j/\j<s.next/\s.get j=some (.cells cs t false 0 0):=by
 rcases h with⟨_,rfl,_⟩|⟨_,_,b,h2,h3,rfl,h5⟩
 ·exact absurd hj (V' j)
 ·rw[Yl] at hj;subst hj;exact⟨h2,h3,h5⟩
structure Ts (s:St)(b:Nat)(a:Yi)(cN cF:List AV)(v w:AV):Prop where
 v:ZK s 13 40 1 cN.length cN v
 w:ZK s 13 43 1 cF.length cF w
 ln:cN.length=(Ml a.fa (XZ a)).length
 lf:cF.length=(Ml a.fa (XZ a)).length
 bn:∀j (h:j<(Ml a.fa (XZ a)).length) (h':j<cN.length),UQ s b 3 cN[j] (ZO (Ml a.fa (XZ a))[j].2)
 bf:∀j (h:j<(Ml a.fa (XZ a)).length) (h':j<cF.length),UQ s b 4 cF[j] (ZM (XF a.fa (Ml a.fa (XZ a))[j].1))
 h9:b≠9
theorem Ts.keep {s S:St}{b:Nat}{a:Yi}{cN cF:List AV}{v w:AV}(h:Ts s b a cN cF v w)(hn:S.next=s.next)(hg:∀j,j≠9->S.get j=s.get j):Ts S b a cN cF v w :=
 ⟨h.v.XS (by omega) fun j c h _ h2=>by rw[hg j (by omega)];exact h,h.w.XS (by omega) fun j c h _ h2=>by rw[hg j (by omega)];exact h,h.ln,h.lf,
  fun j h1 h'=>(h.bn j h1 h').mono (by omega) fun k _ h2 h3 h5=>⟨h2,by rw[hg k (by omega)];exact h5⟩,fun j h1 h'=>(h.bf j h1 h').mono (by omega) fun k _ h2 h3 h5=>⟨h2,by rw[hg k (by omega)];exact h5⟩,h.h9⟩
theorem Ts.na {s:St}{b:Nat}{a:Yi}{cN cF:List AV}{v w:AV}(h:Ts s b a cN cF v w):cN.all Zz=true/\cF.all Zz=true:=by
 have h1:=h.ln;have h2:=h.lf;refine⟨?_,?_⟩
 ·rw[alK];intro x hx;obtain⟨j,hj,rfl⟩:=alP.1 hx;obtain⟨_,_,e,_⟩:=h.bn j (by omega) hj;rw[e];rfl
 ·rw[alK];intro x hx;obtain⟨j,hj,rfl⟩:=alP.1 hx;obtain⟨_,_,e,_⟩:=h.bf j (by omega) hj;rw[e];rfl
theorem Ts.Yn {s:St}{b:Nat}{a:Yi}{cN cF:List AV}{v w:AV}(h:Ts s b a cN cF v w)(d:Nat):Go.Am.Yn U s (d+3) v=some (ZG true ((Ml a.fa (XZ a)).map fun x=>AV.fz (ZO x.2)))/\Go.Am.Yn U s (d+3) w=some (ZG true ((Ml a.fa (XZ a)).map fun x=>AV.fz (ZM (XF a.fa x.1)))) :=
 ⟨h.v.Ub U Ed Ec h.na.1 (d:=d+2) (Va h.ln fun j h1 h'=>(h.bn j h' h1).Yn Ka J' (XR _) (Ua _ _ _)),h.w.Ub U Eb Ea h.na.2 (d:=d+2) (Va h.lf fun j h1 h'=>(h.bf j h' h1).Yn AI AH (U' _) (Sp _ _ _))⟩
theorem agp {a:Yi}(ha:a.ok){e:Env}{s:St}(g1:Env.get e 1=.ptr 8 0)(g2:Env.get e 2=.ptr 9 0)(g3:Env.get e 3=.fz (ZO (Rs a)))(g4:Env.get e 4=.map 10)(g5:Env.get e 5=.sl 11 0 1 (some 1) 1)(g6:Env.get e 6=.ptr 12 0)(g7:Env.get e 7=.int .i64 (0:Nat))
  (gs:s.get 8=some (.cells [.int .i64 a.lines,SV a,Vy a] 69 false 0 0))(g9:s.get 9=some (.cells [.int .i64 0,.ZW,.ZW] 69 false 0 0))(gm:s.get 10=some (.map (Qb [XZ a 0] 0) false))(gb:s.get 11=some (.cells (ZO [0]) 3 false 0 0))(QD:s.get 12=some (.cells [.int .i64 a.lines,.ZW,.ZW] 69 false 0 0))(nx:13<=s.next)(fr:Fr s){β:Type}{fin:Fl->β}{ks:List K}{ZB:β->Prop}
  (hk:∀e' s' v w b cN cF,Env.get e' 6=.ptr 12 0->Env.get e' 2=.ptr 9 0->s'.get 12=some (.cells [.int .i64 a.lines,v,w] 69 false 0 0)->s'.get 9=some (.cells [.int .i64 0,.ZW,.ZW] 69 false 0 0)->Ts s' b a cN cF v w->ZB (goN U fin ks e' s')) :
  ZB (SD U fin (.bk 0::ks) HA e s):=by
 have Si:=ha.few;have hA:=ha.M9;have Nb:=ha.m16;have hmp:0<2^a.lines.toNat:=Nat.two_pow_pos _;refine YP (σ:=Nat) (fun i=>a.next.length-i) (fun i e s=>Env.get e 1=.ptr 8 0/\Env.get e 2=.ptr 9 0/\Env.get e 3=.fz (ZO (Rs a))/\Env.get e 4=.map 10/\Env.get e 6=.ptr 12 0/\Env.get e 7=.int .i64 (i:Nat)/\s.get 8=some (.cells [.int .i64 a.lines,SV a,Vy a] 69 false 0 0)/\s.get 9=some (.cells [.int .i64 0,.ZW,.ZW] 69 false 0 0)/\13<=s.next/\Fr s /\
   ∃(L:List Nat) (b:Nat) (cap:Option Nat) (acc:List (Nat×List Nat)) (cN cF:List AV) (v w:AV),Env.get e 5=.sl b 0 L.length cap 1/\(cap=none\/cap=some L.length)/\s.get b=some (.cells (ZO L) 3 false 0 0)/\b<s.next/\(b=11\/13<=b)/\(∀z∈L,z<a.next.length)/\(L.map (XZ a)).Nodup/\s.get 10=some (.map (Qb (L.map (XZ a)) 0) false) /\
    s.get 12=some (.cells [.int .i64 a.lines,v,w] 69 false 0 0)/\ZK s 13 40 1 i cN v/\ZK s 13 43 1 i cF w/\acc.length=i/\cN.length=i/\cF.length=i /\
    (∀j (h:j<acc.length) (h':j<cN.length),UQ s b 3 cN[j] (ZO acc[j].2))/\(∀j (h:j<acc.length) (h':j<cF.length),UQ s b 4 cF[j] (ZM (XF a.fa acc[j].1))) /\
    i<=L.length/\acc++UE (XZ a) (XM a.fa) (a.next.length+1-i) i L=Ml a.fa (XZ a)) 0 ?_
  ⟨g1,g2,g3,g4,g6,g7,gs,g9,nx,fr,[0],11,some 1,[],[],[],.ZW,.ZW,g5,.inr rfl,gb,by omega,.inl rfl,fun z hz=>by rw[ake.1 hz];exact ha.pos,by simp,gm,QD,ZK.nil _ _ _ _,ZK.nil _ _ _ _,rfl,rfl,rfl,fun j h=>by simp at h,fun j h=>by simp at h,aic _,rfl⟩
 clear g1 g2 g3 g4 g5 g6 g7 gs g9 gb gm QD nx fr e s;rintro Lp i e s ⟨g1,g2,g3,g4,g6,g7,gs,g9,nx,fr,L,b,cap,acc,cN,cF,v,w,g5,TN,gb,nb,hb,Ee,EG,gm,QD,hv,hw,Kc,Cz,Cy,xe,xd,hiL,YA⟩ IH;have agq:L.length<=a.next.length:=Vn EG Ee;by_cases hd:i<L.length
 ·have Rm:=ZN hd (by omega);have hq:L[i]<a.next.length:=Ee _ (adm hd);have dL:L[i]? = some L[i]:=aaa hd;have o1:=Yq (l:=L) (i:=i) hd;rw[VF hd] at o1;rw[show a.next.length+1-i=(a.next.length+1-(i+1))+1 by omega,UE,dL] at YA;simp only at YA;have M_:=Sf (nl:=a.TH) hq;have hlen:=(ha.row _ hq).1;have hl:=ZI a.next[L[i]].1 (ints a.next[L[i]].2);rw[YK,hlen] at hl;generalize hqe:L[i]=q at *;have Mz:=gs;unfold SV Vy at Mz;simp only[go_sem,HA,g1,g5,g7,Mz,gb,o1,Z8,hd,M_,hl,ah1];refine agr (ZB:=ZB) ha (L:=L) (q:=q) (b:=b) (m:=10) (cap:=cap) hq TN Ee EG (by omega) ?_ ?_ ?_ ?_ ?_ ?_ ?_ gm gb (by rw[Z6];omega) (by rw[Z6];omega) (fr.upto (by omega)) ?_
  case refine_8 =>
   intro e2 s2 b2 bN rv QF p5 iG VP nb2 qb2 qm2 p8 hR hRf S4 OL O1;simp only[Z6,ZT] at VP hR S4 OL;obtain⟨nd2,alx,vu,NA,_⟩:=TF (κ:=XZ a) (XM a.fa q) L EG;have NA:(Zs (XZ a) (XM a.fa q) L).2.length=2^a.lines.toNat:=by rw[NA];exact KL a.fa q
   have qx:∀z∈(Zs (XZ a) (XM a.fa q) L).1,z<a.next.length:=by
    have:=(RT (κ:=XZ a) (ρ:=XZ a) (Q:=fun z=>z<a.next.length) (fun _ _ _ _=>Iff.rfl) (XM a.fa q) L (fun y hy=>by
     obtain⟨x,hx,rfl⟩:=alN.1 hy;exact hA.lt q x hq (al4.1 hx)) Ee).2
    exact this
   have uq:=vu i hd;rw[dL] at uq;generalize aly:(Zs (XZ a) (XM a.fa q) L).1=Lf at *;generalize alz:(Zs (XZ a) (XM a.fa q) L).2=kf at *;have acO:i<Lf.length:=by omega
   have fI:gt Lf i=q:=by
    rw[aaa acO] at uq;rw[VF acO];exact Option.some.inj uq
   obtain⟨jr,rfl,hjr,jr1,jr2⟩:∃jr,rv=.sl jr 0 (2^a.lines.toNat) none 1/\s2.get jr=some (.cells (ZO kf) 3 false 0 0)/\s.next+10<=jr/\jr<s2.next:=by
    rcases hR with⟨_,h⟩|⟨j,h1,h2,h3,h4⟩
    ·rw[h,List.length_nil] at NA;omega
    ·exact⟨j,by rw[h1,NA],h2,h3,h4⟩
   have mB:=hRf jr ((Yl _ _ _).2 rfl);have E2:∀t:Nat,t<10->t≠5->t≠8->Env.get e2 t=Env.get e t:=fun t h1 h5 h8=>by
    rw[QF t h1 h5 h8];have ZC:∀k:Nat,10<=k->(k=t)=False:=fun k hk=>by simp;omega
    have uC:(8=t)=False:=by simp;omega
    simp only[go_sem,ZC,uC]
   have p1:=(E2 1 (by omega) (by omega) (by omega)).trans g1;have p2:=(E2 2 (by omega) (by omega) (by omega)).trans g2;have p3:=(E2 3 (by omega) (by omega) (by omega)).trans g3;have p4:=(E2 4 (by omega) (by omega) (by omega)).trans g4;have p6:=(E2 6 (by omega) (by omega) (by omega)).trans g6;have p7:=(E2 7 (by omega) (by omega) (by omega)).trans g7;have u8:=(S4 8 (by omega) (by omega) (by omega)).trans gs;have u9:=(S4 9 (by omega) (by omega) (by omega)).trans g9;have u12:=(S4 12 (by omega) (by omega) (by omega)).trans QD;have Mv:ZK s2 13 40 1 i cN v:=hv.XS (by omega) fun j c h1 h2 h3=>by rw[S4 j (by omega) (Ya h1 gb (by decide)) (by omega)];exact h1
   have Mx:ZK s2 13 43 1 i cF w:=hw.XS (by omega) fun j c h1 h2 h3=>by rw[S4 j (by omega) (Ya h1 gb (by decide)) (by omega)];exact h1
   have acP:∀j (h:j<acc.length) (h':j<cN.length),UQ s2 b2 3 cN[j] (ZO acc[j].2):=fun j h h'=>(xe j h h').mono (by omega) fun k h1 h2 h3 h4=>⟨by omega,by rw[S4 k (by omega) h2 (by omega)];exact h4⟩
   have acQ:∀j (h:j<acc.length) (h':j<cF.length),UQ s2 b2 4 cF[j] (ZM (XF a.fa acc[j].1)):=fun j h h'=>(xd j h h').mono (by omega) fun k h1 h2 h3 h4=>⟨by omega,by rw[S4 k (by omega) h2 (by omega)];exact h4⟩
   simp only[go_sem];refine afy (ZB:=ZB) ha (L:=Lf) (q:=q) (b:=b2) (i:=i) (ob:=12) (jr:=jr) (cap:=bN) hq acO fI (by omega) p1 p5 p6 p7 p8 u8 u12 qb2 (by omega) (by omega) nb2 (by omega) (by omega) Mv Mx O1 ?_;intro e3 s3 v' w' jc Eg aj_ eX hw3 hjc jc1 jc2 fs3 aa_ rC;have qE:∀t:Nat,t<10->Env.get e3 t=Env.get e2 t:=Eg;have o7:=(Eg 7 (by omega)).trans p7;simp only[go_sem,o7,Rm];have nv:∀j c t,s2.get j=some (.cells c t false 0 0)->t≠40->¬Xb v j:=fun j c t h1 h2 h3=>h2 (by
    have:=Mv.LD h3;by_cases e:t=40
    ·exact e
    ·exact absurd rfl (Ya h1 this.2.2 e))
   have nw:∀j c t,s2.get j=some (.cells c t false 0 0)->t≠43->¬Xb w j:=fun j c t h1 h2 h3=>h2 (by
    have:=Mx.LD h3;by_cases e:t=43
    ·exact e
    ·exact absurd rfl (Ya h1 this.2.2 e))
   have pr:∀j c t,j<s2.next->j≠12->s2.get j=some (.cells c t false 0 0)->t≠40->t≠43->s3.get j=some (.cells c t false 0 0):=fun j c t h1 h2 h3 h4 h5=>by
    rw[fs3 j h1 h2 (nv j c t h3 h4) (nw j c t h3 h5)];exact h3
   have aj':s3.get 10=s2.get 10:=fs3 10 (by omega) (by omega) (fun h=>by have:=(Mv.LD h).1;omega) fun h=>by have:=(Mx.LD h).1;omega
   have bj3:∀c l,UQ s2 b2 3 c l->UQ s3 b2 3 c l:=fun c l h=>h.mono aa_ fun k h1 h2 h3 h4=>⟨h2,pr k _ _ h1 (by omega) h4 (by decide) (by decide)⟩
   have bj4:∀c l,UQ s2 b2 4 c l->UQ s3 b2 4 c l:=fun c l h=>h.mono aa_ fun k h1 h2 h3 h4=>⟨h2,pr k _ _ h1 (by omega) h4 (by decide) (by decide)⟩
   have MB:(XF a.fa q).length=2^a.lines.toNat:=S9 a.fa q;rw[List.append_cons] at YA;refine IH (i+1) _ _ (by omega) ⟨?_,?_,?_,?_,?_,?_,pr _ _ _ (by omega) (by omega) u8 (by decide) (by decide),pr _ _ _ (by omega) (by omega) u9 (by decide) (by decide),by omega,rC,Lf,b2,bN,acc++[(q,kf)],cN++[.sl jr 0 (2^a.lines.toNat) none 1],cF++[.sl jc 0 (2^a.lines.toNat) none 1],v',w',?_,iG,pr _ _ _ nb2 (by omega) qb2 (by decide) (by decide),by omega,by omega,qx,nd2,aj'.trans qm2,aj_,eX,hw3,by simp[Kc],by simp[Cz],by simp[Cy],fun j h h'=>?_,fun j h h'=>?_,by omega,YA⟩
   case refine_8 =>
    by_cases hj:j<acc.length
    ·rw[al2 (by omega),al2 hj];exact bj3 _ _ (acP j hj (by omega))
    ·have hj:j=acc.length:=by rw[agy,alW] at h;omega
     subst hj;rw[al5 (by omega),al5 (by omega)];simp only[amC];exact bj3 _ _ ⟨jr,none,by rw[Ww,NA],jr2,mB,by omega,hjr⟩
   case refine_9 =>
    by_cases hj:j<acc.length
    ·rw[al2 (by omega),al2 hj];exact bj4 _ _ (acQ j hj (by omega))
    ·have hj:j=acc.length:=by rw[agy,alW] at h;omega
     subst hj;rw[al5 (by omega),al5 (by omega)];simp only[amC];exact⟨jc,none,by rw[WX,MB],jc2,by omega,by omega,hjc⟩
   all_goals simp only[go_sem,(Eg 1 (by omega)).trans p1,(Eg 2 (by omega)).trans p2,(Eg 3 (by omega)).trans p3,(Eg 4 (by omega)).trans p4,(Eg 5 (by omega)).trans p5,(Eg 6 (by omega)).trans p6]
  all_goals simp only[go_sem,g3,g4,g5]
  all_goals rfl
 ·have xb:i=L.length:=by omega
  have SX:UE (XZ a) (XM a.fa) (a.next.length+1-i) i L=[]:=by
   rw[show a.next.length+1-i=(a.next.length-i)+1 by omega,UE,amm (by omega)]
  rw[SX,alZ] at YA;have hle:decide ((i:Int)<(L.length:Int))=false:=by rw[Z8];simp;omega
  simp only[go_sem,HA,g5,g7,hle];have ck:ZK s 13 40 1 cN.length cN v:=by rw[Cz];exact hv
  have LS:ZK s 13 43 1 cF.length cF w:=by rw[Cy];exact hw
  refine hk _ _ v w b cN cF ?_ ?_ QD g9 ⟨ck,LS,by rw[<-YA];omega,by rw[<-YA];omega,?_,?_,by omega⟩
  ·simp only[go_sem,g6]
  ·simp only[go_sem,g2]
  ·rw[<-YA];exact xe
  ·rw[<-YA];exact xd
theorem acR {a:Yi}(ha:a.ok):(Ml a.fa (XZ a)).map (fun x=>AV.fz (ZO x.2))=(U7 a.fa).map (fun x=>AV.fz (ZO x.2))/\(Ml a.fa (XZ a)).map (fun x=>AV.fz (ZM (XF a.fa x.1)))=(U7 a.fa).map (fun x=>AV.fz (ZM (XF a.fa x.1))):=by
 obtain⟨h1,h2⟩:=min_eq ha.M9 (cl:=XZ a) fun u v hu hv=>jg ha hu hv
 rw[h1];simp only[List.map_map];refine⟨rfl,amc fun x hx=>?_⟩;show _=AV.fz (ZM (XF a.fa (YM a.fa x.1)))
 congr 2
 unfold XF;refine amc fun y hy=>?_
 exact (wV ha.M9 (h2 x hx) (al4.1 hy)).symm
theorem aid {a:Yi}(ha:a.ok):ZE U 104 [Wd a]=some (Wd (Zl a)):=by
 refine ZR ajf (by kernel_rfl) (by simp[ZU,VJ]) ?_;have h172:=ajF ha;rw[WJ] at h172 ⊢;have nn:=ZL a.TH (a.next.map Zn);have nf:=ZL a.S6 (a.ZD.map Zv);have cn:=Zu a.TH (a.next.map Zn);have cf:=Zu a.S6 (a.ZD.map Zv);have hA:=ha.M9;have o1:=Nn (l:=Rs a) (i:=0) (by rw[Jy ha];exact ha.pos);have o1:Ud 1 (.fz (ZO (Rs a))) (.int .i64 0)=some (.fp [.int .i64 ((XZ a 0:Nat):Int)] 0):=o1;have up:=fun (S:St) (h:S.get 10=some (.map [] false))=>Dk (m:=10) (ks:=[]) h (k:=XZ a 0) (by simp)
 have up:∀S:St,S.get 10=some (.map [] false)->UX U 249 (.map 10) (.int .i64 ((XZ a 0:Nat):Int)) (.int .i64 0) S=some (S.put 10 (.map (Qb [XZ a 0] 0) false)):=up;unfold SV Vy at h172 ⊢;simp only[go_sem,aft,h172,o1,up];refine agp (ZB:=fun (o:Option AV)=>o=some (Wd (Zl a))) ha ?_ ?_ ?_ ?_ ?_ ?_ ?_ ?_ ?_ ?_ ?_ ?_ ?_ ?_ ?_
 case refine_15 =>
  intro e' s' v w b cN cF p6 p2 u12 u9 MR;have nav:=MR.v.Zz;have naw:=MR.w.Zz;have hE:Wd (Zl a)=.agg [.int .i64 a.lines,ZG true ((U7 a.fa).map fun x=>AV.fz (ZO x.2)),ZG true ((U7 a.fa).map fun x=>AV.fz (ZM (XF a.fa x.1)))]:=by
   rw[WJ,SV,Vy,Zl];simp only[List.map_map];have e1:∀x:Nat×List Nat,(Zn∘fun x:Nat×List Nat=>(false,PV x.2)) x=AV.fz (ZO x.2):=fun x=>by simp only[Function.comp,Zn,WH];rfl
   have e2:∀x:Nat×List Nat,(Zv∘fun x:Nat×List Nat=>(false,XF a.fa x.1)) x=AV.fz (ZM (XF a.fa x.1)):=fun x=>by simp only[Function.comp,Zv,WH]
   rw[amc (fun x _=>e1 x),amc (fun x _=>e2 x)]
  obtain⟨m1,m2⟩:=acR ha;have MK:=fun x=>MR.keep (S:=s'.put 9 x) (by rw[Z']) fun j hj=>by rw[Z9,if_neg (fun e=>hj e.symm)]
  have fv':=fun x=>((MK x).Yn 36).1
  have fw':=fun x=>((MK x).Yn 36).2
  rw[m1] at fv';rw[m2] at fw';rw[hE];simp only[go_sem,p6,p2,u12,u9,nav,naw,fv',fw']
 case refine_14 =>
  repeat first|exact Fr.own|apply Fr.new|apply Fr.put|apply Fr.upto
  all_goals simp only[go_sem]
 all_goals simp only[go_sem]
 all_goals rfl
end Go.Am
