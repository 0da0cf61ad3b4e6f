/- A part of the proof. -/
import Derived.Test.YtkmaeondbkpajaaGreatDoorE09
set_option linter.all false
set_option maxHeartbeats 8000000
set_option maxRecDepth 100000
namespace Go.Am
open Go
variable [Z8]
variable {β:Type}{fin:Fl->β}{ks:List K}{ZC:β->Prop}{e:Env}{s:St}{cap:Option Nat}{t:TypeId}{v:AV}{L:List Nat}{cs:List AV}
def an8 {b n k:Nat}(h:k<=n):Dh 1 (.sl b 0 n none 1) none (some (.int .i64 (k:Int)))=some (.sl b 0 k none 1):=by
 have e1:Yv (some (.int .i64 (k:Int))) n n=some k:=by simp[Yv];omega
 have e2:Yv none 0 k=some 0:=by simp[Yv]
 simp only[Dh,Option.getD_none,e1,e2,ap3,ap4,if_true,Option.map_none,Nat.sub_zero]
def bP (Xh:Nat->Nat->List Nat)(m f:Nat)(p:Pt):Gk Xh m f p []=p:=by
 cases f <;> rfl
def bO (A:Fa)(x c:Nat):(Mh A x c).length<=A.n:=by
 unfold Mh;have:=List.length_filter_le (λu=>A.nx u x==c) (List.range A.n);rw[aqR] at this;exact this
def ajr {A:Fa}(hA:A.ok){pb bl bp bs bb be bm N B lo hi F:Nat}{bx:Nat->Nat}{vs:Nat->Nat->AV}{p:Pt}{W:List Nat}{wv:AV}(hn:A.n<=2^9)(hm:A.m<=2^8)(h:KY s pb A.n bl bp bs bb be bm p)(hH:Hop A p W)(hF:F<=2^12)(hme:2*(A.n-p.bg.length)+W.length<=F)
  (g3:e.get 3=.ptr pb 0)(g4:e.get 4=.sl B 0 A.m (some A.m) 1)(g8:e.get 8=wv)
  (hW:M7 s N W wv)(hWf:∀j,WN wv j->WZ pb bl bp bs bb be bm j/\Ou lo hi j)(hN:N<=s.next)
  (hB:yZ s B A.m A.n (Mh A) lo hi bx vs)(hPo:∀j,Ou lo hi j\/WZ pb bl bp bs bb be bm j)(fr:Fr s)
  (hk:∀e' s' OO OM OL,e'.get 3=.ptr pb 0->KY s' pb A.n bl bp bs OO OM OL (Gk (Mh A) A.m F p W)->ZC (goN U fin ks e' s')) :
  ZC (SJ U fin (.bk 6::ks) GH e s):=by
 have lts:=h.ltA;have hle:=hB.le;refine YT (σ:=Nat) (λf=>f) (λf e' s'=>f<=F/\e'.get 3=.ptr pb 0/\e'.get 4=.sl B 0 A.m (some A.m) 1/\s.next<=s'.next/\Fr s' /\
   ∃p' W' OP OO OM OL,e'.get 8=OP/\KY s' pb A.n bl bp bs OO OM OL p'/\Hop A p' W'/\2*(A.n-p'.bg.length)+W'.length<=f/\Gk (Mh A) A.m f p' W'=Gk (Mh A) A.m F p W/\M7 s' N W' OP/\(∀j,WN OP j->WZ pb bl bp bs OO OM OL j/\Ou lo hi j)/\yZ s' B A.m A.n (Mh A) lo hi bx vs/\(∀j,Ou lo hi j\/WZ pb bl bp bs OO OM OL j)) F ?_
  ⟨api _,g3,g4,api _,fr,p,W,wv,bb,be,bm,g8,h,hH,hme,rfl,hW,hWf,hB,hPo⟩
 rintro Lp f e' s' ⟨hf,q3,q4,Vq,Wk,p',W',OP,OO,OM,OL,q8,P,hH',afV,bN,nt,Hq,B',afW⟩ IH;have Hm:=nt.QE;rcases List.eq_nil_or_concat W' with rfl|⟨W0,k,rfl⟩
 ·rw[bP] at bN;simp only[go_sem,GH,q8,Hm];refine hk _ _ OO OM OL ?_ (by rw[<-bN];exact P);simp only[go_sem,q3]
 ·rw[List.concat_eq_append] at *;obtain⟨f,rfl⟩:∃g,f=g+1:=⟨f-1,by simp at afV;omega⟩;have L_:(W0++[k]).getLast? = some k:=by simp
  obtain⟨H2,hm2⟩:=ze hA (λy _ c _ u=>JN A y c u) hH' L_;rw[Gk,L_] at bN;simp only[List.dropLast_concat] at bN H2 hm2;have hkW:=hH'.work k No;obtain⟨k1,k2,k3⟩:=hH'.wf.sp k hkW;have Pm:=hH'.wf.few;have apK:=hH'.wf.le;have apL:=hH'.wf.ll;have hwl:W0.length+1<=F:=by simp at afV;omega
  have hlen:(W0++[k]).length=W0.length+1:=by simp
  rw[hlen] at Hm;obtain⟨b,R,rfl,hg,hbn⟩:∃b R,OP=.sl b 0 (W0.length+1) none 1/\s'.get b=some (.cells (Zz (W0++[k]++R)) 3 false 0 0)/\N<=b/\b<s'.next:=by
   rcases nt with⟨_,h⟩|⟨b,R,h1,h2,h3,h4⟩
   ·simp at h
   ·exact⟨b,R,by rw[h1,hlen],h2,h3,h4⟩
  have o1:(Zz (W0++[k]++R))[W0.length]? = some (.int .i64 (k:Nat)):=by
   rw[XY No,zH No,vL (api _),Nat.sub_self];rfl
  have w1:IntKind.i64.wrap (((W0.length+1:Nat):Int)-1)=(W0.length:Int):=by rw[wrap_i64] <;> omega
  have oN:decide (((W0.length+1:Nat):Int)>0)=true:=by simp
  have sl1:=an8 (b:=b) (n:=W0.length+1) (k:=W0.length) J;have o2:=XY (l:=p'.bg) (i:=k) hkW;have o3:=XY (l:=p'.en) (i:=k) J;have ke:k<p'.en.length:=J;have sl2:=afX (b:=bl) (n:=p'.list.length) (f:=gt p'.bg k) (t:=gt p'.en k) (.inl rfl) J J;have adN:=P.ltA;obtain⟨t1,t2,t3,t4,t5,t6,t7⟩:=adN;have c1:=an9 (s:=s'.upto (s'.next+21)) (b:=bl) (f:=gt p'.bg k) (k:=gt p'.en k-gt p'.bg k) (cap:=none) (L:=p'.list) (by rw[ZR];exact P.gl) O0 J J J;have Mc:∀j q,j<s'.next->(s'.next+q=j)=False:=λj q hj=>F_
  have lb:=hbn.2;have q1:W0.length<W0.length+1:=J;simp only[go_sem,GH,q3,q4,q8,Hm,hg,o1,w1,oN,sl1,o2,o3,hkW,ke,sl2,P.g,P.gb,P.ge,ap3,ajH,c1,Option.map_none,q1];have hg2:∀j x y,j<s'.next->((((s'.upto (s'.next+21)).new x).new y).get j=s'.get j):=λj x y hj=>by
   rw[Z5,Z',Z6,O3 J,Z5,Z6,O3 J,ZR]
  have Tp:(piece p'.list (gt p'.bg k) (gt p'.en k)).length=gt p'.en k-gt p'.bg k:=Ix J;have hms:∀u∈piece p'.list (gt p'.bg k) (gt p'.en k),u<A.n:=λu hu=>by
   obtain⟨i,h1,h2,rfl⟩:=(M8 J).1 hu;exact (hH'.wf.li i J).1
  refine agJ (N:=N) (n:=A.n) (m:=A.m) (nx:=A.nx) (B:=B) (lo:=lo) (hi:=hi) (bx:=bx) (vs:=vs) (bf:=Mh A) (p:=p') (W:=W0) (wv:=.sl b 0 W0.length none 1) (ms:=piece p'.list (gt p'.bg k) (gt p'.en k)) (mv:=.sl (s'.next+22) 0 (gt p'.en k-gt p'.bg k) none 1) hn hm (P.mono O0 λj hj=>hg2 j _ _ (P.lt j hj)) hH'.wf hH'.zero hms J J (λy _ c _ u=>JN A y c u) (λy _ c _=>bO A y c) ?_ ?_ ?_ ?_ ?_ ?_ (.inr ⟨b,[k]++R,rfl,?_,hbn.1,?_⟩) (λj hj=>?_) ?_ (.inr ⟨s'.next+22,?_,?_,?_⟩) (λj hj=>?_) (B'.keep O0 λj h1 h2=>hg2 j _ _ J) afW ?_ ?_
  case refine_16 =>
   intro e2 s2 wv2 cb ce cm Ol h2b P2 W2 TB hf2 hcb hce DW fs2 C0 OJ;simp only[Z',Z6] at C0 fs2 TB hcb hce DW;simp only[go_sem];refine IH f _ _ J ⟨J,?_,?_,J,OJ,_,_,wv2,cb,ce,cm,h2b,P2,H2,by simp at afV;omega,bN,W2,λj hj=>⟨hf2 j hj,?_⟩,?_,λj=>?_⟩
   ·rw[Ol 3 J];simp only[go_sem,q3]
   ·rw[Ol 4 J];simp only[go_sem,q4]
   ·rcases TB j hj with h6|h6
    ·rw[X_] at h6;exact (Hq j ((X_ _ _ _).2 h6)).2
    ·unfold Ou;omega
   ·refine B'.keep J λj h1 h2=>?_
    have h3:WZ pb bl bp bs OO OM OL j:=by rcases afW j with h|h;unfold Ou at h;omega;exact h
    rw[fs2 j J h3 (λhb=>by
     rw[X_] at hb;have:=(Hq j ((X_ _ _ _).2 hb)).2;unfold Ou at this;omega),hg2 j _ _ J]
   ·rcases afW j with h3|h3
    ·exact .inl h3
    ·unfold WZ at h3 ⊢;unfold Ou;omega
  case refine_15=>exact ((Wk.upto J).new _).new _
  case refine_14 =>
   rw[X_] at hj;subst hj;rw[X_];refine⟨by unfold WZ;omega,J⟩
  case refine_13=>simp only[Z',Z6];omega
  case refine_12=>rw[Z5,Z',Z6,Of rfl];rfl
  case refine_11=>rw[Tp]
  case refine_10=>simp only[Z',Z6];omega
  case refine_9 =>
   rw[X_] at hj;exact Hq j ((X_ _ _ _).2 hj)
  case refine_8=>simp only[Z',Z6];omega
  case refine_7=>rw[hg2 _ _ _ hbn.2,hg,aqs]
  all_goals simp only[go_sem,q3,q4]
  all_goals rfl
def NY (A:Fa)(x c i:Nat):List Nat:=(List.range i).filter λu=>A.nx u x==c
def Cr (A:Fa)(x c i:Nat):NY A x c (i+1)=if A.nx i x=c then NY A x c i++[i] else NY A x c i:=by
 unfold NY;rw[List.range_succ,List.filter_append];by_cases e:A.nx i x=c <;> simp[e]
def gf (A:Fa)(x c i:Nat):(NY A x c i).length<=i:=by
 unfold NY;have:=List.length_filter_le (λu=>A.nx u x==c) (List.range i);rw[aqR] at this;exact this
def Av (f:Nat->AV)(c:Nat)(v:AV)(k:Nat):AV:=if k=c then v else f k
def pN {f:Nat->AV}{n c:Nat}(h:c<n)(v:AV):lay c [v] ((List.range n).map f)=some ((List.range n).map (Av f c v)):=by
 rw[Kt _ _ _ (by simpa using h)]
 congr 1
 apply List.ext_getElem?;intro k;rw[List.getElem?_set];simp only[aqc,ala,aqR];by_cases e:c=k
 ·subst e;rw[Of rfl,Of h,List.getElem?_range h];simp[Av]
 ·rw[O3 e];by_cases hk:k<n
  ·rw[List.getElem?_range hk];simp[Av,Ne.symm e]
  ·rw[aqA F_];rfl
def aha {a:Zv}(ha:a.ok){x B bX m:Nat}{Bc:List AV}(hx:x<2^a.lines.toNat)
  (g4:e.get 4=.sl B 0 m (some m) 1)(g5:e.get 5=.int .i64 (x:Int))(g40:e.get 40=ZU a.Xb (a.next.map ZF))(g41:e.get 41=.int .i64 a.next.length)(g42:e.get 42=.int .i64 (0:Nat))
  (hxm:x<m)(gB:s.get B=some (.cells Bc 39 false 0 0))(hBx:Bc[x]? = some (.sl bX 0 a.next.length (some a.next.length) 1))(gX:s.get bX=some (.cells ((List.range a.next.length).map λ_=>.ZQ) 48 false 0 0))(ZB:B≠bX)(hB:B<s.next)(hX:bX<s.next)(fr:Fr s)
  (hk:∀e' s' vs,(∀t:Nat,t<6\/7<t/\t<40->e'.get t=e.get t)->s'.get bX=some (.cells ((List.range a.next.length).map vs) 48 false 0 0)->(∀c,c<a.next.length->Hj s' s.next (NY a.fa x c a.next.length) (vs c)) ->
   (∀j,j<s.next->j≠bX->s'.get j=s.get j)->s.next<=s'.next->Fr s'->ZC (goN U fin ks e' s')) :
  ZC (SJ U fin (.bk 2::ks) Ks e s):=by
 have Pm:=ha.few;refine YT (σ:=Nat) (λi=>a.next.length-i) (λi e' s'=>i<=a.next.length/\(∀t:Nat,t<6\/7<t/\t<42->e'.get t=e.get t)/\e'.get 42=.int .i64 (i:Nat)/\(∀j,j<s.next->j≠bX->s'.get j=s.get j)/\s.next<=s'.next/\Fr s' /\
   ∃vs:Nat->AV,s'.get bX=some (.cells ((List.range a.next.length).map vs) 48 false 0 0)/\(∀c,c<a.next.length->Hj s' s.next (NY a.fa x c i) (vs c))/\∀c c' j,c≠c'->c<a.next.length->c'<a.next.length->WN (vs c) j->¬WN (vs c') j) 0 ?_
  ⟨apW _,λ_ _=>rfl,g42,λ_ _ _=>rfl,api _,fr,λ_=>.ZQ,gX,λc _=>.inl ⟨rfl,rfl⟩,λc c' j _ _ _ h=>absurd h (VB j)⟩
 rintro Lp i e' s' ⟨DR,hold,q42,hs,Vq,Wk,vs,qX,SH,ahb⟩ IH;have q4:=(hold 4 J).trans g4;have q5:=(hold 5 J).trans g5;have q40:=(hold 40 J).trans g40;have q41:=(hold 41 J).trans g41;by_cases hd:i<a.next.length
 ·have Ql:=ZI hd J;have TK:=Ul (nl:=a.Xb) hd;have Dy:=ha.mM hd hx;have hc:a.fa.nx i x<a.next.length:=ha.UU.lt i x hd hx;have gB':=(hs B hB ZB).trans gB;have o1:=MY vs hc;have hvc:=SH _ hc;have Ik:=gf a.fa x (a.fa.nx i x) i;have pM:NY a.fa x (a.fa.nx i x) (i+1)=NY a.fa x (a.fa.nx i x) i++[i]:=by rw[Cr,Of rfl]
  have hbo:∀c,c≠a.fa.nx i x->NY a.fa x c (i+1)=NY a.fa x c i:=λc h=>by rw[Cr,O3 (λe=>h e.symm)]
  generalize a.fa.nx i x=c at *;have Hi:=λv=>pN (f:=vs) hc v
  have hX':bX<s'.next:=J;have hBn:B<s'.next:=J;have Ps:=Wk.at;have Mc:∀j q,j<s'.next->(j=s'.next+q)=False:=λj q hj=>F_
  have Ju:∀j q,j<s'.next->(s'.next+q=j)=False:=λj q hj=>F_
  have z1:(bX=B)=False:=eq_false ZB.symm;have z2:(B=bX)=False:=eq_false ZB;have key:∀(E:Env) (S:St),(∀t:Nat,t<6\/7<t/\t<42->E.get t=e'.get t)->E.get 42=.int .i64 ((i+1:Nat):Int) ->
    S.get bX=some (.cells ((List.range a.next.length).map (Av vs c (.sl (s'.next+23) 0 ((NY a.fa x c i).length+1) none 1))) 48 false 0 0)->S.get (s'.next+23)=some (.cells (Zz (NY a.fa x c i++[i])) 3 false 0 0) ->
    (∀j,j<s'.next->j≠bX->¬WN (vs c) j->S.get j=s'.get j)->s'.next+23<S.next->Fr S->ZC (SJ U fin (.bk 2::ks) Lp E S):=by
   intro E S k1 k2 k3 k4 k5 k6 k7;refine IH (i+1) _ _ J ⟨J,λt ht=>(k1 t ht).trans (hold t ht),k2,λj h1 h2=>(k5 j J h2 λh=>by have:=hvc.lt h;omega).trans (hs j h1 h2),J,k7,_,k3,λd mL=>?_,λd d' j h1 h2 h3 h4=>?_⟩
   ·unfold Av;by_cases hdc:d=c
    ·subst hdc;rw[Of rfl,pM];exact .inr ⟨s'.next+23,by simp,k4,J,k6⟩
    ·rw[O3 hdc,hbo d hdc];exact (SH d mL).keep J λj h1 h2 h3=>k5 j h1 J λh4=>ahb d c j hdc mL hc h3 h4
   ·unfold Av at h4 ⊢;by_cases hdc:d=c
    ·have aaJ:d'≠c:=J;rw[Of hdc,X_] at h4;rw[O3 aaJ];intro h5;have:=(SH d' h3).lt h5;omega
    ·rw[O3 hdc] at h4;by_cases aaJ:d'=c
     ·rw[Of aaJ,X_];have:=(SH d h2).lt h4;omega
     ·rw[O3 aaJ];exact ahb d d' j h1 h2 h3 h4
  have TV:((NY a.fa x c i).length+1)*8<=1099511627776:=J;have U5:(NY a.fa x c i).length+1<=1099511627776:=J;have pL:(0+1)*8<=1099511627776:=J;have Jv:∀t:Nat,t<6\/7<t/\t<42->(6=t)=False/\(7=t)=False/\∀k:Nat,42<=k->(k=t)=False:=λt ht=>⟨F_,F_,λk hk=>F_⟩
  rcases hvc with⟨hv,hL⟩|⟨b,hv,hg,e1,e2⟩
  ·rw[hv] at o1 key;rw[hL] at key;simp only[go_sem,Ks,q4,q5,q40,q41,q42,Z9,hd,Ql,TK,Dy,TT f_,gB',hBx,qX,o1,hxm,hc,Vz,Zx,ap3,aqP,Nat.reducePow,ap4,Ps,hX',hBn,Ju,pL,Hi];refine key _ _ (λt ht=>?_) ?_ ?_ ?_ (λj h1 h2 h3=>?_) ?_ ?_
   ·obtain⟨n6,n7,n42⟩:=Jv t ht;simp only[go_sem,n6,n7,n42]
   ·simp only[go_sem]
   ·simp only[go_sem]
    try rfl
   ·simp[go_sem,Mc,hX']
    try rfl
   ·have e0:∀q,(s'.next+q=j)=False:=λq=>F_
    simp only[Z7,Z5,Z_,Z6,ZR,e0,eq_false h2.symm,if_false]
   ·simp only[Z_,Z',Z6];omega
   ·repeat first|exact Wk|apply Fr.new|apply Fr.put|apply Fr.upto
    all_goals try simp only[Z_,Z',Z6]
    all_goals omega
  ·rw[hv] at o1 key;have a1:=λ(S:St) (h:S.get b=some (.cells (Zz (NY a.fa x c i)) 3 false 0 0))=>yp rfl h i
   have z3:(bX=b)=False:=F_;have z4:(b=bX)=False:=F_;have z5:(b=B)=False:=F_;have z6:(B=b)=False:=F_;simp only[go_sem,Ks,q4,q5,q40,q41,q42,Z9,hd,Ql,TK,Dy,TT f_,gB',hBx,qX,o1,hxm,hc,hg,a1,Zx,ap3,Nat.reducePow,ap4,Ps,hX',hBn,Ju,z4,z5,e2,TV,U5,Hi];refine key _ _ (λt ht=>?_) ?_ ?_ ?_ (λj h1 h2 h3=>?_) ?_ ?_
   ·obtain⟨n6,n7,n42⟩:=Jv t ht;simp only[go_sem,n6,n7,n42]
   ·simp only[go_sem]
   ·simp only[go_sem]
   ·simp[go_sem,Mc,hX']
   ·have e0:∀q,(s'.next+q=j)=False:=λq=>F_
    rw[X_] at h3;simp only[Z7,Z5,Z_,Z6,ZR,e0,eq_false h2.symm,eq_false h3,if_false]
   ·simp only[Z_,Z',Z6];omega
   ·repeat first|exact Wk|apply Fr.new|apply Fr.put|apply Fr.upto
    all_goals try simp only[Z_,Z',Z6]
    all_goals omega
 ·have:i=a.next.length:=J;subst this;simp only[go_sem,Ks,q41,q42,Z9,ap5];refine hk _ _ vs (λt ht=>?_) qX SH hs Vq Wk;have ZB:∀k:Nat,42<=k->(k=t)=False:=λk hk=>F_
  simp only[go_sem,ZB];exact hold t J
def jl {ex:Ex}{a:Nat}{n:Nat}(h:e.get a=.int .i64 (n:Int))(hn:n<=2^20) :
  Yn U ex e (.makeSlice 39 (.tmp a) (.tmp a)) s=some (.sl s.next 0 n (some n) 1,s.new (.cells ((List.range n).map λ_=>.ZQ) 48 false 0 0)):=by
 have h40:U.Zd 39=some (.slice 48):=It;have hz:zero U 48=some .ZQ:=It;have hi:(U.inf 48).map (λi=>(i.bytes,i.size))=some (24,1):=It;have e1:((List.range n).map λ_=>AV.ZQ)=List.replicate n .ZQ:=by simp[List.map_const']
 cases hj:U.inf 48 with
 |none=>rw[hj] at hi;cases hi
 |some j =>
  rw[hj] at hi;simp only[aqG,Option.some.injEq,Prod.mk.injEq] at hi;obtain⟨h1,h2⟩:=hi;rw[e1,<-T5];simp only[Yn,eval,h,h40,hj,hz];rw[Of ⟨J,J,by rw[h1];omega,J,by rw[h2];rfl,J⟩,h2];rfl
def rB {ex:Ex}{a:Nat}{n:Nat}(h:e.get a=.int .i64 (n:Int))(hn:n<=2^20) :
  Yn U ex e (.makeSlice 259 (.tmp a) (.tmp a)) s=some (.sl s.next 0 n (some n) 1,s.new (.cells ((List.range n).map λ_=>.ZQ) 39 false 0 0)):=by
 have h40:U.Zd 259=some (.slice 39):=It;have hz:zero U 39=some .ZQ:=It;have hi:(U.inf 39).map (λi=>(i.bytes,i.size))=some (24,1):=It;have e1:((List.range n).map λ_=>AV.ZQ)=List.replicate n .ZQ:=by simp[List.map_const']
 cases hj:U.inf 39 with
 |none=>rw[hj] at hi;cases hi
 |some j =>
  rw[hj] at hi;simp only[aqG,Option.some.injEq,Prod.mk.injEq] at hi;obtain⟨h1,h2⟩:=hi;rw[e1,<-T5];simp only[Yn,eval,h,h40,hj,hz];rw[Of ⟨J,J,by rw[h1];omega,J,by rw[h2];rfl,J⟩,h2];rfl
structure acN (s:St)(B m n:Nat)(bf:Nat->Nat->List Nat)(x:Nat)(bx:Nat->Nat)(vs:Nat->Nat->AV):Prop where
 g:s.get B=some (.cells ((List.range m).map λy=>if y<x then .sl (bx y) 0 n (some n) 1 else .ZQ) 39 false 0 0)
 row:∀y,y<x->s.get (bx y)=some (.cells ((List.range n).map (vs y)) 48 false 0 0)
 bl:∀y,y<x->∀c,c<n->Hj s (B+1) (bf y c) (vs y c)
 hx:∀y,y<x->B<bx y/\bx y<s.next
def acN.full {B m n:Nat}{bf:Nat->Nat->List Nat}{bx:Nat->Nat}{vs:Nat->Nat->AV}(h:acN s B m n bf m bx vs)(hB:B<s.next):yZ s B m n bf B s.next bx vs:=by
 refine⟨?_,h.row,λx hx c hc=>?_,⟨api _,hB⟩,λx hx=>⟨by have:=h.hx x hx;omega,(h.hx x hx).2⟩,λx hx c hc j hj=>?_,api _⟩
 ·rw[h.g]
  congr 2
  refine aqD λy hy=>?_
  rw[Of (aqg.1 hy)]
 ·rcases h.bl x hx c hc with h1|⟨b,h1,h2,h3,h4⟩
  ·exact .inl h1
  ·exact .inr ⟨b,h1,h2,h4⟩
 ·have:=(h.bl x hx c hc).lt hj;omega
def ajp {a:Zv}(ha:a.ok){B ab m:Nat}(hm:m=2^a.lines.toNat)
  (g1:e.get 1=.ptr ab 0)(g4:e.get 4=.sl B 0 m (some m) 1)(g28:e.get 28=.int .i64 (m:Int))(g29:e.get 29=.int .i64 (0:Nat))
  (ga:s.get ab=some (.cells [.int .i64 a.lines,VI a,XD a] 42 false 0 0))(gB:s.get B=some (.cells ((List.range m).map λ_=>.ZQ) 39 false 0 0))(hab:ab<s.next)(ZB:ab≠B)(hB:B<s.next)(fr:Fr s)
  (hk:∀e' s' bx vs,(∀t:Nat,t<5->e'.get t=e.get t)->acN s' B m a.next.length (Mh a.fa) m bx vs ->
   (∀j,j<s.next->j≠B->s'.get j=s.get j)->s.next<=s'.next->Fr s'->ZC (goN U fin ks e' s')) :
  ZC (SJ U fin (.bk 0::ks) GK e s):=by
 have Pm:=ha.few;have Hn:m<=2^16:=by
  have:=Rj a.lines (by have:=ha.lines;omega);have:=M6 a.lines;unfold zk at this;omega
 refine YT (σ:=Nat) (λx=>m-x) (λx e' s'=>x<=m/\(∀t:Nat,t<5\/7<t/\t<29->e'.get t=e.get t)/\e'.get 29=.int .i64 (x:Nat)/\(∀j,j<s.next->j≠B->s'.get j=s.get j)/\s.next<=s'.next/\Fr s' /\
   ∃bx vs,acN s' B m a.next.length (Mh a.fa) x bx vs) 0 ?_
  ⟨apW _,λ_ _=>rfl,g29,λ_ _ _=>rfl,api _,fr,λ_=>0,λ_ _=>.ZQ,⟨by rw[gB];simp,λy hy=>J,λy hy=>J,λy hy=>J⟩⟩
 rintro Lp x e' s' ⟨hxl,hold,DQ,hs,Vq,Wk,bx,vs,X⟩ IH;have q1:=(hold 1 J).trans g1;have q4:=(hold 4 J).trans g4;have At:=(hold 28 J).trans g28;by_cases hd:x<m
 ·have Ql:=ZI hd J;have ga':=(hs ab hab ZB).trans ga;have hl:=ZN a.Xb (a.next.map ZF);rw[ala] at hl;have mk:=λ(ex:Ex) (t:Nat) (e:Env) (S:St) (h:e.get t=.int .i64 (a.next.length:Int))=>jl (ex:=ex) (s:=S) h J
  have Hi:=pN (f:=λy=>if y<x then .sl (bx y) 0 a.next.length (some a.next.length) 1 else .ZQ) hd (.sl s'.next 0 a.next.length (some a.next.length) 1);have z1:(s'.next=B)=False:=F_;have z2:(B=ab)=False:=F_;have z3:(s'.next=ab)=False:=F_;have hBn:B<s'.next:=J;have XB:=X.g;unfold VI XD at ga';simp only[go_sem,GK,q1,q4,At,DQ,Z9,hd,ga',hl,↓mk,XB,Hi,ap3,z1,z2,z3];refine aha ha (x:=x) (B:=B) (bX:=s'.next) (m:=m) (Bc:=(List.range m).map (Av (λy=>if y<x then .sl (bx y) 0 a.next.length (some a.next.length) 1 else .ZQ) x (.sl s'.next 0 a.next.length (some a.next.length) 1))) J ?_ ?_ ?_ ?_ ?_ hd ?_ ?_ ?_ J O0 O0 ?_ ?_
  case refine_10 =>
   intro e2 s2 vx Ol h2X hvx TB Dy OJ;simp only[Z_,Z'] at TB Dy hvx;have p29:e2.get 29=.int .i64 (x:Nat):=by rw[Ol 29 J];simp only[go_sem,DQ]
   have old:∀j,j<s'.next->j≠B->s2.get j=s'.get j:=λj h1 h2=>by
    rw[TB j J J,Z7,O3 h2.symm,Z5,O3 J]
   simp only[go_sem,p29,Ql];refine IH (x+1) _ _ J ⟨J,λt ht=>?_,?_,λj h1 h2=>by rw[old j J h2,hs j h1 h2],J,OJ,λy=>if y=x then s'.next else bx y,λy=>if y=x then vx else vs y,⟨?_,λy hy=>?_,λy hy c hc=>?_,λy hy=>?_⟩⟩
   ·have ZB:∀k:Nat,29<=k->(k=t)=False:=λk hk=>F_
    have aga:(5=t)=False:=F_;simp only[go_sem,ZB];rw[Ol t J];simp only[go_sem,ZB,aga];exact hold t ht
   ·simp only[go_sem]
   ·rw[TB B J J,Z7,Of rfl]
    congr 2
    refine aqD λy hy=>?_
    unfold Av;by_cases e:y=x
    ·rw[Of e,Of J,Of e]
    ·rw[O3 e,O3 e];show (if y<x then _ else _)=_;by_cases e2:y<x
     ·rw[Of e2,Of J]
     ·rw[O3 e2,O3 J]
   ·by_cases e:y=x
    ·simp only[e,if_true];exact h2X
    ·simp only[e,if_false];have hb:=X.hx y J;rw[old _ hb.2 J];exact X.row y J
   ·by_cases e:y=x
    ·simp only[e,if_true];rcases hvx c hc with h1|⟨b,h1,h2,h3,h4⟩
     ·exact .inl h1
     ·exact .inr ⟨b,h1,h2,J,h4⟩
    ·simp only[e,if_false];have hb:=X.bl y J c hc;exact hb.keep J λj h1 h2 h3=>old j h1 J
   ·by_cases e:y=x
    ·simp only[e,if_true];omega
    ·simp only[e,if_false];have:=X.hx y J;omega
  case refine_9=>exact (Wk.new _).put O0 _
  case refine_8=>rw[Z7,O3 J,Z5,Of rfl]
  case refine_7 =>
   rw[MY _ hd];unfold Av;rw[Of rfl]
  case refine_6=>rw[Z7,Of rfl]
  all_goals simp only[go_sem,q4]
  all_goals rfl
 ·have:x=m:=J;subst this;simp only[go_sem,GK,At,DQ,Z9,ap5];refine hk _ _ bx vs (λt ht=>?_) X hs Vq Wk;have ZB:∀k:Nat,29<=k->(k=t)=False:=λk hk=>F_
  simp only[go_sem,ZB];exact hold t J
def ajq {n:Nat}(hn:n<=2^20)(g8:e.get 8=.ZQ)(g75:e.get 75=.int .i64 (n:Int))(g76:e.get 76=.int .i64 (0:Nat))(fr:Fr s)
  (hk:∀e' s' wv,(∀t:Nat,t<8->e'.get t=e.get t)->e'.get 8=wv->M7 s' s.next (List.range n) wv->(∀j,j<s.next->s'.get j=s.get j)->s.next<=s'.next->Fr s'->ZC (goN U fin ks e' s')) :
  ZC (SJ U fin (.bk 4::ks) GJ e s):=by
 refine YT (σ:=Nat) (λi=>n-i) (λi e' s'=>i<=n/\(∀t:Nat,t<8\/9<t/\t<76->e'.get t=e.get t)/\e'.get 76=.int .i64 (i:Nat)/\(∀j,j<s.next->s'.get j=s.get j)/\s.next<=s'.next/\Fr s' /\
   ∃wv,e'.get 8=wv/\M7 s' s.next (List.range i) wv) 0 ?_
  ⟨apW _,λ_ _=>rfl,g76,λ_ _=>rfl,api _,fr,.ZQ,g8,.inl ⟨rfl,rfl⟩⟩
 rintro Lp i e' s' ⟨DR,hold,q76,hs,Vq,Wk,wv,q8,hW⟩ IH;have q75:=(hold 75 J).trans g75;by_cases hd:i<n
 ·have Ql:=ZI hd J;have pJ:=hW.WV;rw[aqR] at pJ;have pL:(i+1)*8<=1099511627776:=J;have iY:i+1<=1099511627776:=J;simp only[go_sem,GJ,q8,q75,q76,Z9,hd,ap3,Zx,Nat.reducePow,pJ,pL,iY];have W3:M7 (s'.new (.cells [.int .i64 (i:Int)] 3 false 0 0)) s.next (List.range i) wv:=hW.keep O0 λj h1 _ _=>by rw[Z5,O3 J]
  obtain⟨s4,d1,d2,d3,d4,d5⟩:=W3.app O0 i;rw[Z'] at d1 d2 d3 d4;rw[d1];simp only[go_sem,q76,Ql];refine IH (i+1) _ _ J ⟨J,λt ht=>?_,?_,λj hj=>?_,J,d5 (Wk.new _),_,?_,by rw[List.range_succ];exact d3⟩
  ·have ZB:∀k:Nat,76<=k->(k=t)=False:=λk hk=>F_
   have bE:(8=t)=False:=F_;have aoW:(9=t)=False:=F_;simp only[go_sem,ZB,bE,aoW];exact hold t ht
  ·simp only[go_sem]
  ·rw[d4 j J (λh=>by have:=hW.lt h;omega),Z5,O3 J];exact hs j hj
  ·simp only[go_sem]
 ·have:i=n:=J;subst this;simp only[go_sem,GJ,q75,q76,Z9,ap5];refine hk _ _ wv (λt ht=>?_) ?_ hW hs Vq Wk
  ·have ZB:∀k:Nat,76<=k->(k=t)=False:=λk hk=>F_
   simp only[go_sem,ZB];exact hold t J
  ·simp only[go_sem,q8]
noncomputable def Rc (a:Zv):List Nat :=
 (Gk (Mh a.fa) a.fa.m (2*(a.fa.n-(VL (Y0 a) a.fa.n).bg.length)+(VL (Y0 a) a.fa.n).bg.length) (VL (Y0 a) a.fa.n) (List.range (VL (Y0 a) a.fa.n).bg.length)).set
def ou {a:Zv}(ha:a.ok){u v:Nat}(hu:u<a.fa.n)(hv:v<a.fa.n):Y0 a u=Y0 a v<->∀x,x<a.fa.m->a.fa.fr u x=a.fa.fr v x:=by
 have ui:u<a.ZW.length:=by rw[ha.fl];exact hu
 have hv':v<a.ZW.length:=by rw[ha.fl];exact hv
 have h1:=ha.Wh u ui;have h2:=ha.Wh v hv';have e1:∀s x,a.fa.fr s x=(a.ZW.getD s (true,[])).2.getD x false:=λ_ _=>rfl
 unfold Y0;simp only[e1];rw[Y' ui,Y' hv']
 constructor
 ·intro h x _;rw[EB J h]
 ·intro h
  congr 1
  refine List.ext_getElem J λx q1 q2=>?_
  have:=h x (by show x<2^a.lines.toNat;omega);rw[Y' q1,Y' q2] at this;exact this
def BF {a:Zv}(ha:a.ok):Hop a.fa (VL (Y0 a) a.fa.n) (List.range (VL (Y0 a) a.fa.n).bg.length):=vS λu v hu hv=>ou ha hu hv
def Iz {a:Zv}(ha:a.ok):(Rc a).length=a.fa.n:=by
 have h:=Bb ha.UU (λy _ c _ u=>JN a.fa y c u) _ (BF ha) (api _);rw[aqR] at h;exact h.wf.ls
def cz {a:Zv}(ha:a.ok){u v:Nat}(hu:u<a.fa.n)(hv:v<a.fa.n):gt (Rc a) u=gt (Rc a) v<->Zb a.fa u=Zb a.fa v :=
 afJ ha.UU (λu v hu hv=>ou ha hu hv) hu hv
def anP {a:Zv}(ha:a.ok):ZE U 130 [XW a]=some (.fz (Zz (Rc a))):=by
 refine ZP am4 It (by simp[ZT,XC]) ?_;have Pm:=ha.few;have Hn:2^a.lines.toNat<=2^8:=Nat.pow_le_pow_right J (by have:=ha.lines;omega);have nn:=ZV a.Xb (a.next.map ZF);have nf:=ZV a.WG (a.ZW.map ZM);have cn:=ZK a.Xb (a.next.map ZF);have cf:=ZK a.WG (a.ZW.map ZM);have SI:=Vf U 3 true .i64 (n:=a.lines) (show 0<=a.lines/\a.lines<=16 by have:=ha.lines;omega);have ajo:(2^a.lines.toNat:Int)=((2^a.lines.toNat:Nat):Int):=by simp
 rw[ajo] at SI;have mk:=λ(ex:Ex) (t:Nat) (e:Env) (S:St) (h:e.get t=.int .i64 ((2^a.lines.toNat:Nat):Int))=>rB (ex:=ex) (s:=S) h J
 obtain⟨s1,pb,bl,bp,bs,bb,be,bm,h1,P,l1,l2,l3,l4,l5,l6,l7,hn1,tf,RX⟩:=anp ha (s:=(Ym U).new (.cells [.int .i64 a.lines,VI a,XD a] 42 false 0 0)) (Fr.own.new _);have P:KY s1 pb a.fa.n bl bp bs bb be bm (VL (Y0 a) a.fa.n):=P;rw[YH] at h1 ⊢;unfold VI XD at *;have ho:(Ym U).next=8:=rfl;simp only[Z',ho] at l1 l2 l3 l4 l5 l6 l7 hn1 RX;have g8:s1.get 8=some (.cells [.int .i64 a.lines,ZU a.Xb (a.next.map ZF),ZU a.WG (a.ZW.map ZM)] 42 false 0 0):=by
  rw[RX 8 J,Z5,ho,Of rfl]
 simp only[go_sem,aiZ,ahU,h1,g8,SI,↓mk];have Cq:zk a.lines=((2^a.lines.toNat:Nat):Int):=M6 a.lines;have hH:=BF ha;have hwl:=hH.wf.few;have apI:=P.ltA;refine ajp (ZC:=λr:Option AV=>r=some (AV.fz (Zz (Rc a)))) ha (B:=s1.next) (ab:=8) (m:=2^a.lines.toNat) rfl ?_ ?_ ?_ ?_ ?_ ?_ ?_ ?_ ?_ (tf.new _) ?_
 case refine_10 =>
  intro e2 s2 bx vs Ol X TB C0 OJ;rw[Z'] at TB C0;have p3:e2.get 3=.ptr pb 0:=by rw[Ol 3 J];simp only[go_sem]
  have p4:e2.get 4=.sl s1.next 0 (2^a.lines.toNat) (some (2^a.lines.toNat)) 1:=by rw[Ol 4 J];simp only[go_sem]
  have BI:=X.full J;have P2:=P.mono (s':=s2) J λj hj=>by
   have:=P.lt j hj;rw[TB j J J,Z5,O3 J]
  have hPo:∀j,Ou s1.next s2.next j\/WZ pb bl bp bs bb be bm j:=λj=>by unfold Ou WZ;omega
  simp only[go_sem,p3,P2.g];refine ajq (ZC:=λr:Option AV=>r=some (AV.fz (Zz (Rc a)))) (n:=(VL (Y0 a) a.next.length).bg.length) (by have:(VL (Y0 a) a.next.length).bg.length<=a.next.length:=hwl;omega) ?_ ?_ ?_ OJ ?_
  case refine_4 =>
   intro e3 s3 wv CZ h3w W yX ib tU;have p3':e3.get 3=.ptr pb 0:=by rw[CZ 3 J];simp only[go_sem,p3]
   have p4':e3.get 4=.sl s1.next 0 (2^a.lines.toNat) (some (2^a.lines.toNat)) 1:=by rw[CZ 4 J];simp only[go_sem,p4]
   simp only[go_sem];refine ajr (ZC:=λr:Option AV=>r=some (AV.fz (Zz (Rc a)))) (A:=a.fa) ha.UU (N:=s2.next) (B:=s1.next) (lo:=s1.next) (hi:=s2.next) (bx:=bx) (vs:=vs) (F:=2*(a.fa.n-(VL (Y0 a) a.fa.n).bg.length)+(VL (Y0 a) a.fa.n).bg.length) (wv:=wv) Pm Hn (P2.mono ib λj hj=>yX j (P2.lt j hj)) hH ?_ ?_ p3' p4' h3w W (λj hj=>?_) ib (BI.keep ib λj h1 h2=>yX j J) hPo tU ?_
   ·have:a.fa.n<=512:=Pm;omega
   ·rw[aqR];exact api _
   ·have:=W.lt hj;unfold WZ Ou;omega
   ·intro e4 s4 cb ce cm q3 P4;have HY:(Gk (Mh a.fa) a.fa.m (2*(a.fa.n-(VL (Y0 a) a.fa.n).bg.length)+(VL (Y0 a) a.fa.n).bg.length) (VL (Y0 a) a.fa.n) (List.range (VL (Y0 a) a.fa.n).bg.length)).set.length=a.fa.n:=Iz ha;have hz:=ow (d:=38) (cap:=some a.fa.n) HY P4.gs;have P4g:=P4.g;rw[HY] at P4g;simp only[go_sem,q3,P4g];rw[Uw] at hz;exact hz
  all_goals simp only[go_sem]
  all_goals rfl
 case refine_9=>rw[Z'];omega
 case refine_8=>omega
 case refine_7=>rw[Z'];omega
 case refine_6=>rw[Z5,Of rfl]
 case refine_5=>rw[Z5,O3 J,g8];rfl
 all_goals simp only[go_sem]
 all_goals rfl
def PD:List Nat->Nat->List (AV×AV)
 |[],_=>[]
 |k::ks,i=>(.int .i64 (k:Int),.int .i64 (i:Int))::PD ks (i+1)
def ec (a b:Nat):VP (.int .i64 (a:Int)) (.int .i64 (b:Int))=some (b==a):=by
 simp only[VP,if_true]
 congr 1
 rw[aqI];simp only[beq_iff_eq];omega
def EJ (k:Nat):∀(ks:List Nat) (i:Nat),UY (.int .i64 (k:Int)) (PD ks i)=some (bif decide (WR ks k<ks.length) then some (.int .i64 ((i+WR ks k:Nat):Int)) else none)
 |[],i=>rfl
 |x::l,i=>by
  rw[PD,UY,ec,WR]
  cases h:x==k with
  |true=>simp
  |false =>
   simp only[cond_false,ap1];rw[EJ k l (i+1)];have e:decide (WR l k+1<l.length+1)=decide (WR l k<l.length):=by congr 1;apply propext;omega
   rw[e]
   congr 2
   rw[show i+1+WR l k=i+(WR l k+1) by omega]
def BN (k:Nat):∀(ks:List Nat) (i:Nat),k∉ks->Km (.int .i64 (k:Int)) (.int .i64 ((i+ks.length:Nat):Int)) (PD ks i)=some (PD (ks++[k]) i)
 |[],i,_=>rfl
 |x::l,i,h=>by
  rw[ap9,not_or] at h;have ZB:(x==k)=false:=by simpa using λe=>h.1 (Eq.symm e)
  have ih:=BN k l (i+1) h.2;rw[show i+1+l.length=i+(x::l).length by rw[ap1];omega] at ih;rw[PD,Km,ec,ZB,aqk,PD];simp only[ih]
def lx {m:Nat}{ks:List Nat}(h:s.get m=some (.map (PD ks 0) false))(k:Nat):WM U 204 (.map m) (.int .i64 (k:Int)) true s=some (bif decide (WR ks k<ks.length) then .XQ [.int .i64 ((WR ks k:Nat):Int),.bool true] else .XQ [.int .i64 0,.bool false]):=by
 have hu:U.Zd 204=some (.map 3 3):=It;have h3:U.Zd 3=some (.int .i64):=It;have hz:zero U 3=some (.int .i64 0):=It;unfold WM;rw[hu];simp only[Vr,h3,decide_true,if_true,h,EJ,ap4]
 cases decide (WR ks k<ks.length) with
 |true=>rfl
 |false=>simp only[cond_false,hz]
def BM {m:Nat}{ks:List Nat}(h:s.get m=some (.map (PD ks 0) false)){k:Nat}(hk:k∉ks):VZ U 204 (.map m) (.int .i64 (k:Int)) (.int .i64 ((ks.length:Nat):Int)) s=some (s.put m (.map (PD (ks++[k]) 0) false)):=by
 have hu:U.Zd 204=some (.map 3 3):=It;have h3:U.Zd 3=some (.int .i64):=It;have:=BN k ks 0 hk;rw[ap4] at this;unfold VZ;rw[hu];simp only[Vr,h3,decide_true,if_true,h,this]
def adk (args:List AV)(s:St):Yx U (ZE U 131 args) 131 args s=UN U 131 args s:=(YJ U 131 args s).symm
def aiR (l:List AV):Xj U .eql 72 true (.fz l) .ZQ=some (.bool false):=by
 have h:U.Zd 72=some (.slice 4):=It;simp only[Xj,HS,yB,h]
def zX (l:List Bool)(s:St):VH 1 (.fz (Zt l)) s=some (l.length,Zt l):=by
 have h1:(Zt l).all (λx=>x.cells.length==1)=true:=by
  induction l with
  |nil=>rfl
  |cons t ts ih=>rw[Zt,aqe,List.all_cons];exact ih
 have h2:(Zt l).flatMap AV.cells=Zt l:=by
  clear h1
  induction l with
  |nil=>rfl
  |cons t ts ih=>rw[Zt,aqe,aqp];show AV.cells (.bool t)++(Zt ts).flatMap AV.cells=_;rw[ih];rfl
 simp only[VH,h1,h2,WE];rfl
def amY (l:List Bool)(h0:l≠[])(hl:l.length<=2^20)(s:St):UN U 131 [.fz (Zt l)] s=some (.sl (s.next+1) 0 l.length none 1,(s.new (.cells [] 4 false 0 0)).new (.cells (Zt l) 4 false 0 0)):=by
 refine Yi amZ It ?_;have Hk:0<l.length:=List.length_pos_iff.2 h0;have hap:∀S:St,S.get s.next=some (.cells [] 4 false 0 0)->An 4 1 1 (.sl s.next 0 0 (some 0) 1) (some (l.length,Zt l)) S=some (.sl S.next 0 (0+l.length) none 1,S.new (.cells ([]++Zt l) 4 false 0 0)):=λS h=>by
  rw[Zx (by rw[WE,ap3]) (by simp only[JX];omega) (by simp only[JX];omega) J,Rs h rfl J]
 simp only[go_sem,aiS,aiR,zX,hap,ap4]
def r_ {a:Zv}(ha:a.ok){s:Nat}(hs:s<a.ZW.length):a.ZW[s].2=Wh a.fa s:=by
 have h1:=ha.Wh s hs;refine List.ext_getElem (by rw[h1,PC];rfl) λx q1 q2=>?_
 rw[oD a.fa s (by show x<2^a.lines.toNat;omega)];show _=(a.ZW.getD s (true,[])).2.getD x false;rw[Y' hs,Y' q1]
def ahu {b n:Nat}(hc:cap=none\/cap=some n)(hL:L.length=n)(hg:s.get b=some (.cells (Zz L) 3 false 0 0))(hb:b<s.next)(k:Nat) :
  ∃s1,PF 3 1 1 [.int .i64 (k:Int)] (.sl b 0 n cap 1) s=some (.sl s.next 0 (n+1) none 1,s1)/\s1.next=s.next+1/\s1.get s.next=some (.cells (Zz (L++[k])) 3 false 0 0)/\(∀j,j<s.next->j≠b->s1.get j=s.get j)/\(Fr s->Fr s1):=by
 rcases hc with rfl|rfl
 ·refine⟨_,yp hL hg k,rfl,?_,λj h1 h2=>?_,λhf=>(hf.put hb _).new _⟩
  ·rw[Z5,Z_,Of rfl]
  ·rw[Z5,Z_,O3 J,Z7,O3 h2.symm]
 ·refine⟨s.new (.cells (Zz (L++[k])) 3 false 0 0),?_,rfl,?_,λj h1 h2=>?_,λhf=>hf.new _⟩
  ·rw[Rs hg (by rw[Wd,hL,ap3]) J,JW]
  ·rw[Z5,Of rfl]
  ·rw[Z5,O3 J]
def Hj.WV {N:Nat}(h:Hj s N L v):Go.Am.WV v=L.length:=by
 rcases h with⟨rfl,rfl⟩|⟨b,rfl,h2,h3,h4⟩ <;> rfl
def Hj.app {N:Nat}(h:Hj s N L v)(hN:N<=s.next)(k:Nat) :
  ∃s1,PF 3 1 1 [.int .i64 (k:Int)] v s=some (.sl s.next 0 (L.length+1) none 1,s1)/\s1.next=s.next+1/\Hj s1 N (L++[k]) (.sl s.next 0 (L.length+1) none 1)/\(∀j,j<s.next->¬WN v j->s1.get j=s.get j)/\(Fr s->Fr s1):=by
 rcases h with⟨rfl,rfl⟩|⟨b,rfl,h2,h3,h4⟩
 ·refine⟨_,Vz _ _ _ _ _,rfl,.inr ⟨s.next,rfl,?_,hN,O0⟩,λj hj _=>by rw[Z5,O3 J],λhf=>hf.new _⟩;rw[Z5,Of rfl];rfl
 ·refine⟨_,yp rfl h2 k,rfl,.inr ⟨s.next,by simp,?_,hN,O0⟩,λj hj hb=>?_,λhf=>(hf.put h4 _).new _⟩
  ·rw[Z5,Z_,Of rfl]
  ·rw[X_] at hb;rw[Z5,Z_,O3 J,Z7,O3 hb]
noncomputable def XL (a:Zv)(u:Nat):Nat:=gt (Rc a) u
def JK (A:Fa)(q:Nat):(XR A q).length=A.m:=by simp[XR]
def acT (A:Fa)(q:Nat){x:Nat}(h:x<A.m):(XR A q)[x]'(by rw[JK];exact h)=A.nx q x:=by simp[XR]
def ajW {a:Zv}(ha:a.ok){q b m:Nat}(hq:q<a.next.length)(Hd:cap=none\/cap=some L.length)(uF:∀z∈L,z<a.next.length)(Ax:(L.map (XL a)).Nodup)(hbm:b≠m)
  (g3:e.get 3=.fz (Zz (Rc a)))(g4:e.get 4=.map m)(g5:e.get 5=.sl b 0 L.length cap 1)(g8:e.get 8=.ZQ)(xU:e.get 37=ZU a.next[q].1 (ints a.next[q].2))(fF:e.get 38=.int .i64 ((2^a.lines.toNat:Nat):Int))(g39:e.get 39=.int .i64 (0:Nat))
  (gm:s.get m=some (.map (PD (L.map (XL a)) 0) false))(gb:s.get b=some (.cells (Zz L) 3 false 0 0))(nb:b<s.next)(nm:m<s.next)(fr:Fr s)
  (hk:∀e' s' b' OA rv,(∀t:Nat,t<10->t≠5->t≠8->e'.get t=e.get t)->e'.get 5=.sl b' 0 (YW (XL a) (XR a.fa q) L).1.length OA 1->(OA=none\/OA=some (YW (XL a) (XR a.fa q) L).1.length)->(b'=b\/s.next<=b')->b'<s'.next ->
   s'.get b'=some (.cells (Zz (YW (XL a) (XR a.fa q) L).1) 3 false 0 0)->s'.get m=some (.map (PD ((YW (XL a) (XR a.fa q) L).1.map (XL a)) 0) false)->e'.get 8=rv->Hj s' s.next (YW (XL a) (XR a.fa q) L).2 rv->(∀j,WN rv j->j≠b') ->
   (∀j,j<s.next->j≠b->j≠m->s'.get j=s.get j)->s.next<=s'.next->Fr s'->ZC (goN U fin ks e' s')) :
  ZC (SJ U fin (.bk 2::ks) JV e s):=by
 have Pm:=ha.few;have hA:=ha.UU;have Hn:=ha.m16;have hTl:(XR a.fa q).length=2^a.lines.toNat:=JK a.fa q;obtain⟨_,_,_,Dp,_⟩:=U9 (κ:=XL a) (XR a.fa q) L Ax;have Dp:(YW (XL a) (XR a.fa q) L).2.length=2^a.lines.toNat:=by rw[Dp,hTl]
 generalize xh:(YW (XL a) (XR a.fa q) L).2=kf at *;generalize G0:(YW (XL a) (XR a.fa q) L).1=Lf at *;refine YT (σ:=Nat) (λx=>2^a.lines.toNat-x) (λx e' s'=>x<=2^a.lines.toNat/\(∀t:Nat,t<10\/12<t/\t<39->t≠5->t≠8->e'.get t=e.get t)/\e'.get 39=.int .i64 (x:Nat) /\
   (∀j,j<s.next->j≠b->j≠m->s'.get j=s.get j)/\s.next<=s'.next/\Fr s' /\
   ∃L' b' OA rv,YW (XL a) ((XR a.fa q).drop x) L'=(Lf,kf.drop x)/\(∀z∈L',z<a.next.length)/\(L'.map (XL a)).Nodup /\
    e'.get 5=.sl b' 0 L'.length OA 1/\(OA=none\/OA=some L'.length)/\(b'=b\/s.next<=b')/\b'<s'.next/\s'.get b'=some (.cells (Zz L') 3 false 0 0)/\s'.get m=some (.map (PD (L'.map (XL a)) 0) false) /\
    e'.get 8=rv/\Hj s' s.next (kf.take x) rv/\(∀j,WN rv j->j≠b')) 0 ?_
  ⟨apW _,λ_ _ _ _=>rfl,g39,λ_ _ _ _=>rfl,api _,fr,
   L,b,cap,.ZQ,by rw[aqy,aqy,<-G0,<-xh],uF,Ax,g5,Hd,.inl rfl,nb,gb,gm,g8,.inl ⟨rfl,rfl⟩,λj hj=>absurd hj (VB j)⟩
 rintro Lp x e' s' ⟨hx,hold,q39,hs,Vq,Wk,L',b',OA,rv,Oq,agv,agw,q5,xS,SG,nb',qb,qm,q8,hR,hRf⟩ IH;have q3:=(hold 3 J J J).trans g3;have q4:=(hold 4 J J J).trans g4;have fN:=(hold 37 J J J).trans xU;have q38:=(hold 38 J J J).trans fF;have apS:L'.length<=a.next.length:=Wj agw agv;by_cases hd:x<2^a.lines.toNat
 ·have hw:=ZI hd J;have hxm:x<(XR a.fa q).length:=J;have lt1:a.fa.nx q x<a.next.length:=hA.lt q x hq hd;have n1:=ha.mM hq hd;have o1:=BL (l:=Rc a) (i:=a.fa.nx q x) (by rw[Iz ha];exact lt1);have hTx:(XR a.fa q)[x]=a.fa.nx q x:=acT a.fa q hd;have hxk:x<kf.length:=J;rw[aea hxm,hTx,aea hxk,YW] at Oq;have o1:UJ 1 (.fz (Zz (Rc a))) (.int .i64 ((a.fa.nx q x:Nat):Int))=some (.fp [.int .i64 ((XL a (a.fa.nx q x):Nat):Int)] 0):=o1;generalize hc:a.fa.nx q x=c at *;have lk:=λ(S:St) (h:S.get m=some (.map (PD (L'.map (XL a)) 0) false))=>lx h (XL a c)
  have K_:kf.take (x+1)=kf.take x++[kf[x]]:=by rw[ap7 hxk]
  have hRl:(kf.take x).length=x:=by rw[aqO];omega
  have pJ:=hR.WV;rw[hRl] at pJ;have TV:(x+1)*8<=1099511627776:=J;have U5:x+1<=1099511627776:=J;have zo:(L'.length+1)*8<=1099511627776:=J;have hb4:L'.length+1<=1099511627776:=J;have hlm:(L'.map (XL a)).length=L'.length:=by simp
  have Jv:∀t:Nat,t<10\/12<t/\t<39->t≠5->t≠8->(5=t)=False/\(8=t)=False/\(10=t)=False/\(11=t)=False/\(12=t)=False/\∀k:Nat,39<=k->(k=t)=False:=λt h1 h2 h3=>⟨F_,F_,F_,F_,F_,λk hk=>F_⟩
  by_cases TD:WR (L'.map (XL a)) (XL a c)<L'.length
  ·rw[decide_eq_true TD] at Oq;simp only[cond_true] at Oq;have SX:YW (XL a) ((XR a.fa q).drop (x+1)) L'=(Lf,kf.drop (x+1)):=by
    have h1:=congrArg Prod.fst Oq;have h2:=congrArg Prod.snd Oq;simp only[List.cons.injEq] at h1 h2;exact Prod.ext h1 h2.2
   have hkx:kf[x]=WR (L'.map (XL a)) (XL a c):=by
    have h2:=congrArg Prod.snd Oq;simp only[List.cons.injEq] at h2;exact h2.1.symm
   rw[hlm,decide_eq_true TD] at lk;simp only[cond_true] at lk;rw[<-hkx] at lk;simp only[go_sem,JV,q3,q4,q8,fN,q38,q39,qm,Z9,hd,n1,o1,lk,ap3,Zx,Nat.reducePow,pJ,TV,U5];have R3:Hj (s'.new (.cells [.int .i64 ((kf[x]:Nat):Int)] 3 false 0 0)) s.next (kf.take x) rv:=hR.keep O0 λj h1 _ _=>by rw[Z5,O3 J]
   obtain⟨s4,d1,d2,d3,d4,d5⟩:=R3.app O0 kf[x];rw[Z'] at d1 d2 d3 d4;rw[hRl] at d1 d3;rw[d1];simp only[go_sem,q39,hw];have k4:∀j,j<s'.next->¬WN rv j->s4.get j=s'.get j:=λj h1 h2=>by rw[d4 j J h2,Z5,O3 J]
   have hrv:∀j,j<s.next->¬WN rv j:=λj hj h=>by have:=hR.lt h;omega
   refine IH (x+1) _ _ J ⟨J,λt h1 h2 h3=>?_,?_,λj h1 h2 h3=>by rw[k4 j J (hrv j h1),hs j h1 h2 h3],J,d5 (Wk.new _),L',b',OA,.sl (s'.next+1) 0 (x+1) none 1,SX,agv,agw,?_,xS,SG,J,(k4 b' nb' λh=>hRf b' h rfl).trans qb,(k4 m J (hrv m nm)).trans qm,?_,by rw[K_];exact d3,λj hj=>?_⟩
   ·obtain⟨n5,n8,o9,lO,o8,n39⟩:=Jv t h1 h2 h3;simp only[go_sem,n8,o9,lO,o8,n39];exact hold t h1 h2 h3
   ·simp only[go_sem]
   ·simp only[go_sem,q5]
   ·simp only[go_sem]
   ·rw[X_] at hj;omega
  ·have akQ:XL a c∉L'.map (XL a):=by rw[<-QW,hlm];exact TD
   rw[decide_eq_false TD] at Oq;simp only[cond_false] at Oq;have SX:YW (XL a) ((XR a.fa q).drop (x+1)) (L'++[c])=(Lf,kf.drop (x+1)):=by
    have h1:=congrArg Prod.fst Oq;have h2:=congrArg Prod.snd Oq;simp only[List.cons.injEq] at h1 h2;exact Prod.ext h1 h2.2
   have hkx:kf[x]=L'.length:=by
    have h2:=congrArg Prod.snd Oq;simp only[List.cons.injEq] at h2;exact h2.1.symm
   rw[hlm,decide_eq_false TD] at lk;simp only[cond_false] at lk;have up:=λ(S:St) (h:S.get m=some (.map (PD (L'.map (XL a)) 0) false))=>BM h akQ
   rw[hlm] at up;have apT:∀c:Option Nat,Go.Am.WV (.sl b' 0 L'.length c 1)=L'.length:=λ_=>rfl
   simp only[go_sem,JV,q3,q4,q5,fN,q38,q39,qm,Z9,hd,n1,o1,lk,up,ap3,Zx,Nat.reducePow,zo,hb4];obtain⟨s4,d1,d2,d3,d4,d5⟩:=ahu (b:=b') (L:=L') (s:=(s'.put m (.map (PD (L'.map (XL a)++[XL a c]) 0) false)).new (.cells [.int .i64 (c:Int)] 3 false 0 0)) xS rfl (by rw[Z5,Z_,O3 J,Z7,O3 J];exact qb) O0 c;simp only[Z',Z_] at d1 d2 d3 d4;rw[d1];simp only[go_sem,q8,ap3,Zx,Nat.reducePow,pJ,TV,U5];have k4:∀j,j<s'.next->j≠b'->j≠m->s4.get j=s'.get j:=λj h1 h2 h3=>by rw[d4 j J h2,Z5,Z_,O3 J,Z7,O3 h3.symm]
   have k4m:s4.get m=some (.map (PD (L'.map (XL a)++[XL a c]) 0) false):=by rw[d4 m J J,Z5,Z_,O3 J,Z7,Of rfl]
   have hrv:∀j,j<s.next->¬WN rv j:=λj hj h=>by have:=hR.lt h;omega
   have R3:Hj (s4.new (.cells [.int .i64 (L'.length:Int)] 3 false 0 0)) s.next (kf.take x) rv:=hR.keep O0 λj h1 h2 h3=>by
    rw[Z5,O3 J];exact k4 j h1 (hRf j h3) J
   obtain⟨s6,b1,b2,b3,b4,b5⟩:=R3.app O0 L'.length;rw[Z'] at b1 b2 b3 b4;rw[hRl] at b1 b3;rw[b1];simp only[go_sem,q39,hw];have k6:∀j,j<s4.next->¬WN rv j->s6.get j=s4.get j:=λj h1 h2=>by rw[b4 j J h2,Z5,O3 J]
   refine IH (x+1) _ _ J ⟨J,λt h1 h2 h3=>?_,?_,λj h1 h2 h3=>by rw[k6 j J (hrv j h1),k4 j J J h3,hs j h1 h2 h3],J,b5 ((d5 ((Wk.put J _).new _)).new _),L'++[c],s'.next+1,none,.sl (s4.next+1) 0 (x+1) none 1,SX,λz hz=>?_,?_,?_,.inl rfl,.inr J,J,(k6 _ J λh=>by have:=hR.lt h;omega).trans d3,?_,?_,by rw[K_,hkx];exact b3,λj hj=>?_⟩
   ·obtain⟨n5,n8,o9,lO,o8,n39⟩:=Jv t h1 h2 h3;simp only[go_sem,n5,n8,o9,lO,o8,n39];exact hold t h1 h2 h3
   ·simp only[go_sem]
   ·rcases aqm.1 hz with h|h
    ·exact agv z h
    ·rw[apY.1 h];exact lt1
   ·rw[aqf,List.nodup_append];refine⟨agw,by simp,λy hy z hz=>?_⟩;rw[aqe,List.map_nil,apY] at hz;rintro rfl;rw[hz] at hy;exact akQ hy
   ·simp only[go_sem,ann,aqh]
   ·rw[k6 m J (hrv m nm),k4m,aqf,aqe,List.map_nil]
   ·simp only[go_sem]
   ·rw[X_] at hj;omega
 ·have hxe:x=2^a.lines.toNat:=J;subst hxe;rw[List.drop_of_length_le J,List.drop_of_length_le J,YW] at Oq;obtain rfl:L'=Lf:=congrArg Prod.fst Oq;rw[List.take_of_length_le J] at hR;simp only[go_sem,JV,q38,q39,Z9,ap5];refine hk _ _ b' OA rv (λt h1 h2 h3=>?_) ?_ xS SG nb' qb qm ?_ hR hRf hs Vq Wk
  ·have ZB:∀k:Nat,39<=k->(k=t)=False:=λk hk=>F_
   simp only[go_sem,ZB];exact hold t (.inl h1) h2 h3
  ·simp only[go_sem,q5]
  ·simp only[go_sem,q8]
def qi {b n:Nat}(hL:cs.length=n)(hg:s.get b=some (.cells cs t false 0 0))(x:AV)(hx:Zu x=true) :
  PF t 1 1 [x] (.sl b 0 n none 1) s=some (.sl s.next 0 (n+1) none 1,(s.put b .gone).new (.cells (cs++[x]) t false 0 0)):=by
 rw[R_,hg,T9 J J (by simp[hx])]
def Xy {j k:Nat}{c c':List AV}{t t':TypeId}(h:s.get j=some (.cells c t false 0 0))(h':s.get k=some (.cells c' t' false 0 0))(ht:t≠t'):j≠k:=by
 rintro rfl;have:=h.symm.trans h'
 injection this with this
 injection this with _ e
 exact ht e
def ai9 {a:Zv}(ha:a.ok){q b i ob jr:Nat}{cN cF:List AV}{v w:AV}(hq:q<a.next.length)(hi:i<L.length)(hLi:gt L i=q)(hi9:i<=2^20)
  (g1:e.get 1=.ptr 8 0)(g5:e.get 5=.sl b 0 L.length cap 1)(g6:e.get 6=.ptr ob 0)(g7:e.get 7=.int .i64 (i:Int))(g8:e.get 8=.sl jr 0 (2^a.lines.toNat) none 1)
  (gs:s.get 8=some (.cells [.int .i64 a.lines,VI a,XD a] 42 false 0 0))(OD:s.get ob=some (.cells [.int .i64 a.lines,v,w] 42 false 0 0))(gb:s.get b=some (.cells (Zz L) 3 false 0 0))(h8:8<s.next)(uH:ob<s.next)(hb:b<s.next)(h8o:8≠ob)(h13:13<=s.next)
  (hv:ZD s 13 48 1 i cN v)(hw:ZD s 13 72 1 i cF w)(fr:Fr s)
  (hk:∀e' s' v' w' jc,(∀t:Nat,t<10->e'.get t=e.get t)->s'.get ob=some (.cells [.int .i64 a.lines,v',w'] 42 false 0 0)->ZD s' 13 48 1 (i+1) (cN++[.sl jr 0 (2^a.lines.toNat) none 1]) v'->ZD s' 13 72 1 (i+1) (cF++[.sl jc 0 (2^a.lines.toNat) none 1]) w' ->
   s'.get jc=some (.cells (Zt (Wh a.fa q)) 4 false 0 0)->s.next<=jc->jc<s'.next->(∀j,j<s.next->j≠ob->¬WN v j->¬WN w j->s'.get j=s.get j)->s.next<=s'.next->Fr s'->ZC (goN U fin ks e' s')) :
  ZC (go U fin ks (.raw rZ) e s):=by
 have Pm:=ha.few;rw[TT aeZ];have Ps:=fr.at;have Jv:∀t:Nat,t<10->(∀k:Nat,71<=k->(k=t)=False):=λt ht=>λk hk=>F_
 have Mc:∀j q,j<s.next->(j=s.next+q)=False:=λj q hj=>F_
 have Ju:∀j q,j<s.next->(s.next+q=j)=False:=λj q hj=>F_
 have tR:∀q,q≠0->(s.next+q=s.next)=False:=λq hq=>F_
 have tQ:∀q,q≠0->(s.next=s.next+q)=False:=λq hq=>F_
 have hq':q<a.ZW.length:=by rw[ha.fl];exact hq
 have Mw:(Wh a.fa q).length=2^a.lines.toNat:=PC a.fa q;have Hn:=ha.m16;have hmp:0<2^a.lines.toNat:=Nat.two_pow_pos _;have r2:=Uj (nl:=a.WG) hq';have TK:=r_ ha hq';have ZB:Wh a.fa q≠[]:=λe=>by rw[e,List.length_nil] at Mw;omega
 have ant:ZU a.ZW[q].1 (Zt a.ZW[q].2)=.fz (Zt (Wh a.fa q)):=by
  rw[TK]
  cases hh:Zt (Wh a.fa q) with
  |nil=>have:=congrArg List.length hh;rw[WE,Mw,List.length_nil] at this;omega
  |cons x l=>cases a.ZW[q].1 <;> rfl
 rw[ant] at r2;have qu:=amY (Wh a.fa q) ZB J;rw[Mw] at qu;have o1:=XY (l:=L) (i:=i) hi;rw[hLi] at o1;unfold VI XD at gs;have x1:(ob=8)=False:=eq_false (λe=>h8o e.symm);have x2:(8=ob)=False:=eq_false h8o;have TV:(i+1)*24<=1099511627776:=J;have U5:i+1<=1099511627776:=J;have ai_:b≠ob:=Xy gb OD Mo;have hb8:b≠8:=Xy gb gs Mo;have x3:(b=ob)=False:=eq_false ai_;have x4:(ob=b)=False:=eq_false ai_.symm;have key:∀(E:Env) (S:St),(∀t:Nat,t<10->E.get t=e.get t) ->
   S.get ob=some (.cells [.int .i64 a.lines,.sl (s.next+22) 0 (i+1) none 1,.sl (s.next+25) 0 (i+1) none 1] 42 false 0 0) ->
   S.get (s.next+22)=some (.cells (cN++[.sl jr 0 (2^a.lines.toNat) none 1]) 48 false 0 0)->S.get (s.next+25)=some (.cells (cF++[.sl (s.next+24) 0 (2^a.lines.toNat) none 1]) 72 false 0 0)->S.get (s.next+24)=some (.cells (Zt (Wh a.fa q)) 4 false 0 0) ->
   (∀j,j<s.next->j≠ob->¬WN v j->¬WN w j->S.get j=s.get j)->s.next+25<S.next->Fr S->cN.length=i->cF.length=i->ZC (goN U fin ks E S):=by
  intro E S k1 k2 k3 k4 k5 k6 k7 k8 k9 gW;exact hk E S (.sl (s.next+22) 0 (i+1) none 1) (.sl (s.next+25) 0 (i+1) none 1) (s.next+24) k1 k2 (.inr ⟨J,by simp[k9],s.next+22,J,J,rfl,k3⟩) (.inr ⟨J,by simp[gW],s.next+25,J,J,rfl,k4⟩) k5 J J k6 J k8
 rcases hv with⟨i0,rfl,rfl⟩|⟨i0,ng,bv,v1,v2,rfl,v4⟩
 ·rcases hw with⟨_,rfl,rfl⟩|⟨i1,_⟩
  ·subst i0;simp only[go_sem,g1,g5,g6,g7,g8,gs,OD,gb,hi,o1,r2,adk,qu,Vz,Zx,ap3,aqP,Nat.reducePow,ap4,ap2,Ps,h8,uH,hb,Ju,tR,tQ,TV,U5];refine key _ _ (λt ht=>?_) ?_ ?_ ?_ ?_ (λj h1 h2 _ _=>?_) ?_ ?_ rfl rfl
   ·have ZB:=Jv t ht;simp only[go_sem,ZB]
   ·simp only[go_sem]
   ·simp[go_sem,Mc,uH,ap2]
   ·simp[go_sem,Mc,uH,ap2]
   ·simp[go_sem,Mc,uH,ap2]
   ·have e0:∀q,(s.next+q=j)=False:=λq=>F_
    simp only[Z7,Z5,Z_,Z',Z6,ZR,ap2,Nat.reduceAdd,e0,eq_false h2.symm,if_false]
   ·simp only[Z_,Z',Z6];omega
   ·repeat first|exact fr|apply Fr.new|apply Fr.put|apply Fr.upto
    all_goals try simp only[Z_,Z',Z6]
    all_goals omega
  ·omega
 ·rcases hw with⟨i1,_⟩|⟨_,nc,bw,w1,w2,rfl,w4⟩
  ·omega
  ·rw[ap3] at ng nc;have n1:=Xy v4 w4 Mo;have n2:=Xy v4 OD Mo;have n3:=Xy w4 OD Mo;have n4:=Xy v4 gb Mo;have n5:=Xy w4 gb Mo;have n6:=Xy v4 gs Mo;have n7:=Xy w4 gs Mo;have y1:(bv=bw)=False:=eq_false n1;have y2:(bv=ob)=False:=eq_false n2;have y3:(bw=ob)=False:=eq_false n3;have y4:(bv=b)=False:=eq_false n4;have y5:(bw=b)=False:=eq_false n5;have y6:(bv=8)=False:=eq_false n6;have y7:(bw=8)=False:=eq_false n7;have y8:(ob=bv)=False:=eq_false n2.symm;have y9:(ob=bw)=False:=eq_false n3.symm;have y10:(bw=bv)=False:=eq_false n1.symm;have a1:=λ(S:St) (h:S.get bv=some (.cells cN 48 false 0 0))=>qi ng h (.sl jr 0 (2^a.lines.toNat) none 1) rfl
   have a2:=λ(S:St) (h:S.get bw=some (.cells cF 72 false 0 0))=>qi nc h (.sl (s.next+24) 0 (2^a.lines.toNat) none 1) rfl
   simp only[go_sem,g1,g5,g6,g7,g8,gs,OD,gb,hi,o1,r2,adk,qu,Zx,ap3,Nat.reducePow,ap4,ap2,Ps,h8,uH,hb,Mc,Ju,tR,tQ,TV,U5,v2,v4,w2,w4,y1,y2,y3,y4,y6,a1,a2];refine key _ _ (λt ht=>?_) ?_ ?_ ?_ ?_ (λj h1 h2 h3 h4=>?_) ?_ ?_ ng nc
   ·have ZB:=Jv t ht;simp only[go_sem,ZB]
   ·simp only[go_sem]
   ·simp[go_sem,Mc,uH,w2,ap2]
   ·simp[go_sem,Mc,uH,ap2]
   ·simp[go_sem,Mc,uH,w2,ap2]
   ·have e0:∀q,(s.next+q=j)=False:=λq=>F_
    rw[X_] at h3 h4;simp only[Z7,Z5,Z_,Z',Z6,ZR,ap2,Nat.reduceAdd,e0,eq_false h2.symm,eq_false h3,eq_false h4,if_false]
   ·simp only[Z_,Z',Z6];omega
   ·repeat first|exact fr|apply Fr.new|apply Fr.put|apply Fr.upto
    all_goals try simp only[Z_,Z',Z6]
    all_goals omega
def SC (s:St)(b:Nat)(t:TypeId)(c:AV)(l:List AV):Prop:=∃j cap,c=.sl j 0 l.length cap 1/\j<s.next/\j≠b/\13<=j/\s.get j=some (.cells l t false 0 0)
def SC.mono {s s':St}{b b':Nat}{c:AV}{l:List AV}(h:SC s b t c l)(hn:s.next<=s'.next)(hg:∀j,j<s.next->j≠b->13<=j->s.get j=some (.cells l t false 0 0)->j≠b'/\s'.get j=some (.cells l t false 0 0)):SC s' b' t c l:=by
 obtain⟨j,cap,h1,h2,h3,h4,h5⟩:=h;obtain⟨h6,h7⟩:=hg j h2 h3 h4 h5;exact⟨j,cap,h1,J,h6,h4,h7⟩
def SC.Ya {b d:Nat}{c:AV}{l:List AV}(h:SC s b t c l)(Dl:Ys U t=some false)(Vt:size U t=some 1)(Pq:l.all Zu=true)(hf:YS (Go.Am.Ya U s d) l=some l):Go.Am.Ya U s (d+1) c=some (.fz l):=by
 obtain⟨j,cap,rfl,_,_,_,h5⟩:=h;rw[Uw,h5,Xo,ap3,VA,Dl,Vt,U0,Of Pq,UK,hf,S9]
def ZD.KL {B:Nat}{i:Nat}(h:ZD s B t 1 i cs v){j:Nat}(hj:WN v j):B<=j/\j<s.next/\s.get j=some (.cells cs t false 0 0):=by
 rcases h with⟨_,rfl,_⟩|⟨_,_,b,h2,h3,rfl,h5⟩
 ·exact absurd hj (VB j)
 ·rw[X_] at hj;subst hj;exact⟨h2,h3,h5⟩
structure S_ (s:St)(b:Nat)(a:Zv)(cN cF:List AV)(v w:AV):Prop where
 v:ZD s 13 48 1 cN.length cN v
 w:ZD s 13 72 1 cF.length cF w
 ln:cN.length=(LG a.fa (XL a)).length
 lf:cF.length=(LG a.fa (XL a)).length
 bn:∀j (h:j<(LG a.fa (XL a)).length) (h':j<cN.length),SC s b 3 cN[j] (Zz (LG a.fa (XL a))[j].2)
 bf:∀j (h:j<(LG a.fa (XL a)).length) (h':j<cF.length),SC s b 4 cF[j] (Zt (Wh a.fa (LG a.fa (XL a))[j].1))
 h9:b≠9
def S_.keep {s S:St}{b:Nat}{a:Zv}{cN cF:List AV}{v w:AV}(h:S_ s b a cN cF v w)(hn:S.next=s.next)(hg:∀j,j≠9->S.get j=s.get j):S_ S b a cN cF v w :=
 ⟨h.v.So J λj c h _ h2=>by rw[hg j J];exact h,h.w.So J λj c h _ h2=>by rw[hg j J];exact h,h.ln,h.lf,
  λj h1 h'=>(h.bn j h1 h').mono J λk _ h2 h3 h5=>⟨h2,by rw[hg k J];exact h5⟩,λj h1 h'=>(h.bf j h1 h').mono J λk _ h2 h3 h5=>⟨h2,by rw[hg k J];exact h5⟩,h.h9⟩
def S_.na {b:Nat}{a:Zv}{cN cF:List AV}{v w:AV}(h:S_ s b a cN cF v w):cN.all Zu=true/\cF.all Zu=true:=by
 have h1:=h.ln;have h2:=h.lf;refine⟨?_,?_⟩
 ·rw[ap8];intro x hx;obtain⟨j,hj,rfl⟩:=aqd.1 hx;obtain⟨_,_,e,_⟩:=h.bn j J hj;rw[e];rfl
 ·rw[ap8];intro x hx;obtain⟨j,hj,rfl⟩:=aqd.1 hx;obtain⟨_,_,e,_⟩:=h.bf j J hj;rw[e];rfl
def S_.Ya {b:Nat}{a:Zv}{cN cF:List AV}{v w:AV}(h:S_ s b a cN cF v w)(d:Nat):Go.Am.Ya U s (d+3) v=some (ZU true ((LG a.fa (XL a)).map λx=>AV.fz (Zz x.2)))/\Go.Am.Ya U s (d+3) w=some (ZU true ((LG a.fa (XL a)).map λx=>AV.fz (Zt (Wh a.fa x.1)))) :=
 ⟨h.v.QV U qe qc h.na.1 (d:=d+2) (RM h.ln λj h1 h'=>(h.bn j h' h1).Ya AW AU (UR _) (TQ _ _ _)),h.w.QV U qa p_ h.na.2 (d:=d+2) (RM h.lf λj h1 h'=>(h.bf j h' h1).Ya m9 m8 (S4 _) (M5 _ _ _))⟩
def ajV {a:Zv}(ha:a.ok){e:Env}{s:St}(g1:e.get 1=.ptr 8 0)(g2:e.get 2=.ptr 9 0)(g3:e.get 3=.fz (Zz (Rc a)))(g4:e.get 4=.map 10)(g5:e.get 5=.sl 11 0 1 (some 1) 1)(g6:e.get 6=.ptr 12 0)(g7:e.get 7=.int .i64 (0:Nat))
  (gs:s.get 8=some (.cells [.int .i64 a.lines,VI a,XD a] 42 false 0 0))(g9:s.get 9=some (.cells [.int .i64 0,.ZQ,.ZQ] 42 false 0 0))(gm:s.get 10=some (.map (PD [XL a 0] 0) false))(gb:s.get 11=some (.cells (Zz [0]) 3 false 0 0))(OD:s.get 12=some (.cells [.int .i64 a.lines,.ZQ,.ZQ] 42 false 0 0))(nx:13<=s.next)(fr:Fr s){β:Type}{fin:Fl->β}{ks:List K}{ZC:β->Prop}
  (hk:∀e' s' v w b cN cF,e'.get 6=.ptr 12 0->e'.get 2=.ptr 9 0->s'.get 12=some (.cells [.int .i64 a.lines,v,w] 42 false 0 0)->s'.get 9=some (.cells [.int .i64 0,.ZQ,.ZQ] 42 false 0 0)->S_ s' b a cN cF v w->ZC (goN U fin ks e' s')) :
  ZC (SJ U fin (.bk 0::ks) GL e s):=by
 have Pm:=ha.few;have hA:=ha.UU;have Hn:=ha.m16;have hmp:0<2^a.lines.toNat:=Nat.two_pow_pos _;refine YT (σ:=Nat) (λi=>a.next.length-i) (λi e s=>e.get 1=.ptr 8 0/\e.get 2=.ptr 9 0/\e.get 3=.fz (Zz (Rc a))/\e.get 4=.map 10/\e.get 6=.ptr 12 0/\e.get 7=.int .i64 (i:Nat)/\s.get 8=some (.cells [.int .i64 a.lines,VI a,XD a] 42 false 0 0)/\s.get 9=some (.cells [.int .i64 0,.ZQ,.ZQ] 42 false 0 0)/\13<=s.next/\Fr s /\
   ∃(L:List Nat) (b:Nat) (cap:Option Nat) (acc:List (Nat×List Nat)) (cN cF:List AV) (v w:AV),e.get 5=.sl b 0 L.length cap 1/\(cap=none\/cap=some L.length)/\s.get b=some (.cells (Zz L) 3 false 0 0)/\b<s.next/\(b=11\/13<=b)/\(∀z∈L,z<a.next.length)/\(L.map (XL a)).Nodup/\s.get 10=some (.map (PD (L.map (XL a)) 0) false) /\
    s.get 12=some (.cells [.int .i64 a.lines,v,w] 42 false 0 0)/\ZD s 13 48 1 i cN v/\ZD s 13 72 1 i cF w/\acc.length=i/\cN.length=i/\cF.length=i /\
    (∀j (h:j<acc.length) (h':j<cN.length),SC s b 3 cN[j] (Zz acc[j].2))/\(∀j (h:j<acc.length) (h':j<cF.length),SC s b 4 cF[j] (Zt (Wh a.fa acc[j].1))) /\
    i<=L.length/\acc++Vs (XL a) (XR a.fa) (a.next.length+1-i) i L=LG a.fa (XL a)) 0 ?_
  ⟨g1,g2,g3,g4,g6,g7,gs,g9,nx,fr,[0],11,some 1,[],[],[],.ZQ,.ZQ,g5,.inr rfl,gb,J,.inl rfl,λz hz=>by rw[apY.1 hz];exact ha.pos,by simp,gm,OD,ZD.nil _ _ _ _,ZD.nil _ _ _ _,rfl,rfl,rfl,λj h=>by simp at h,λj h=>by simp at h,apW _,rfl⟩
 clear g1 g2 g3 g4 g5 g6 g7 gs g9 gb gm OD nx fr e s;rintro Lp i e s ⟨g1,g2,g3,g4,g6,g7,gs,g9,nx,fr,L,b,cap,acc,cN,cF,v,w,g5,Hd,gb,nb,hb,uF,Ax,gm,OD,hv,hw,Ho,ng,nc,hBN,hBF,hiL,Yf⟩ IH;have aps:L.length<=a.next.length:=Wj Ax uF;by_cases hd:i<L.length
 ·have Ql:=ZI hd J;have hq:L[i]<a.next.length:=uF _ (adm hd);have hLi:L[i]? = some L[i]:=aaa hd;have o1:=XY (l:=L) (i:=i) hd;rw[Sy hd] at o1;rw[show a.next.length+1-i=(a.next.length+1-(i+1))+1 by omega,Vs,hLi] at Yf;simp only at Yf;have TK:=Ul (nl:=a.Xb) hq;have hlen:=(ha.row _ hq).1;have hl:=ZN a.next[L[i]].1 (ints a.next[L[i]].2);rw[YB,hlen] at hl;generalize hqe:L[i]=q at *;have EG:=gs;unfold VI XD at EG;simp only[go_sem,GL,g1,g5,g7,EG,gb,o1,Z9,hd,TK,hl,ap3];refine ajW (ZC:=ZC) ha (L:=L) (q:=q) (b:=b) (m:=10) (cap:=cap) hq Hd uF Ax J ?_ ?_ ?_ ?_ ?_ ?_ ?_ gm gb O0 O0 (fr.upto J) ?_
  case refine_8 =>
   intro e2 s2 b2 ajX rv Ol p5 ajY U5 nb2 qb2 qm2 p8 hR hRf TB Dy OJ;simp only[Z6,ZR] at U5 hR TB Dy;obtain⟨nd2,ans,Di,Dp,_⟩:=U9 (κ:=XL a) (XR a.fa q) L Ax;have Dp:(YW (XL a) (XR a.fa q) L).2.length=2^a.lines.toNat:=by rw[Dp];exact JK a.fa q
   have lt2:∀z∈(YW (XL a) (XR a.fa q) L).1,z<a.next.length:=by
    have:=(RA (κ:=XL a) (ρ:=XL a) (Q:=λz=>z<a.next.length) (λ_ _ _ _=>Iff.rfl) (XR a.fa q) L (λy hy=>by
     obtain⟨x,hx,rfl⟩:=ap0.1 hy;exact hA.lt q x hq (aqg.1 hx)) uF).2
    exact this
   have hLf:=Di i hd;rw[hLi] at hLf;generalize apN:(YW (XL a) (XR a.fa q) L).1=Lf at *;generalize apO:(YW (XL a) (XR a.fa q) L).2=kf at *;have af6:i<Lf.length:=J;have oN:gt Lf i=q:=by
    rw[aaa af6] at hLf;rw[Sy af6];exact aqb hLf
   obtain⟨jr,rfl,hjr,jr1,jr2⟩:∃jr,rv=.sl jr 0 (2^a.lines.toNat) none 1/\s2.get jr=some (.cells (Zz kf) 3 false 0 0)/\s.next+10<=jr/\jr<s2.next:=by
    rcases hR with⟨_,h⟩|⟨j,h1,h2,h3,h4⟩
    ·rw[h,List.length_nil] at Dp;omega
    ·exact⟨j,by rw[h1,Dp],h2,h3,h4⟩
   have hjb:=hRf jr ((X_ _ _ _).2 rfl);have E2:∀t:Nat,t<10->t≠5->t≠8->e2.get t=e.get t:=λt h1 h5 h8=>by
    rw[Ol t h1 h5 h8];have ZB:∀k:Nat,10<=k->(k=t)=False:=λk hk=>F_
    have bE:(8=t)=False:=F_;simp only[go_sem,ZB,bE]
   have p1:=(E2 1 J J J).trans g1;have p2:=(E2 2 J J J).trans g2;have p3:=(E2 3 J J J).trans g3;have p4:=(E2 4 J J J).trans g4;have p6:=(E2 6 J J J).trans g6;have p7:=(E2 7 J J J).trans g7;have u8:=(TB 8 J J J).trans gs;have u9:=(TB 9 J J J).trans g9;have u12:=(TB 12 J J J).trans OD;have F7:ZD s2 13 48 1 i cN v:=hv.So J λj c h1 h2 h3=>by rw[TB j J (Xy h1 gb Mo) J];exact h1
   have LO:ZD s2 13 72 1 i cF w:=hw.So J λj c h1 h2 h3=>by rw[TB j J (Xy h1 gb Mo) J];exact h1
   have aoi:∀j (h:j<acc.length) (h':j<cN.length),SC s2 b2 3 cN[j] (Zz acc[j].2):=λj h h'=>(hBN j h h').mono J λk h1 h2 h3 h4=>⟨J,by rw[TB k J h2 J];exact h4⟩
   have aoj:∀j (h:j<acc.length) (h':j<cF.length),SC s2 b2 4 cF[j] (Zt (Wh a.fa acc[j].1)):=λj h h'=>(hBF j h h').mono J λk h1 h2 h3 h4=>⟨J,by rw[TB k J h2 J];exact h4⟩
   simp only[go_sem];refine ai9 (ZC:=ZC) ha (L:=Lf) (q:=q) (b:=b2) (i:=i) (ob:=12) (jr:=jr) (cap:=ajX) hq af6 oN J p1 p5 p6 p7 p8 u8 u12 qb2 J J nb2 J J F7 LO OJ ?_;intro e3 s3 v' w' jc CZ aok hv3 hw3 hjc jc1 jc2 fs3 ad3 tU;have qE:∀t:Nat,t<10->e3.get t=e2.get t:=CZ;have o7:=(CZ 7 J).trans p7;simp only[go_sem,o7,Ql];have nv:∀j c t,s2.get j=some (.cells c t false 0 0)->t≠48->¬WN v j:=λj c t h1 h2 h3=>h2 (by
    have:=F7.KL h3;by_cases e:t=48
    ·exact e
    ·exact absurd rfl (Xy h1 this.2.2 e))
   have nw:∀j c t,s2.get j=some (.cells c t false 0 0)->t≠72->¬WN w j:=λj c t h1 h2 h3=>h2 (by
    have:=LO.KL h3;by_cases e:t=72
    ·exact e
    ·exact absurd rfl (Xy h1 this.2.2 e))
   have pr:∀j c t,j<s2.next->j≠12->s2.get j=some (.cells c t false 0 0)->t≠48->t≠72->s3.get j=some (.cells c t false 0 0):=λj c t h1 h2 h3 h4 h5=>by
    rw[fs3 j h1 h2 (nv j c t h3 h4) (nw j c t h3 h5)];exact h3
   have aol:s3.get 10=s2.get 10:=fs3 10 J J (λh=>by have:=(F7.KL h).1;omega) λh=>by have:=(LO.KL h).1;omega
   have bj3:∀c l,SC s2 b2 3 c l->SC s3 b2 3 c l:=λc l h=>h.mono ad3 λk h1 h2 h3 h4=>⟨h2,pr k _ _ h1 J h4 Mo Mo⟩
   have bj4:∀c l,SC s2 b2 4 c l->SC s3 b2 4 c l:=λc l h=>h.mono ad3 λk h1 h2 h3 h4=>⟨h2,pr k _ _ h1 J h4 Mo Mo⟩
   have Mw:(Wh a.fa q).length=2^a.lines.toNat:=PC a.fa q;rw[List.append_cons] at Yf;refine IH (i+1) _ _ J ⟨?_,?_,?_,?_,?_,?_,pr _ _ _ J J u8 Mo Mo,pr _ _ _ J J u9 Mo Mo,J,tU,Lf,b2,ajX,acc++[(q,kf)],cN++[.sl jr 0 (2^a.lines.toNat) none 1],cF++[.sl jc 0 (2^a.lines.toNat) none 1],v',w',?_,ajY,pr _ _ _ nb2 J qb2 Mo Mo,J,J,lt2,nd2,aol.trans qm2,aok,hv3,hw3,by simp[Ho],by simp[ng],by simp[nc],λj h h'=>?_,λj h h'=>?_,J,Yf⟩
   case refine_8 =>
    by_cases hj:j<acc.length
    ·rw[aqX J,aqX hj];exact bj3 _ _ (aoi j hj J)
    ·have hj:j=acc.length:=by rw[ann,aqh] at h;omega
     subst hj;rw[aq2 J,aq2 J];simp only[List.getElem_singleton];exact bj3 _ _ ⟨jr,none,by rw[Wd,Dp],jr2,hjb,J,hjr⟩
   case refine_9 =>
    by_cases hj:j<acc.length
    ·rw[aqX J,aqX hj];exact bj4 _ _ (aoj j hj J)
    ·have hj:j=acc.length:=by rw[ann,aqh] at h;omega
     subst hj;rw[aq2 J,aq2 J];simp only[List.getElem_singleton];exact⟨jc,none,by rw[WE,Mw],jc2,J,J,hjc⟩
   all_goals simp only[go_sem,(CZ 1 J).trans p1,(CZ 2 J).trans p2,(CZ 3 J).trans p3,(CZ 4 J).trans p4,(CZ 5 J).trans p5,(CZ 6 J).trans p6]
  all_goals simp only[go_sem,g3,g4,g5]
  all_goals rfl
 ·have G5:i=L.length:=J;have RW:Vs (XL a) (XR a.fa) (a.next.length+1-i) i L=[]:=by
   rw[show a.next.length+1-i=(a.next.length-i)+1 by omega,Vs,aqA J]
  rw[RW,aqw] at Yf;have hle:decide ((i:Int)<(L.length:Int))=false:=by rw[Z9];simp;omega
  simp only[go_sem,GL,g5,g7,hle];have hv':ZD s 13 48 1 cN.length cN v:=by rw[ng];exact hv
  have Lb:ZD s 13 72 1 cF.length cF w:=by rw[nc];exact hw
  refine hk _ _ v w b cN cF ?_ ?_ OD g9 ⟨hv',Lb,by rw[<-Yf];omega,by rw[<-Yf];omega,?_,?_,J⟩
  ·simp only[go_sem,g6]
  ·simp only[go_sem,g2]
  ·rw[<-Yf];exact hBN
  ·rw[<-Yf];exact hBF
def af7 {a:Zv}(ha:a.ok):(LG a.fa (XL a)).map (λx=>AV.fz (Zz x.2))=(VJ a.fa).map (λx=>AV.fz (Zz x.2))/\(LG a.fa (XL a)).map (λx=>AV.fz (Zt (Wh a.fa x.1)))=(VJ a.fa).map (λx=>AV.fz (Zt (Wh a.fa x.1))):=by
 obtain⟨h1,h2⟩:=min_eq ha.UU (cl:=XL a) λu v hu hv=>cz ha hu hv
 rw[h1];simp only[aqY];refine⟨rfl,aqD λx hx=>?_⟩;show _=AV.fz (Zt (Wh a.fa (Zb a.fa x.1)))
 congr 2
 unfold Wh;refine aqD λy hy=>?_
 exact (Aw ha.UU (h2 x hx) (aqg.1 hy)).symm
def alS {a:Zv}(ha:a.ok):ZE U 63 [XW a]=some (XW (ZS a)):=by
 refine ZP am3 It (by simp[ZT,XC]) ?_;have h172:=anP ha;rw[YH] at h172 ⊢;have nn:=ZV a.Xb (a.next.map ZF);have nf:=ZV a.WG (a.ZW.map ZM);have cn:=ZK a.Xb (a.next.map ZF);have cf:=ZK a.WG (a.ZW.map ZM);have hA:=ha.UU;have o1:=BL (l:=Rc a) (i:=0) (by rw[Iz ha];exact ha.pos);have o1:UJ 1 (.fz (Zz (Rc a))) (.int .i64 0)=some (.fp [.int .i64 ((XL a 0:Nat):Int)] 0):=o1;have up:=λ(S:St) (h:S.get 10=some (.map [] false))=>BM (m:=10) (ks:=[]) h (k:=XL a 0) No
 have up:∀S:St,S.get 10=some (.map [] false)->VZ U 204 (.map 10) (.int .i64 ((XL a 0:Nat):Int)) (.int .i64 0) S=some (S.put 10 (.map (PD [XL a 0] 0) false)):=up;unfold VI XD at h172 ⊢;simp only[go_sem,aiY,h172,o1,up];refine ajV (ZC:=λ(o:Option AV)=>o=some (XW (ZS a))) ha ?_ ?_ ?_ ?_ ?_ ?_ ?_ ?_ ?_ ?_ ?_ ?_ ?_ ?_ ?_
 case refine_15 =>
  intro e' s' v w b cN cF p6 p2 u12 u9 MR;have nav:=MR.v.Zu;have naw:=MR.w.Zu;have hE:XW (ZS a)=.agg [.int .i64 a.lines,ZU true ((VJ a.fa).map λx=>AV.fz (Zz x.2)),ZU true ((VJ a.fa).map λx=>AV.fz (Zt (Wh a.fa x.1)))]:=by
   rw[YH,VI,XD,ZS];simp only[aqY];have e1:∀x:Nat×List Nat,(ZF∘λx:Nat×List Nat=>(false,Ur x.2)) x=AV.fz (Zz x.2):=λx=>by simp only[Function.comp,ZF,Ta];rfl
   have e2:∀x:Nat×List Nat,(ZM∘λx:Nat×List Nat=>(false,Wh a.fa x.1)) x=AV.fz (Zt (Wh a.fa x.1)):=λx=>by simp only[Function.comp,ZM,Ta]
   rw[aqD (λx _=>e1 x),aqD (λx _=>e2 x)]
  obtain⟨m1,m2⟩:=af7 ha;have MK:=λx=>MR.keep (S:=s'.put 9 x) (by rw[Z_]) λj hj=>by rw[Z7,O3 (λe=>hj e.symm)]
  have fv':=λx=>((MK x).Ya 36).1
  have fw':=λx=>((MK x).Ya 36).2
  rw[m1] at fv';rw[m2] at fw';rw[hE];simp only[go_sem,p6,p2,u12,u9,nav,naw,fv',fw']
 case refine_14 =>
  repeat first|exact Fr.own|apply Fr.new|apply Fr.put|apply Fr.upto
  all_goals simp only[go_sem]
 all_goals simp only[go_sem]
 all_goals rfl
end Go.Am
