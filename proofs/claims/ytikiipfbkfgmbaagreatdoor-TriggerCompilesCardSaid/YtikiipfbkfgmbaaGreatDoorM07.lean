/- A part of the proof of a statement of this seat: the machine on which the program is read, and what it computes; for every input. -/
import Derived.Test.YtikiipfbkfgmbaaGreatDoorM06
import Derived.Test.YtikiipfbkfgmbaaGreatDoorM04
set_option linter.all false
namespace Go.Am
open Go
variable [Z4]
set_option maxRecDepth 100000
set_option maxHeartbeats 8000000
def OF (A:Fa)(x c i:Nat):List Nat:=(List.range i).filter fun u=>A.nx u x==c
theorem DQ (A:Fa)(x c i:Nat):OF A x c (i+1)=if A.nx i x=c then OF A x c i++[i] else OF A x c i:=by
 unfold OF;rw[List.range_succ,List.filter_append];by_cases e:A.nx i x=c <;> simp[e]
theorem mA (A:Fa)(x c i:Nat):(OF A x c i).length<=i:=by
 unfold OF;have:=List.length_filter_le (fun u=>A.nx u x==c) (List.range i);rw[List.length_range] at this;exact this
def Cc (f:Nat->AV)(c:Nat)(v:AV)(k:Nat):AV:=if k=c then v else f k
theorem tB {f:Nat->AV}{n c:Nat}(h:c<n)(v:AV):lay c [v] ((List.range n).map f)=some ((List.range n).map (Cc f c v)):=by
 rw[NH _ _ _ (by simpa using h)]
 congr 1
 apply List.ext_getElem?;intro k;rw[List.getElem?_set];simp only[alV,agC,List.length_range];by_cases e:c=k
 ·subst e;rw[if_pos rfl,if_pos h,List.getElem?_range h];simp[Cc]
 ·rw[if_neg e];by_cases hk:k<n
  ·rw[List.getElem?_range hk];simp[Cc,Ne.symm e]
  ·rw[amm (by simp;omega)];rfl
theorem ad7 {β:Type}{fin:Fl->β}{ks:List K}{ZB:β->Prop}{a:Yi}(ha:a.ok){x B bX m:Nat}{Bc:List AV}{e:Env}{s:St}(hx:x<2^a.lines.toNat)
  (g4:Env.get e 4=.sl B 0 m (some m) 1)(g5:Env.get e 5=.int .i64 (x:Int))(g40:Env.get e 40=ZG a.TH (a.next.map Zn))(g41:Env.get e 41=.int .i64 a.next.length)(g42:Env.get e 42=.int .i64 (0:Nat))
  (hxm:x<m)(gB:s.get B=some (.cells Bc 66 false 0 0))(hBx:Bc[x]? = some (.sl bX 0 a.next.length (some a.next.length) 1))(gX:s.get bX=some (.cells ((List.range a.next.length).map fun _=>.ZW) 40 false 0 0))(ZC:B≠bX)(hB:B<s.next)(hX:bX<s.next)(fr:Fr s)
  (hk:∀e' s' vs,(∀t:Nat,t<6\/7<t/\t<40->Env.get e' t=Env.get e t)->s'.get bX=some (.cells ((List.range a.next.length).map vs) 40 false 0 0)->(∀c,c<a.next.length->HS s' s.next (OF a.fa x c a.next.length) (vs c)) ->
   (∀j,j<s.next->j≠bX->s'.get j=s.get j)->s.next<=s'.next->Fr s'->ZB (goN U fin ks e' s')) :
  ZB (SD U fin (.bk 2::ks) Li e s):=by
 have Si:=ha.few;refine YP (σ:=Nat) (fun i=>a.next.length-i) (fun i e' s'=>i<=a.next.length/\(∀t:Nat,t<6\/7<t/\t<42->Env.get e' t=Env.get e t)/\Env.get e' 42=.int .i64 (i:Nat)/\(∀j,j<s.next->j≠bX->s'.get j=s.get j)/\s.next<=s'.next/\Fr s' /\
   ∃vs:Nat->AV,s'.get bX=some (.cells ((List.range a.next.length).map vs) 40 false 0 0)/\(∀c,c<a.next.length->HS s' s.next (OF a.fa x c i) (vs c))/\∀c c' j,c≠c'->c<a.next.length->c'<a.next.length->Xb (vs c) j->¬Xb (vs c') j) 0 ?_
  ⟨aic _,fun _ _=>rfl,g42,fun _ _ _=>rfl,agB _,fr,fun _=>.ZW,gX,fun c _=>.inl ⟨rfl,rfl⟩,fun c c' j _ _ _ h=>absurd h (V' j)⟩
 rintro Lp i e' s' ⟨ra,hold,ay,hs,Vl,Xx,vs,qX,SI,ad8⟩ IH;have q4:=(hold 4 (by omega)).trans g4;have q5:=(hold 5 (by omega)).trans g5;have Bg:=(hold 40 (by omega)).trans g40;have fT:=(hold 41 (by omega)).trans g41;by_cases hd:i<a.next.length
 ·have Rm:=ZN hd (by omega);have M_:=Sf (nl:=a.TH) hd;have OL:=ha.mz hd hx;have hc:a.fa.nx i x<a.next.length:=ha.M9.lt i x hd hx;have gB':=(hs B hB ZC).trans gB;have o1:=NG vs hc;have hvc:=SI _ hc;have Hd:=mA a.fa x (a.fa.nx i x) i;have LQ:OF a.fa x (a.fa.nx i x) (i+1)=OF a.fa x (a.fa.nx i x) i++[i]:=by rw[DQ,if_pos rfl]
  have hbo:∀c,c≠a.fa.nx i x->OF a.fa x c (i+1)=OF a.fa x c i:=fun c h=>by rw[DQ,if_neg (fun e=>h e.symm)]
  generalize a.fa.nx i x=c at *;have OE:=fun v=>tB (f:=vs) hc v
  have hX':bX<s'.next:=by omega
  have hBn:B<s'.next:=by omega
  have Nc:=Xx.at;have M0:∀j q,j<s'.next->(j=s'.next+q)=False:=fun j q hj=>by simp;omega
  have Kl:∀j q,j<s'.next->(s'.next+q=j)=False:=fun j q hj=>by simp;omega
  have z1:(bX=B)=False:=eq_false ZC.symm;have z2:(B=bX)=False:=eq_false ZC;have key:∀(E:Env) (S:St),(∀t:Nat,t<6\/7<t/\t<42->Env.get E t=Env.get e' t)->Env.get E 42=.int .i64 ((i+1:Nat):Int) ->
    S.get bX=some (.cells ((List.range a.next.length).map (Cc vs c (.sl (s'.next+23) 0 ((OF a.fa x c i).length+1) none 1))) 40 false 0 0)->S.get (s'.next+23)=some (.cells (ZO (OF a.fa x c i++[i])) 3 false 0 0) ->
    (∀j,j<s'.next->j≠bX->¬Xb (vs c) j->S.get j=s'.get j)->s'.next+23<S.next->Fr S->ZB (SD U fin (.bk 2::ks) Lp E S):=by
   intro E S k1 k2 k3 k4 k5 k6 k7;refine IH (i+1) _ _ (by omega) ⟨by omega,fun t ht=>(k1 t ht).trans (hold t ht),k2,fun j h1 h2=>(k5 j (by omega) h2 fun h=>by have:=hvc.lt h;omega).trans (hs j h1 h2),by omega,k7,_,k3,fun d tR=>?_,fun d d' j h1 h2 h3 h4=>?_⟩
   ·unfold Cc;by_cases my:d=c
    ·subst my;rw[if_pos rfl,LQ];exact .inr ⟨s'.next+23,by simp,k4,by omega,k6⟩
    ·rw[if_neg my,hbo d my];exact (SI d tR).keep (by omega) fun j h1 h2 h3=>k5 j h1 (by omega) fun h4=>ad8 d c j my tR hc h3 h4
   ·unfold Cc at h4 ⊢;by_cases my:d=c
    ·have eE:d'≠c:=by omega
     rw[if_pos my,Yl] at h4;rw[if_neg eE];intro h5;have:=(SI d' h3).lt h5;omega
    ·rw[if_neg my] at h4;by_cases eE:d'=c
     ·rw[if_pos eE,Yl];have:=(SI d h2).lt h4;omega
     ·rw[if_neg eE];exact ad8 d d' j h1 h2 h3 h4
  have UP:((OF a.fa x c i).length+1)*8<=1099511627776:=by omega
  have VP:(OF a.fa x c i).length+1<=1099511627776:=by omega
  have tA:(0+1)*8<=1099511627776:=by omega
  have Ib:∀t:Nat,t<6\/7<t/\t<42->(6=t)=False/\(7=t)=False/\∀k:Nat,42<=k->(k=t)=False:=fun t ht=>⟨by simp;omega,by simp;omega,fun k hk=>by simp;omega⟩
  rcases hvc with⟨hv,hL⟩|⟨b,hv,hg,e1,e2⟩
  ·rw[hv] at o1 key;rw[hL] at key;simp only[go_sem,Li,q4,q5,Bg,fT,ay,Z8,hd,Rm,M_,OL,Uc mu,gB',hBx,qX,o1,hxm,hc,V_,ZH,ah1,amk,Nat.reducePow,ald,Nc,hX',hBn,Kl,tA,OE];refine key _ _ (fun t ht=>?_) ?_ ?_ ?_ (fun j h1 h2 h3=>?_) ?_ ?_
   ·obtain⟨n6,n7,n42⟩:=Ib t ht;simp only[go_sem,n6,n7,n42]
   ·simp only[go_sem]
   ·simp only[go_sem]
    try rfl
   ·simp[go_sem,M0,hX']
    try rfl
   ·have e0:∀q,(s'.next+q=j)=False:=fun q=>by simp;omega
    simp only[Z9,Z7,Z',Z6,ZT,e0,eq_false h2.symm,if_false]
   ·simp only[Z',Z_,Z6];omega
   ·repeat first|exact Xx|apply Fr.new|apply Fr.put|apply Fr.upto
    all_goals try simp only[Z',Z_,Z6]
    all_goals omega
  ·rw[hv] at o1 key;have a1:=fun (S:St) (h:S.get b=some (.cells (ZO (OF a.fa x c i)) 3 false 0 0))=>Ai rfl h i
   have z3:(bX=b)=False:=by simp;omega
   have z4:(b=bX)=False:=by simp;omega
   have z5:(b=B)=False:=by simp;omega
   have z6:(B=b)=False:=by simp;omega
   simp only[go_sem,Li,q4,q5,Bg,fT,ay,Z8,hd,Rm,M_,OL,Uc mu,gB',hBx,qX,o1,hxm,hc,hg,a1,ZH,ah1,Nat.reducePow,ald,Nc,hX',hBn,Kl,z4,z5,e2,UP,VP,OE];refine key _ _ (fun t ht=>?_) ?_ ?_ ?_ (fun j h1 h2 h3=>?_) ?_ ?_
   ·obtain⟨n6,n7,n42⟩:=Ib t ht;simp only[go_sem,n6,n7,n42]
   ·simp only[go_sem]
   ·simp only[go_sem]
   ·simp[go_sem,M0,hX']
   ·have e0:∀q,(s'.next+q=j)=False:=fun q=>by simp;omega
    rw[Yl] at h3;simp only[Z9,Z7,Z',Z6,ZT,e0,eq_false h2.symm,eq_false h3,if_false]
   ·simp only[Z',Z_,Z6];omega
   ·repeat first|exact Xx|apply Fr.new|apply Fr.put|apply Fr.upto
    all_goals try simp only[Z',Z_,Z6]
    all_goals omega
 ·have:i=a.next.length:=by omega
  subst this;simp only[go_sem,Li,fT,ay,Z8,alh];refine hk _ _ vs (fun t ht=>?_) qX SI hs Vl Xx;have ZC:∀k:Nat,42<=k->(k=t)=False:=fun k hk=>by simp;omega
  simp only[go_sem,ZC];exact hold t (by omega)
theorem oC {ex:Ex}{a:Nat}{e:Env}{s:St}{n:Nat}(h:Env.get e a=.int .i64 (n:Int))(hn:n<=2^20) :
  YI U ex e (.makeSlice 66 (.tmp a) (.tmp a)) s=some (.sl s.next 0 n (some n) 1,s.new (.cells ((List.range n).map fun _=>.ZW) 40 false 0 0)):=by
 have h40:U.Zd 66=some (.slice 40):=by kernel_rfl
 have hz:zero U 40=some .ZW:=by kernel_rfl
 have hi:(U.inf 40).map (fun i=>(i.bytes,i.size))=some (24,1):=by kernel_rfl
 have e1:((List.range n).map fun _=>AV.ZW)=List.replicate n .ZW:=by simp[List.map_const']
 cases hj:U.inf 40 with
 |none=>rw[hj] at hi;cases hi
 |some j =>
  rw[hj] at hi;simp only[amo,Option.some.injEq,Prod.mk.injEq] at hi;obtain⟨h1,h2⟩:=hi;rw[e1,<-VN];simp only[YI,eval,h,h40,hj,hz];rw[if_pos ⟨by omega,by omega,by rw[h1];omega,by omega,by rw[h2];rfl,by omega⟩,h2];rfl
theorem uO {ex:Ex}{a:Nat}{e:Env}{s:St}{n:Nat}(h:Env.get e a=.int .i64 (n:Int))(hn:n<=2^20) :
  YI U ex e (.makeSlice 283 (.tmp a) (.tmp a)) s=some (.sl s.next 0 n (some n) 1,s.new (.cells ((List.range n).map fun _=>.ZW) 66 false 0 0)):=by
 have h40:U.Zd 283=some (.slice 66):=by kernel_rfl
 have hz:zero U 66=some .ZW:=by kernel_rfl
 have hi:(U.inf 66).map (fun i=>(i.bytes,i.size))=some (24,1):=by kernel_rfl
 have e1:((List.range n).map fun _=>AV.ZW)=List.replicate n .ZW:=by simp[List.map_const']
 cases hj:U.inf 66 with
 |none=>rw[hj] at hi;cases hi
 |some j =>
  rw[hj] at hi;simp only[amo,Option.some.injEq,Prod.mk.injEq] at hi;obtain⟨h1,h2⟩:=hi;rw[e1,<-VN];simp only[YI,eval,h,h40,hj,hz];rw[if_pos ⟨by omega,by omega,by rw[h1];omega,by omega,by rw[h2];rfl,by omega⟩,h2];rfl
structure aX (s:St)(B m n:Nat)(bf:Nat->Nat->List Nat)(x:Nat)(bx:Nat->Nat)(vs:Nat->Nat->AV):Prop where
 g:s.get B=some (.cells ((List.range m).map fun y=>if y<x then .sl (bx y) 0 n (some n) 1 else .ZW) 66 false 0 0)
 row:∀y,y<x->s.get (bx y)=some (.cells ((List.range n).map (vs y)) 40 false 0 0)
 bl:∀y,y<x->∀c,c<n->HS s (B+1) (bf y c) (vs y c)
 hx:∀y,y<x->B<bx y/\bx y<s.next
theorem aX.full {s:St}{B m n:Nat}{bf:Nat->Nat->List Nat}{bx:Nat->Nat}{vs:Nat->Nat->AV}(h:aX s B m n bf m bx vs)(hB:B<s.next):AT s B m n bf B s.next bx vs:=by
 refine⟨?_,h.row,fun x hx c hc=>?_,⟨agB _,hB⟩,fun x hx=>⟨by have:=h.hx x hx;omega,(h.hx x hx).2⟩,fun x hx c hc j hj=>?_,agB _⟩
 ·rw[h.g]
  congr 2
  refine amc fun y hy=>?_
  rw[if_pos (al4.1 hy)]
 ·rcases h.bl x hx c hc with h1|⟨b,h1,h2,h3,h4⟩
  ·exact .inl h1
  ·exact .inr ⟨b,h1,h2,h4⟩
 ·have:=(h.bl x hx c hc).lt hj;omega
theorem afR {β:Type}{fin:Fl->β}{ks:List K}{ZB:β->Prop}{a:Yi}(ha:a.ok){B ab m:Nat}{e:Env}{s:St}(hm:m=2^a.lines.toNat)
  (g1:Env.get e 1=.ptr ab 0)(g4:Env.get e 4=.sl B 0 m (some m) 1)(g28:Env.get e 28=.int .i64 (m:Int))(g29:Env.get e 29=.int .i64 (0:Nat))
  (ga:s.get ab=some (.cells [.int .i64 a.lines,SV a,Vy a] 69 false 0 0))(gB:s.get B=some (.cells ((List.range m).map fun _=>.ZW) 66 false 0 0))(hab:ab<s.next)(ZC:ab≠B)(hB:B<s.next)(fr:Fr s)
  (hk:∀e' s' bx vs,(∀t:Nat,t<5->Env.get e' t=Env.get e t)->aX s' B m a.next.length (M5 a.fa) m bx vs ->
   (∀j,j<s.next->j≠B->s'.get j=s.get j)->s.next<=s'.next->Fr s'->ZB (goN U fin ks e' s')) :
  ZB (SD U fin (.bk 0::ks) Hz e s):=by
 have Si:=ha.few;have Nb:m<=2^16:=by
  have:=Ot a.lines (by have:=ha.lines;omega);have:=Ny a.lines;unfold RA at this;omega
 refine YP (σ:=Nat) (fun x=>m-x) (fun x e' s'=>x<=m/\(∀t:Nat,t<5\/7<t/\t<29->Env.get e' t=Env.get e t)/\Env.get e' 29=.int .i64 (x:Nat)/\(∀j,j<s.next->j≠B->s'.get j=s.get j)/\s.next<=s'.next/\Fr s' /\
   ∃bx vs,aX s' B m a.next.length (M5 a.fa) x bx vs) 0 ?_
  ⟨aic _,fun _ _=>rfl,g29,fun _ _ _=>rfl,agB _,fr,fun _=>0,fun _ _=>.ZW,⟨by rw[gB];simp,fun y hy=>by omega,fun y hy=>by omega,fun y hy=>by omega⟩⟩
 rintro Lp x e' s' ⟨gg,hold,q29,hs,Vl,Xx,bx,vs,X⟩ IH;have q1:=(hold 1 (by omega)).trans g1;have q4:=(hold 4 (by omega)).trans g4;have q28:=(hold 28 (by omega)).trans g28;by_cases hd:x<m
 ·have Rm:=ZN hd (by omega);have ga':=(hs ab hab ZC).trans ga;have hl:=ZI a.TH (a.next.map Zn);rw[agC] at hl;have mk:=fun (ex:Ex) (t:Nat) (e:Env) (S:St) (h:Env.get e t=.int .i64 (a.next.length:Int))=>oC (ex:=ex) (s:=S) h (by omega)
  have OE:=tB (f:=fun y=>if y<x then .sl (bx y) 0 a.next.length (some a.next.length) 1 else .ZW) hd (.sl s'.next 0 a.next.length (some a.next.length) 1);have z1:(s'.next=B)=False:=by simp;omega
  have z2:(B=ab)=False:=by simp;omega
  have z3:(s'.next=ab)=False:=by simp;omega
  have hBn:B<s'.next:=by omega
  have XB:=X.g;unfold SV Vy at ga';simp only[go_sem,Hz,q1,q4,q28,q29,Z8,hd,ga',hl,↓mk,XB,OE,ah1,z1,z2,z3];refine ad7 ha (x:=x) (B:=B) (bX:=s'.next) (m:=m) (Bc:=(List.range m).map (Cc (fun y=>if y<x then .sl (bx y) 0 a.next.length (some a.next.length) 1 else .ZW) x (.sl s'.next 0 a.next.length (some a.next.length) 1))) (by omega) ?_ ?_ ?_ ?_ ?_ hd ?_ ?_ ?_ (by omega) (by simp only[Z',Z_];omega) (by simp only[Z',Z_];omega) ?_ ?_
  case refine_10 =>
   intro e2 s2 vx QF h2X hvx S4 OL O1;simp only[Z',Z_] at S4 OL hvx;have p29:Env.get e2 29=.int .i64 (x:Nat):=by rw[QF 29 (by omega)];simp only[go_sem,q29]
   have old:∀j,j<s'.next->j≠B->s2.get j=s'.get j:=fun j h1 h2=>by
    rw[S4 j (by omega) (by omega),Z9,if_neg h2.symm,Z7,if_neg (by omega)]
   simp only[go_sem,p29,Rm];refine IH (x+1) _ _ (by omega) ⟨by omega,fun t ht=>?_,?_,fun j h1 h2=>by rw[old j (by omega) h2,hs j h1 h2],by omega,O1,fun y=>if y=x then s'.next else bx y,fun y=>if y=x then vx else vs y,⟨?_,fun y hy=>?_,fun y hy c hc=>?_,fun y hy=>?_⟩⟩
   ·have ZC:∀k:Nat,29<=k->(k=t)=False:=fun k hk=>by simp;omega
    have acZ:(5=t)=False:=by simp;omega
    simp only[go_sem,ZC];rw[QF t (by omega)];simp only[go_sem,ZC,acZ];exact hold t ht
   ·simp only[go_sem]
   ·rw[S4 B (by omega) (by omega),Z9,if_pos rfl]
    congr 2
    refine amc fun y hy=>?_
    unfold Cc;by_cases e:y=x
    ·rw[if_pos e,if_pos (by omega),if_pos e]
    ·rw[if_neg e,if_neg e];show (if y<x then _ else _)=_;by_cases e2:y<x
     ·rw[if_pos e2,if_pos (by omega)]
     ·rw[if_neg e2,if_neg (by omega)]
   ·by_cases e:y=x
    ·simp only[e,if_true];exact h2X
    ·simp only[e,if_false];have hb:=X.hx y (by omega);rw[old _ hb.2 (by omega)];exact X.row y (by omega)
   ·by_cases e:y=x
    ·simp only[e,if_true];rcases hvx c hc with h1|⟨b,h1,h2,h3,h4⟩
     ·exact .inl h1
     ·exact .inr ⟨b,h1,h2,by omega,h4⟩
    ·simp only[e,if_false];have hb:=X.bl y (by omega) c hc;exact hb.keep (by omega) fun j h1 h2 h3=>old j h1 (by omega)
   ·by_cases e:y=x
    ·simp only[e,if_true];omega
    ·simp only[e,if_false];have:=X.hx y (by omega);omega
  case refine_9=>exact (Xx.new _).put (by rw[Z_];omega) _
  case refine_8=>rw[Z9,if_neg (by omega),Z7,if_pos rfl]
  case refine_7 =>
   rw[NG _ hd];unfold Cc;rw[if_pos rfl]
  case refine_6=>rw[Z9,if_pos rfl]
  all_goals simp only[go_sem,q4]
  all_goals rfl
 ·have:x=m:=by omega
  subst this;simp only[go_sem,Hz,q28,q29,Z8,alh];refine hk _ _ bx vs (fun t ht=>?_) X hs Vl Xx;have ZC:∀k:Nat,29<=k->(k=t)=False:=fun k hk=>by simp;omega
  simp only[go_sem,ZC];exact hold t (by omega)
theorem afS {β:Type}{fin:Fl->β}{ks:List K}{ZB:β->Prop}{n:Nat}{e:Env}{s:St}(hn:n<=2^20)(g8:Env.get e 8=.ZW)(g75:Env.get e 75=.int .i64 (n:Int))(g76:Env.get e 76=.int .i64 (0:Nat))(fr:Fr s)
  (hk:∀e' s' wv,(∀t:Nat,t<8->Env.get e' t=Env.get e t)->Env.get e' 8=wv->NP s' s.next (List.range n) wv->(∀j,j<s.next->s'.get j=s.get j)->s.next<=s'.next->Fr s'->ZB (goN U fin ks e' s')) :
  ZB (SD U fin (.bk 4::ks) Hy e s):=by
 refine YP (σ:=Nat) (fun i=>n-i) (fun i e' s'=>i<=n/\(∀t:Nat,t<8\/9<t/\t<76->Env.get e' t=Env.get e t)/\Env.get e' 76=.int .i64 (i:Nat)/\(∀j,j<s.next->s'.get j=s.get j)/\s.next<=s'.next/\Fr s' /\
   ∃wv,Env.get e' 8=wv/\NP s' s.next (List.range i) wv) 0 ?_
  ⟨aic _,fun _ _=>rfl,g76,fun _ _=>rfl,agB _,fr,.ZW,g8,.inl ⟨rfl,rfl⟩⟩
 rintro Lp i e' s' ⟨ra,hold,q76,hs,Vl,Xx,wv,q8,hW⟩ IH;have q75:=(hold 75 (by omega)).trans g75;by_cases hd:i<n
 ·have Rm:=ZN hd (by omega);have fS:=hW.Xj;rw[List.length_range] at fS;have tA:(i+1)*8<=1099511627776:=by omega
  have nZ:i+1<=1099511627776:=by omega
  simp only[go_sem,Hy,q8,q75,q76,Z8,hd,ah1,ZH,Nat.reducePow,fS,tA,nZ];have W3:NP (s'.new (.cells [.int .i64 (i:Int)] 3 false 0 0)) s.next (List.range i) wv:=hW.keep (by rw[Z_];omega) fun j h1 _ _=>by rw[Z7,if_neg (by omega)]
  obtain⟨s4,d1,d2,d3,d4,d5⟩:=W3.app (by rw[Z_];omega) i;rw[Z_] at d1 d2 d3 d4;rw[d1];simp only[go_sem,q76,Rm];refine IH (i+1) _ _ (by omega) ⟨by omega,fun t ht=>?_,?_,fun j hj=>?_,by omega,d5 (Xx.new _),_,?_,by rw[List.range_succ];exact d3⟩
  ·have ZC:∀k:Nat,76<=k->(k=t)=False:=fun k hk=>by simp;omega
   have uC:(8=t)=False:=by simp;omega
   have akI:(9=t)=False:=by simp;omega
   simp only[go_sem,ZC,uC,akI];exact hold t ht
  ·simp only[go_sem]
  ·rw[d4 j (by omega) (fun h=>by have:=hW.lt h;omega),Z7,if_neg (by omega)];exact hs j hj
  ·simp only[go_sem]
 ·have:i=n:=by omega
  subst this;simp only[go_sem,Hy,q75,q76,Z8,alh];refine hk _ _ wv (fun t ht=>?_) ?_ hW hs Vl Xx
  ·have ZC:∀k:Nat,76<=k->(k=t)=False:=fun k hk=>by simp;omega
   simp only[go_sem,ZC];exact hold t (by omega)
  ·simp only[go_sem,q8]
noncomputable def Rs (a:Yi):List Nat :=
 (Hh (M5 a.fa) a.fa.m (2*(a.fa.n-(Wi (Zg a) a.fa.n).bg.length)+(Wi (Zg a) a.fa.n).bg.length) (Wi (Zg a) a.fa.n) (List.range (Wi (Zg a) a.fa.n).bg.length)).set
theorem si {a:Yi}(ha:a.ok){u v:Nat}(hu:u<a.fa.n)(hv:v<a.fa.n):Zg a u=Zg a v<->∀x,x<a.fa.m->a.fa.fr u x=a.fa.fr v x:=by
 have A8:u<a.ZD.length:=by rw[ha.fl];exact hu
 have ck:v<a.ZD.length:=by rw[ha.fl];exact hv
 have h1:=ha.XF u A8;have h2:=ha.XF v ck;have e1:∀s x,a.fa.fr s x=(a.ZD.getD s (true,[])).2.getD x false:=fun _ _=>rfl
 unfold Zg;simp only[e1];rw[XK A8,XK ck]
 constructor
 ·intro h x _;rw[FU (by omega) h]
 ·intro h
  congr 1
  refine List.ext_getElem (by omega) fun x q1 q2=>?_
  have:=h x (by show x<2^a.lines.toNat;omega);rw[XK q1,XK q2] at this;exact this
theorem Dg {a:Yi}(ha:a.ok):ft a.fa (Wi (Zg a) a.fa.n) (List.range (Wi (Zg a) a.fa.n).bg.length):=yC fun u v hu hv=>si ha hu hv
theorem Jy {a:Yi}(ha:a.ok):(Rs a).length=a.fa.n:=by
 have h:=CK ha.M9 (fun y _ c _ u=>KG a.fa y c u) _ (Dg ha) (agB _);rw[List.length_range] at h;exact h.wf.ls
theorem jg {a:Yi}(ha:a.ok){u v:Nat}(hu:u<a.fa.n)(hv:v<a.fa.n):gt (Rs a) u=gt (Rs a) v<->YM a.fa u=YM a.fa v :=
 acx ha.M9 (fun u v hu hv=>si ha hu hv) hu hv
theorem ajF {a:Yi}(ha:a.ok):ZE U 172 [Wd a]=some (.fz (ZO (Rs a))):=by
 refine ZR ajg (by kernel_rfl) (by simp[ZU,VJ]) ?_;have Si:=ha.few;have Nb:2^a.lines.toNat<=2^8:=Nat.pow_le_pow_right (by omega) (by have:=ha.lines;omega);have nn:=ZL a.TH (a.next.map Zn);have nf:=ZL a.S6 (a.ZD.map Zv);have cn:=Zu a.TH (a.next.map Zn);have cf:=Zu a.S6 (a.ZD.map Zv);have QC:=Tq U 3 true .i64 (n:=a.lines) (show 0<=a.lines/\a.lines<=16 by have:=ha.lines;omega);have afQ:(2^a.lines.toNat:Int)=((2^a.lines.toNat:Nat):Int):=by simp
 rw[afQ] at QC;have mk:=fun (ex:Ex) (t:Nat) (e:Env) (S:St) (h:Env.get e t=.int .i64 ((2^a.lines.toNat:Nat):Int))=>uO (ex:=ex) (s:=S) h (by omega)
 obtain⟨s1,pb,bl,bp,bs,bb,be,bm,h1,P,l1,l2,l3,l4,l5,l6,l7,gq,mg,QK⟩:=ajj ha (s:=(X8 U).new (.cells [.int .i64 a.lines,SV a,Vy a] 69 false 0 0)) (Fr.own.new _);have P:LI s1 pb a.fa.n bl bp bs bb be bm (Wi (Zg a) a.fa.n):=P;rw[WJ] at h1 ⊢;unfold SV Vy at *;have ho:(X8 U).next=8:=rfl;simp only[Z_,ho] at l1 l2 l3 l4 l5 l6 l7 gq QK;have g8:s1.get 8=some (.cells [.int .i64 a.lines,ZG a.TH (a.next.map Zn),ZG a.S6 (a.ZD.map Zv)] 69 false 0 0):=by
  rw[QK 8 (by omega),Z7,ho,if_pos rfl]
 simp only[go_sem,afu,aey,h1,g8,QC,↓mk];have OG:RA a.lines=((2^a.lines.toNat:Nat):Int):=Ny a.lines;have hH:=Dg ha;have PY:=hH.wf.few;have alp:=P.fZ;refine afR (ZB:=fun r:Option AV=>r=some (AV.fz (ZO (Rs a)))) ha (B:=s1.next) (ab:=8) (m:=2^a.lines.toNat) rfl ?_ ?_ ?_ ?_ ?_ ?_ ?_ ?_ ?_ (mg.new _) ?_
 case refine_10 =>
  intro e2 s2 bx vs QF X S4 rD O1;rw[Z_] at S4 rD;have p3:Env.get e2 3=.ptr pb 0:=by rw[QF 3 (by omega)];simp only[go_sem]
  have p4:Env.get e2 4=.sl s1.next 0 (2^a.lines.toNat) (some (2^a.lines.toNat)) 1:=by rw[QF 4 (by omega)];simp only[go_sem]
  have BI:=X.full (by omega);have P2:=P.mono (s':=s2) (by omega) fun j hj=>by
   have:=P.lt j hj;rw[S4 j (by omega) (by omega),Z7,if_neg (by omega)]
  have fj:∀j,Ou s1.next s2.next j\/Xk pb bl bp bs bb be bm j:=fun j=>by unfold Ou Xk;omega
  simp only[go_sem,p3,P2.g];refine afS (ZB:=fun r:Option AV=>r=some (AV.fz (ZO (Rs a)))) (n:=(Wi (Zg a) a.next.length).bg.length) (by have:(Wi (Zg a) a.next.length).bg.length<=a.next.length:=PY;omega) ?_ ?_ ?_ O1 ?_
  case refine_4 =>
   intro e3 s3 wv Eg h3w W xm fg rC;have p3':Env.get e3 3=.ptr pb 0:=by rw[Eg 3 (by omega)];simp only[go_sem,p3]
   have p4':Env.get e3 4=.sl s1.next 0 (2^a.lines.toNat) (some (2^a.lines.toNat)) 1:=by rw[Eg 4 (by omega)];simp only[go_sem,p4]
   simp only[go_sem];refine afT (ZB:=fun r:Option AV=>r=some (AV.fz (ZO (Rs a)))) (A:=a.fa) ha.M9 (N:=s2.next) (B:=s1.next) (lo:=s1.next) (hi:=s2.next) (bx:=bx) (vs:=vs) (F:=2*(a.fa.n-(Wi (Zg a) a.fa.n).bg.length)+(Wi (Zg a) a.fa.n).bg.length) (wv:=wv) Si Nb (P2.mono fg fun j hj=>xm j (P2.lt j hj)) hH ?_ ?_ p3' p4' h3w W (fun j hj=>?_) fg (BI.keep fg fun j h1 h2=>xm j (by omega)) fj rC ?_
   ·have:a.fa.n<=512:=Si;omega
   ·rw[List.length_range];exact agB _
   ·have:=W.lt hj;unfold Xk Ou;omega
   ·intro e4 s4 cb ce cm q3 P4;have LP:(Hh (M5 a.fa) a.fa.m (2*(a.fa.n-(Wi (Zg a) a.fa.n).bg.length)+(Wi (Zg a) a.fa.n).bg.length) (Wi (Zg a) a.fa.n) (List.range (Wi (Zg a) a.fa.n).bg.length)).set.length=a.fa.n:=Jy ha;have hz:=Nm (d:=38) (cap:=some a.fa.n) LP P4.gs;have P4g:=P4.g;rw[LP] at P4g;simp only[go_sem,q3,P4g];rw[VD] at hz;exact hz
  all_goals simp only[go_sem]
  all_goals rfl
 case refine_9=>rw[Z_];omega
 case refine_8=>omega
 case refine_7=>rw[Z_];omega
 case refine_6=>rw[Z7,if_pos rfl]
 case refine_5=>rw[Z7,if_neg (by omega),g8];rfl
 all_goals simp only[go_sem]
 all_goals rfl
def Qb:List Nat->Nat->List (AV×AV)
 |[],_=>[]
 |k::ks,i=>(.int .i64 (k:Int),.int .i64 (i:Int))::Qb ks (i+1)
theorem kE (a b:Nat):VQ (.int .i64 (a:Int)) (.int .i64 (b:Int))=some (b==a):=by
 simp only[VQ,if_true]
 congr 1
 rw[amj];simp only[beq_iff_eq];omega
theorem F4 (k:Nat):∀(ks:List Nat) (i:Nat),UM (.int .i64 (k:Int)) (Qb ks i)=some (bif decide (Xq ks k<ks.length) then some (.int .i64 ((i+Xq ks k:Nat):Int)) else none)
 |[],i=>rfl
 |x::l,i=>by
  rw[Qb,UM,kE,Xq]
  cases h:x==k with
  |true=>simp
  |false =>
   simp only[cond_false,akd];rw[F4 k l (i+1)];have e:decide (Xq l k+1<l.length+1)=decide (Xq l k<l.length):=by congr 1;apply propext;omega
   rw[e]
   congr 2
   rw[show i+1+Xq l k=i+(Xq l k+1) by omega]
theorem Dl (k:Nat):∀(ks:List Nat) (i:Nat),k∉ks->Ir (.int .i64 (k:Int)) (.int .i64 ((i+ks.length:Nat):Int)) (Qb ks i)=some (Qb (ks++[k]) i)
 |[],i,_=>rfl
 |x::l,i,h=>by
  rw[alL,not_or] at h;have ZC:(x==k)=false:=by simpa using fun e=>h.1 (Eq.symm e)
  have ih:=Dl k l (i+1) h.2;rw[show i+1+l.length=i+(x::l).length by rw[akd];omega] at ih;rw[Qb,Ir,kE,ZC,alU,Qb];simp only[ih]
theorem qd {s:St}{m:Nat}{ks:List Nat}(h:s.get m=some (.map (Qb ks 0) false))(k:Nat):VK U 249 (.map m) (.int .i64 (k:Int)) true s=some (bif decide (Xq ks k<ks.length) then .XU [.int .i64 ((Xq ks k:Nat):Int),.bool true] else .XU [.int .i64 0,.bool false]):=by
 have hu:U.Zd 249=some (.map 3 3):=by kernel_rfl
 have h3:U.Zd 3=some (.int .i64):=by kernel_rfl
 have hz:zero U 3=some (.int .i64 0):=by kernel_rfl
 unfold VK;rw[hu];simp only[Uq,h3,decide_true,if_true,h,F4,ald]
 cases decide (Xq ks k<ks.length) with
 |true=>rfl
 |false=>simp only[cond_false,hz]
theorem Dk {s:St}{m:Nat}{ks:List Nat}(h:s.get m=some (.map (Qb ks 0) false)){k:Nat}(hk:k∉ks):UX U 249 (.map m) (.int .i64 (k:Int)) (.int .i64 ((ks.length:Nat):Int)) s=some (s.put m (.map (Qb (ks++[k]) 0) false)):=by
 have hu:U.Zd 249=some (.map 3 3):=by kernel_rfl
 have h3:U.Zd 3=some (.int .i64):=by kernel_rfl
 have:=Dl k ks 0 hk;rw[ald] at this;unfold UX;rw[hu];simp only[Uq,h3,decide_true,if_true,h,this]
theorem aan (args:List AV)(s:St):X6 U (ZE U 173 args) 173 args s=Rl U 173 args s:=(XI U 173 args s).symm
theorem afm (l:List AV):Wg U .eql 43 true (.fz l) .ZW=some (.bool false):=by
 have h:U.Zd 43=some (.slice 4):=by kernel_rfl
 simp only[Wg,IY,Au,h]
theorem BJ (l:List Bool)(s:St):Wc 1 (.fz (ZM l)) s=some (l.length,ZM l):=by
 have h1:(ZM l).all (fun x=>x.cells.length==1)=true:=by
  induction l with
  |nil=>rfl
  |cons t ts ih=>rw[ZM,alT,List.all_cons];exact ih
 have h2:(ZM l).flatMap AV.cells=ZM l:=by
  clear h1
  induction l with
  |nil=>rfl
  |cons t ts ih=>rw[ZM,alT,al7];show AV.cells (.bool t)++(ZM ts).flatMap AV.cells=_;rw[ih];rfl
 simp only[Wc,h1,h2,WX];rfl
theorem ai3 (l:List Bool)(h0:l≠[])(hl:l.length<=2^20)(s:St):Rl U 173 [.fz (ZM l)] s=some (.sl (s.next+1) 0 l.length none 1,(s.new (.cells [] 4 false 0 0)).new (.cells (ZM l) 4 false 0 0)):=by
 refine VE ai4 (by kernel_rfl) ?_;have Aq:0<l.length:=List.length_pos_iff.2 h0;have hap:∀S:St,S.get s.next=some (.cells [] 4 false 0 0)->B7 4 1 1 (.sl s.next 0 0 (some 0) 1) (some (l.length,ZM l)) S=some (.sl S.next 0 (0+l.length) none 1,S.new (.cells ([]++ZM l) 4 false 0 0)):=fun S h=>by
  rw[ZH (by rw[WX,ah1]) (by simp only[Np];omega) (by simp only[Np];omega) (by omega),T1 h rfl (by omega)]
 simp only[go_sem,afn,afm,BJ,hap,ald]
theorem vw {a:Yi}(ha:a.ok){s:Nat}(hs:s<a.ZD.length):a.ZD[s].2=XF a.fa s:=by
 have h1:=ha.XF s hs;refine List.ext_getElem (by rw[h1,S9];rfl) fun x q1 q2=>?_
 rw[BH a.fa s (by show x<2^a.lines.toNat;omega)];show _=(a.ZD.getD s (true,[])).2.getD x false;rw[XK hs,XK q1]
theorem ai5 {s:St}{b n:Nat}{cap:Option Nat}{L:List Nat}(hc:cap=none\/cap=some n)(hL:L.length=n)(hg:s.get b=some (.cells (ZO L) 3 false 0 0))(hb:b<s.next)(k:Nat) :
  ∃s1,Rx 3 1 1 [.int .i64 (k:Int)] (.sl b 0 n cap 1) s=some (.sl s.next 0 (n+1) none 1,s1)/\s1.next=s.next+1/\s1.get s.next=some (.cells (ZO (L++[k])) 3 false 0 0)/\(∀j,j<s.next->j≠b->s1.get j=s.get j)/\(Fr s->Fr s1):=by
 rcases hc with rfl|rfl
 ·refine⟨_,Ai hL hg k,rfl,?_,fun j h1 h2=>?_,fun hf=>(hf.put hb _).new _⟩
  ·rw[Z7,Z',if_pos rfl]
  ·rw[Z7,Z',if_neg (by omega),Z9,if_neg h2.symm]
 ·refine⟨s.new (.cells (ZO (L++[k])) 3 false 0 0),?_,rfl,?_,fun j h1 h2=>?_,fun hf=>hf.new _⟩
  ·rw[T1 hg (by rw[Ww,hL,ah1]) (by omega),Qa]
  ·rw[Z7,if_pos rfl]
  ·rw[Z7,if_neg (by omega)]
theorem HS.Xj {s:St}{N:Nat}{L:List Nat}{v:AV}(h:HS s N L v):Go.Am.Xj v=L.length:=by
 rcases h with⟨rfl,rfl⟩|⟨b,rfl,h2,h3,h4⟩ <;> rfl
theorem HS.app {s:St}{N:Nat}{L:List Nat}{v:AV}(h:HS s N L v)(hN:N<=s.next)(k:Nat) :
  ∃s1,Rx 3 1 1 [.int .i64 (k:Int)] v s=some (.sl s.next 0 (L.length+1) none 1,s1)/\s1.next=s.next+1/\HS s1 N (L++[k]) (.sl s.next 0 (L.length+1) none 1)/\(∀j,j<s.next->¬Xb v j->s1.get j=s.get j)/\(Fr s->Fr s1):=by
 rcases h with⟨rfl,rfl⟩|⟨b,rfl,h2,h3,h4⟩
 ·refine⟨_,V_ _ _ _ _ _,rfl,.inr ⟨s.next,rfl,?_,hN,by rw[Z_];omega⟩,fun j hj _=>by rw[Z7,if_neg (by omega)],fun hf=>hf.new _⟩;rw[Z7,if_pos rfl];rfl
 ·refine⟨_,Ai rfl h2 k,rfl,.inr ⟨s.next,by simp,?_,hN,by rw[Z_,Z'];omega⟩,fun j hj hb=>?_,fun hf=>(hf.put h4 _).new _⟩
  ·rw[Z7,Z',if_pos rfl]
  ·rw[Yl] at hb;rw[Z7,Z',if_neg (by omega),Z9,if_neg hb]
noncomputable def XZ (a:Yi)(u:Nat):Nat:=gt (Rs a) u
theorem KL (A:Fa)(q:Nat):(XM A q).length=A.m:=by simp[XM]
theorem aT (A:Fa)(q:Nat){x:Nat}(h:x<A.m):(XM A q)[x]'(by rw[KL];exact h)=A.nx q x:=by simp[XM]
theorem agr {β:Type}{fin:Fl->β}{ks:List K}{ZB:β->Prop}{a:Yi}(ha:a.ok){L:List Nat}{q b m:Nat}{cap:Option Nat}(hq:q<a.next.length)(TN:cap=none\/cap=some L.length)(Ee:∀z∈L,z<a.next.length)(EG:(L.map (XZ a)).Nodup)(hbm:b≠m)
  {e:Env}{s:St}(g3:Env.get e 3=.fz (ZO (Rs a)))(g4:Env.get e 4=.map m)(g5:Env.get e 5=.sl b 0 L.length cap 1)(g8:Env.get e 8=.ZW)(g37:Env.get e 37=ZG a.next[q].1 (ints a.next[q].2))(g38:Env.get e 38=.int .i64 ((2^a.lines.toNat:Nat):Int))(g39:Env.get e 39=.int .i64 (0:Nat))
  (gm:s.get m=some (.map (Qb (L.map (XZ a)) 0) false))(gb:s.get b=some (.cells (ZO L) 3 false 0 0))(nb:b<s.next)(nm:m<s.next)(fr:Fr s)
  (hk:∀e' s' b' Ru rv,(∀t:Nat,t<10->t≠5->t≠8->Env.get e' t=Env.get e t)->Env.get e' 5=.sl b' 0 (Zs (XZ a) (XM a.fa q) L).1.length Ru 1->(Ru=none\/Ru=some (Zs (XZ a) (XM a.fa q) L).1.length)->(b'=b\/s.next<=b')->b'<s'.next ->
   s'.get b'=some (.cells (ZO (Zs (XZ a) (XM a.fa q) L).1) 3 false 0 0)->s'.get m=some (.map (Qb ((Zs (XZ a) (XM a.fa q) L).1.map (XZ a)) 0) false)->Env.get e' 8=rv->HS s' s.next (Zs (XZ a) (XM a.fa q) L).2 rv->(∀j,Xb rv j->j≠b') ->
   (∀j,j<s.next->j≠b->j≠m->s'.get j=s.get j)->s.next<=s'.next->Fr s'->ZB (goN U fin ks e' s')) :
  ZB (SD U fin (.bk 2::ks) KR e s):=by
 have Si:=ha.few;have hA:=ha.M9;have Nb:=ha.m16;have eD:(XM a.fa q).length=2^a.lines.toNat:=KL a.fa q;obtain⟨_,_,_,NA,_⟩:=TF (κ:=XZ a) (XM a.fa q) L EG;have NA:(Zs (XZ a) (XM a.fa q) L).2.length=2^a.lines.toNat:=by rw[NA,eD]
 generalize BW:(Zs (XZ a) (XM a.fa q) L).2=kf at *;generalize Jd:(Zs (XZ a) (XM a.fa q) L).1=Lf at *;refine YP (σ:=Nat) (fun x=>2^a.lines.toNat-x) (fun x e' s'=>x<=2^a.lines.toNat/\(∀t:Nat,t<10\/12<t/\t<39->t≠5->t≠8->Env.get e' t=Env.get e t)/\Env.get e' 39=.int .i64 (x:Nat) /\
   (∀j,j<s.next->j≠b->j≠m->s'.get j=s.get j)/\s.next<=s'.next/\Fr s' /\
   ∃L' b' Ru rv,Zs (XZ a) ((XM a.fa q).drop x) L'=(Lf,kf.drop x)/\(∀z∈L',z<a.next.length)/\(L'.map (XZ a)).Nodup /\
    Env.get e' 5=.sl b' 0 L'.length Ru 1/\(Ru=none\/Ru=some L'.length)/\(b'=b\/s.next<=b')/\b'<s'.next/\s'.get b'=some (.cells (ZO L') 3 false 0 0)/\s'.get m=some (.map (Qb (L'.map (XZ a)) 0) false) /\
    Env.get e' 8=rv/\HS s' s.next (kf.take x) rv/\(∀j,Xb rv j->j≠b')) 0 ?_
  ⟨aic _,fun _ _ _ _=>rfl,g39,fun _ _ _ _=>rfl,agB _,fr,
   L,b,cap,.ZW,by rw[amd,amd,<-Jd,<-BW],Ee,EG,g5,TN,.inl rfl,nb,gb,gm,g8,.inl ⟨rfl,rfl⟩,fun j hj=>absurd hj (V' j)⟩
 rintro Lp x e' s' ⟨hx,hold,vi,hs,Vl,Xx,L',b',Ru,rv,UO,vt,zd,q5,F3,TQ,nb',qb,qm,q8,hR,hRf⟩ IH;have q3:=(hold 3 (by omega) (by omega) (by omega)).trans g3;have q4:=(hold 4 (by omega) (by omega) (by omega)).trans g4;have tg:=(hold 37 (by omega) (by omega) (by omega)).trans g37;have pX:=(hold 38 (by omega) (by omega) (by omega)).trans g38;have ai9:L'.length<=a.next.length:=Vn zd vt;by_cases hd:x<2^a.lines.toNat
 ·have hw:=ZN hd (by omega);have hxm:x<(XM a.fa q).length:=by omega
  have sT:a.fa.nx q x<a.next.length:=hA.lt q x hq hd;have n1:=ha.mz hq hd;have o1:=Nn (l:=Rs a) (i:=a.fa.nx q x) (by rw[Jy ha];exact sT);have hTx:(XM a.fa q)[x]=a.fa.nx q x:=aT a.fa q hd;have hxk:x<kf.length:=by omega
  rw[abc hxm,hTx,abc hxk,Zs] at UO;have o1:Ud 1 (.fz (ZO (Rs a))) (.int .i64 ((a.fa.nx q x:Nat):Int))=some (.fp [.int .i64 ((XZ a (a.fa.nx q x):Nat):Int)] 0):=o1;generalize hc:a.fa.nx q x=c at *;have lk:=fun (S:St) (h:S.get m=some (.map (Qb (L'.map (XZ a)) 0) false))=>qd h (XZ a c)
  have JS:kf.take (x+1)=kf.take x++[kf[x]]:=by rw[alX hxk]
  have hRl:(kf.take x).length=x:=by rw[amr];omega
  have fS:=hR.Xj;rw[hRl] at fS;have UP:(x+1)*8<=1099511627776:=by omega
  have VP:x+1<=1099511627776:=by omega
  have Ba:(L'.length+1)*8<=1099511627776:=by omega
  have hb4:L'.length+1<=1099511627776:=by omega
  have qZ:(L'.map (XZ a)).length=L'.length:=by simp
  have Ib:∀t:Nat,t<10\/12<t/\t<39->t≠5->t≠8->(5=t)=False/\(8=t)=False/\(10=t)=False/\(11=t)=False/\(12=t)=False/\∀k:Nat,39<=k->(k=t)=False:=fun t h1 h2 h3=>⟨by simp;omega,by simp;omega,by simp;omega,by simp;omega,by simp;omega,fun k hk=>by simp;omega⟩
  by_cases Ue:Xq (L'.map (XZ a)) (XZ a c)<L'.length
  ·rw[decide_eq_true Ue] at UO;simp only[cond_true] at UO;have UF:Zs (XZ a) ((XM a.fa q).drop (x+1)) L'=(Lf,kf.drop (x+1)):=by
    have h1:=congrArg Prod.fst UO;have h2:=congrArg Prod.snd UO;simp only[List.cons.injEq] at h1 h2;exact Prod.ext h1 h2.2
   have dK:kf[x]=Xq (L'.map (XZ a)) (XZ a c):=by
    have h2:=congrArg Prod.snd UO;simp only[List.cons.injEq] at h2;exact h2.1.symm
   rw[qZ,decide_eq_true Ue] at lk;simp only[cond_true] at lk;rw[<-dK] at lk;simp only[go_sem,KR,q3,q4,q8,tg,pX,vi,qm,Z8,hd,n1,o1,lk,ah1,ZH,Nat.reducePow,fS,UP,VP];have R3:HS (s'.new (.cells [.int .i64 ((kf[x]:Nat):Int)] 3 false 0 0)) s.next (kf.take x) rv:=hR.keep (by rw[Z_];omega) fun j h1 _ _=>by rw[Z7,if_neg (by omega)]
   obtain⟨s4,d1,d2,d3,d4,d5⟩:=R3.app (by rw[Z_];omega) kf[x];rw[Z_] at d1 d2 d3 d4;rw[hRl] at d1 d3;rw[d1];simp only[go_sem,vi,hw];have k4:∀j,j<s'.next->¬Xb rv j->s4.get j=s'.get j:=fun j h1 h2=>by rw[d4 j (by omega) h2,Z7,if_neg (by omega)]
   have hrv:∀j,j<s.next->¬Xb rv j:=fun j hj h=>by have:=hR.lt h;omega
   refine IH (x+1) _ _ (by omega) ⟨by omega,fun t h1 h2 h3=>?_,?_,fun j h1 h2 h3=>by rw[k4 j (by omega) (hrv j h1),hs j h1 h2 h3],by omega,d5 (Xx.new _),L',b',Ru,.sl (s'.next+1) 0 (x+1) none 1,UF,vt,zd,?_,F3,TQ,by omega,(k4 b' nb' fun h=>hRf b' h rfl).trans qb,(k4 m (by omega) (hrv m nm)).trans qm,?_,by rw[JS];exact d3,fun j hj=>?_⟩
   ·obtain⟨n5,n8,fP,wR,xE,n39⟩:=Ib t h1 h2 h3;simp only[go_sem,n8,fP,wR,xE,n39];exact hold t h1 h2 h3
   ·simp only[go_sem]
   ·simp only[go_sem,q5]
   ·simp only[go_sem]
   ·rw[Yl] at hj;omega
  ·have ahf:XZ a c∉L'.map (XZ a):=by rw[<-HT,qZ];exact Ue
   rw[decide_eq_false Ue] at UO;simp only[cond_false] at UO;have UF:Zs (XZ a) ((XM a.fa q).drop (x+1)) (L'++[c])=(Lf,kf.drop (x+1)):=by
    have h1:=congrArg Prod.fst UO;have h2:=congrArg Prod.snd UO;simp only[List.cons.injEq] at h1 h2;exact Prod.ext h1 h2.2
   have dK:kf[x]=L'.length:=by
    have h2:=congrArg Prod.snd UO;simp only[List.cons.injEq] at h2;exact h2.1.symm
   rw[qZ,decide_eq_false Ue] at lk;simp only[cond_false] at lk;have up:=fun (S:St) (h:S.get m=some (.map (Qb (L'.map (XZ a)) 0) false))=>Dk h ahf
   rw[qZ] at up;have alG:∀c:Option Nat,Go.Am.Xj (.sl b' 0 L'.length c 1)=L'.length:=fun _=>rfl
   simp only[go_sem,KR,q3,q4,q5,tg,pX,vi,qm,Z8,hd,n1,o1,lk,up,ah1,ZH,Nat.reducePow,Ba,hb4];obtain⟨s4,d1,d2,d3,d4,d5⟩:=ai5 (b:=b') (L:=L') (s:=(s'.put m (.map (Qb (L'.map (XZ a)++[XZ a c]) 0) false)).new (.cells [.int .i64 (c:Int)] 3 false 0 0)) F3 rfl (by rw[Z7,Z',if_neg (by omega),Z9,if_neg (by omega)];exact qb) (by rw[Z_,Z'];omega) c;simp only[Z_,Z'] at d1 d2 d3 d4;rw[d1];simp only[go_sem,q8,ah1,ZH,Nat.reducePow,fS,UP,VP];have k4:∀j,j<s'.next->j≠b'->j≠m->s4.get j=s'.get j:=fun j h1 h2 h3=>by rw[d4 j (by omega) h2,Z7,Z',if_neg (by omega),Z9,if_neg h3.symm]
   have k4m:s4.get m=some (.map (Qb (L'.map (XZ a)++[XZ a c]) 0) false):=by rw[d4 m (by omega) (by omega),Z7,Z',if_neg (by omega),Z9,if_pos rfl]
   have hrv:∀j,j<s.next->¬Xb rv j:=fun j hj h=>by have:=hR.lt h;omega
   have R3:HS (s4.new (.cells [.int .i64 (L'.length:Int)] 3 false 0 0)) s.next (kf.take x) rv:=hR.keep (by rw[Z_];omega) fun j h1 h2 h3=>by
    rw[Z7,if_neg (by omega)];exact k4 j h1 (hRf j h3) (by omega)
   obtain⟨s6,b1,b2,b3,b4,b5⟩:=R3.app (by rw[Z_];omega) L'.length;rw[Z_] at b1 b2 b3 b4;rw[hRl] at b1 b3;rw[b1];simp only[go_sem,vi,hw];have k6:∀j,j<s4.next->¬Xb rv j->s6.get j=s4.get j:=fun j h1 h2=>by rw[b4 j (by omega) h2,Z7,if_neg (by omega)]
   refine IH (x+1) _ _ (by omega) ⟨by omega,fun t h1 h2 h3=>?_,?_,fun j h1 h2 h3=>by rw[k6 j (by omega) (hrv j h1),k4 j (by omega) (by omega) h3,hs j h1 h2 h3],by omega,b5 ((d5 ((Xx.put (by omega) _).new _)).new _),L'++[c],s'.next+1,none,.sl (s4.next+1) 0 (x+1) none 1,UF,fun z hz=>?_,?_,?_,.inl rfl,.inr (by omega),by omega,(k6 _ (by omega) fun h=>by have:=hR.lt h;omega).trans d3,?_,?_,by rw[JS,dK];exact b3,fun j hj=>?_⟩
   ·obtain⟨n5,n8,fP,wR,xE,n39⟩:=Ib t h1 h2 h3;simp only[go_sem,n5,n8,fP,wR,xE,n39];exact hold t h1 h2 h3
   ·simp only[go_sem]
   ·rcases amb.1 hz with h|h
    ·exact vt z h
    ·rw[ake.1 h];exact sT
   ·rw[alY,List.nodup_append];refine⟨zd,by simp,fun y hy z hz=>?_⟩;rw[alT,List.map_nil,ake] at hz;rintro rfl;rw[hz] at hy;exact ahf hy
   ·simp only[go_sem,agy,alW]
   ·rw[k6 m (by omega) (hrv m nm),k4m,alY,alT,List.map_nil]
   ·simp only[go_sem]
   ·rw[Yl] at hj;omega
 ·have hxe:x=2^a.lines.toNat:=by omega
  subst hxe;rw[List.drop_of_length_le (by omega),List.drop_of_length_le (by omega),Zs] at UO;obtain rfl:L'=Lf:=congrArg Prod.fst UO;rw[List.take_of_length_le (by omega)] at hR;simp only[go_sem,KR,pX,vi,Z8,alh];refine hk _ _ b' Ru rv (fun t h1 h2 h3=>?_) ?_ F3 TQ nb' qb qm ?_ hR hRf hs Vl Xx
  ·have ZC:∀k:Nat,39<=k->(k=t)=False:=fun k hk=>by simp;omega
   simp only[go_sem,ZC];exact hold t (.inl h1) h2 h3
  ·simp only[go_sem,q5]
  ·simp only[go_sem,q8]
theorem tP {s:St}{b n:Nat}{t:TypeId}{cs:List AV}(hL:cs.length=n)(hg:s.get b=some (.cells cs t false 0 0))(x:AV)(hx:Zz x=true) :
  Rx t 1 1 [x] (.sl b 0 n none 1) s=some (.sl s.next 0 (n+1) none 1,(s.put b .gone).new (.cells (cs++[x]) t false 0 0)):=by
 rw[TR,hg,VA (by omega) (by omega) (by simp[hx])]
theorem Ya {s:St}{j k:Nat}{c c':List AV}{t t':TypeId}(h:s.get j=some (.cells c t false 0 0))(h':s.get k=some (.cells c' t' false 0 0))(ht:t≠t'):j≠k:=by
 rintro rfl;have:=h.symm.trans h'
 injection this with this
 injection this with _ e
 exact ht e
theorem afy {β:Type}{fin:Fl->β}{ks:List K}{ZB:β->Prop}{a:Yi}(ha:a.ok){L:List Nat}{q b i ob jr:Nat}{cap:Option Nat}{cN cF:List AV}{v w:AV}(hq:q<a.next.length)(hi:i<L.length)(dL:gt L i=q)(hi9:i<=2^20)
  {e:Env}{s:St}(g1:Env.get e 1=.ptr 8 0)(g5:Env.get e 5=.sl b 0 L.length cap 1)(g6:Env.get e 6=.ptr ob 0)(g7:Env.get e 7=.int .i64 (i:Int))(g8:Env.get e 8=.sl jr 0 (2^a.lines.toNat) none 1)
  (gs:s.get 8=some (.cells [.int .i64 a.lines,SV a,Vy a] 69 false 0 0))(QD:s.get ob=some (.cells [.int .i64 a.lines,v,w] 69 false 0 0))(gb:s.get b=some (.cells (ZO L) 3 false 0 0))(h8:8<s.next)(Bk:ob<s.next)(hb:b<s.next)(h8o:8≠ob)(h13:13<=s.next)
  (hv:ZK s 13 40 1 i cN v)(hw:ZK s 13 43 1 i cF w)(fr:Fr s)
  (hk:∀e' s' v' w' jc,(∀t:Nat,t<10->Env.get e' t=Env.get e t)->s'.get ob=some (.cells [.int .i64 a.lines,v',w'] 69 false 0 0)->ZK s' 13 40 1 (i+1) (cN++[.sl jr 0 (2^a.lines.toNat) none 1]) v'->ZK s' 13 43 1 (i+1) (cF++[.sl jc 0 (2^a.lines.toNat) none 1]) w' ->
   s'.get jc=some (.cells (ZM (XF a.fa q)) 4 false 0 0)->s.next<=jc->jc<s'.next->(∀j,j<s.next->j≠ob->¬Xb v j->¬Xb w j->s'.get j=s.get j)->s.next<=s'.next->Fr s'->ZB (goN U fin ks e' s')) :
  ZB (go U fin ks (.raw vr) e s):=by
 have Si:=ha.few;rw[Uc abT];have Nc:=fr.at;have Ib:∀t:Nat,t<10->(∀k:Nat,71<=k->(k=t)=False):=fun t ht=>fun k hk=>by simp;omega
 have M0:∀j q,j<s.next->(j=s.next+q)=False:=fun j q hj=>by simp;omega
 have Kl:∀j q,j<s.next->(s.next+q=j)=False:=fun j q hj=>by simp;omega
 have xh:∀q,q≠0->(s.next+q=s.next)=False:=fun q hq=>by simp;omega
 have xg:∀q,q≠0->(s.next=s.next+q)=False:=fun q hq=>by simp;omega
 have hq':q<a.ZD.length:=by rw[ha.fl];exact hq
 have MB:(XF a.fa q).length=2^a.lines.toNat:=S9 a.fa q;have Nb:=ha.m16;have hmp:0<2^a.lines.toNat:=Nat.two_pow_pos _;have r2:=Se (nl:=a.S6) hq';have M_:=vw ha hq';have ZC:XF a.fa q≠[]:=fun e=>by rw[e,List.length_nil] at MB;omega
 have ajm:ZG a.ZD[q].1 (ZM a.ZD[q].2)=.fz (ZM (XF a.fa q)):=by
  rw[M_]
  cases hh:ZM (XF a.fa q) with
  |nil=>have:=congrArg List.length hh;rw[WX,MB,List.length_nil] at this;omega
  |cons x l=>cases a.ZD[q].1 <;> rfl
 rw[ajm] at r2;have tQ:=ai3 (XF a.fa q) ZC (by omega);rw[MB] at tQ;have o1:=Yq (l:=L) (i:=i) hi;rw[dL] at o1;unfold SV Vy at gs;have x1:(ob=8)=False:=eq_false (fun e=>h8o e.symm);have x2:(8=ob)=False:=eq_false h8o;have UP:(i+1)*24<=1099511627776:=by omega
 have VP:i+1<=1099511627776:=by omega
 have afz:b≠ob:=Ya gb QD (by decide);have hb8:b≠8:=Ya gb gs (by decide);have x3:(b=ob)=False:=eq_false afz;have x4:(ob=b)=False:=eq_false afz.symm;have key:∀(E:Env) (S:St),(∀t:Nat,t<10->Env.get E t=Env.get e t) ->
   S.get ob=some (.cells [.int .i64 a.lines,.sl (s.next+22) 0 (i+1) none 1,.sl (s.next+25) 0 (i+1) none 1] 69 false 0 0) ->
   S.get (s.next+22)=some (.cells (cN++[.sl jr 0 (2^a.lines.toNat) none 1]) 40 false 0 0)->S.get (s.next+25)=some (.cells (cF++[.sl (s.next+24) 0 (2^a.lines.toNat) none 1]) 43 false 0 0)->S.get (s.next+24)=some (.cells (ZM (XF a.fa q)) 4 false 0 0) ->
   (∀j,j<s.next->j≠ob->¬Xb v j->¬Xb w j->S.get j=s.get j)->s.next+25<S.next->Fr S->cN.length=i->cF.length=i->ZB (goN U fin ks E S):=by
  intro E S k1 k2 k3 k4 k5 k6 k7 k8 k9 nj;exact hk E S (.sl (s.next+22) 0 (i+1) none 1) (.sl (s.next+25) 0 (i+1) none 1) (s.next+24) k1 k2 (.inr ⟨by omega,by simp[k9],s.next+22,by omega,by omega,rfl,k3⟩) (.inr ⟨by omega,by simp[nj],s.next+25,by omega,by omega,rfl,k4⟩) k5 (by omega) (by omega) k6 (by omega) k8
 rcases hv with⟨i0,rfl,rfl⟩|⟨i0,Cz,bv,v1,v2,rfl,v4⟩
 ·rcases hw with⟨_,rfl,rfl⟩|⟨i1,_⟩
  ·subst i0;simp only[go_sem,g1,g5,g6,g7,g8,gs,QD,gb,hi,o1,r2,aan,tQ,V_,ZH,ah1,amk,Nat.reducePow,ald,akc,Nc,h8,Bk,hb,Kl,xh,xg,UP,VP];refine key _ _ (fun t ht=>?_) ?_ ?_ ?_ ?_ (fun j h1 h2 _ _=>?_) ?_ ?_ rfl rfl
   ·have ZC:=Ib t ht;simp only[go_sem,ZC]
   ·simp only[go_sem]
   ·simp[go_sem,M0,Bk,akc]
   ·simp[go_sem,M0,Bk,akc]
   ·simp[go_sem,M0,Bk,akc]
   ·have e0:∀q,(s.next+q=j)=False:=fun q=>by simp;omega
    simp only[Z9,Z7,Z',Z_,Z6,ZT,akc,Nat.reduceAdd,e0,eq_false h2.symm,if_false]
   ·simp only[Z',Z_,Z6];omega
   ·repeat first|exact fr|apply Fr.new|apply Fr.put|apply Fr.upto
    all_goals try simp only[Z',Z_,Z6]
    all_goals omega
  ·omega
 ·rcases hw with⟨i1,_⟩|⟨_,Cy,bw,w1,w2,rfl,w4⟩
  ·omega
  ·rw[ah1] at Cz Cy;have n1:=Ya v4 w4 (by decide);have n2:=Ya v4 QD (by decide);have n3:=Ya w4 QD (by decide);have n4:=Ya v4 gb (by decide);have n5:=Ya w4 gb (by decide);have n6:=Ya v4 gs (by decide);have n7:=Ya w4 gs (by decide);have y1:(bv=bw)=False:=eq_false n1;have y2:(bv=ob)=False:=eq_false n2;have y3:(bw=ob)=False:=eq_false n3;have y4:(bv=b)=False:=eq_false n4;have y5:(bw=b)=False:=eq_false n5;have y6:(bv=8)=False:=eq_false n6;have y7:(bw=8)=False:=eq_false n7;have y8:(ob=bv)=False:=eq_false n2.symm;have y9:(ob=bw)=False:=eq_false n3.symm;have y10:(bw=bv)=False:=eq_false n1.symm;have a1:=fun (S:St) (h:S.get bv=some (.cells cN 40 false 0 0))=>tP Cz h (.sl jr 0 (2^a.lines.toNat) none 1) rfl
   have a2:=fun (S:St) (h:S.get bw=some (.cells cF 43 false 0 0))=>tP Cy h (.sl (s.next+24) 0 (2^a.lines.toNat) none 1) rfl
   simp only[go_sem,g1,g5,g6,g7,g8,gs,QD,gb,hi,o1,r2,aan,tQ,ZH,ah1,Nat.reducePow,ald,akc,Nc,h8,Bk,hb,M0,Kl,xh,xg,UP,VP,v2,v4,w2,w4,y1,y2,y3,y4,y6,a1,a2];refine key _ _ (fun t ht=>?_) ?_ ?_ ?_ ?_ (fun j h1 h2 h3 h4=>?_) ?_ ?_ Cz Cy
   ·have ZC:=Ib t ht;simp only[go_sem,ZC]
   ·simp only[go_sem]
   ·simp[go_sem,M0,Bk,w2,akc]
   ·simp[go_sem,M0,Bk,akc]
   ·simp[go_sem,M0,Bk,w2,akc]
   ·have e0:∀q,(s.next+q=j)=False:=fun q=>by simp;omega
    rw[Yl] at h3 h4;simp only[Z9,Z7,Z',Z_,Z6,ZT,akc,Nat.reduceAdd,e0,eq_false h2.symm,eq_false h3,eq_false h4,if_false]
   ·simp only[Z',Z_,Z6];omega
   ·repeat first|exact fr|apply Fr.new|apply Fr.put|apply Fr.upto
    all_goals try simp only[Z',Z_,Z6]
    all_goals omega
def UQ (s:St)(b:Nat)(t:TypeId)(c:AV)(l:List AV):Prop:=∃j cap,c=.sl j 0 l.length cap 1/\j<s.next/\j≠b/\13<=j/\s.get j=some (.cells l t false 0 0)
theorem UQ.mono {s s':St}{b b':Nat}{t:TypeId}{c:AV}{l:List AV}(h:UQ s b t c l)(hn:s.next<=s'.next)(hg:∀j,j<s.next->j≠b->13<=j->s.get j=some (.cells l t false 0 0)->j≠b'/\s'.get j=some (.cells l t false 0 0)):UQ s' b' t c l:=by
 obtain⟨j,cap,h1,h2,h3,h4,h5⟩:=h;obtain⟨h6,h7⟩:=hg j h2 h3 h4 h5;exact⟨j,cap,h1,by omega,h6,h4,h7⟩
theorem UQ.Yn {s:St}{b d:Nat}{c:AV}{l:List AV}{t:TypeId}(h:UQ s b t c l)(Et:YC U t=some false)(VY:size U t=some 1)(Re:l.all Zz=true)(hf:Y' (Go.Am.Yn U s d) l=some l):Go.Am.Yn U s (d+1) c=some (.fz l):=by
 obtain⟨j,cap,rfl,_,_,_,h5⟩:=h;rw[VD,h5,Wo,ah1,Ws,Et,VY,TX,if_pos Re,VC,hf,Tb]
theorem ZK.LD {s:St}{B:Nat}{t:TypeId}{i:Nat}{cs:List AV}{v:AV}(h:ZK s B t 1 i cs v){j:Nat}(hj:Xb v j):B<=j/\j<s.next/\s.get j=some (.cells cs t false 0 0):=by
 rcases h with⟨_,rfl,_⟩|⟨_,_,b,h2,h3,rfl,h5⟩
 ·exact absurd hj (V' j)
 ·rw[Yl] at hj;subst hj;exact⟨h2,h3,h5⟩
structure Ts (s:St)(b:Nat)(a:Yi)(cN cF:List AV)(v w:AV):Prop where
 v:ZK s 13 40 1 cN.length cN v
 w:ZK s 13 43 1 cF.length cF w
 ln:cN.length=(Ml a.fa (XZ a)).length
 lf:cF.length=(Ml a.fa (XZ a)).length
 bn:∀j (h:j<(Ml a.fa (XZ a)).length) (h':j<cN.length),UQ s b 3 cN[j] (ZO (Ml a.fa (XZ a))[j].2)
 bf:∀j (h:j<(Ml a.fa (XZ a)).length) (h':j<cF.length),UQ s b 4 cF[j] (ZM (XF a.fa (Ml a.fa (XZ a))[j].1))
 h9:b≠9
theorem Ts.keep {s S:St}{b:Nat}{a:Yi}{cN cF:List AV}{v w:AV}(h:Ts s b a cN cF v w)(hn:S.next=s.next)(hg:∀j,j≠9->S.get j=s.get j):Ts S b a cN cF v w :=
 ⟨h.v.XS (by omega) fun j c h _ h2=>by rw[hg j (by omega)];exact h,h.w.XS (by omega) fun j c h _ h2=>by rw[hg j (by omega)];exact h,h.ln,h.lf,
  fun j h1 h'=>(h.bn j h1 h').mono (by omega) fun k _ h2 h3 h5=>⟨h2,by rw[hg k (by omega)];exact h5⟩,fun j h1 h'=>(h.bf j h1 h').mono (by omega) fun k _ h2 h3 h5=>⟨h2,by rw[hg k (by omega)];exact h5⟩,h.h9⟩
theorem Ts.na {s:St}{b:Nat}{a:Yi}{cN cF:List AV}{v w:AV}(h:Ts s b a cN cF v w):cN.all Zz=true/\cF.all Zz=true:=by
 have h1:=h.ln;have h2:=h.lf;refine⟨?_,?_⟩
 ·rw[alK];intro x hx;obtain⟨j,hj,rfl⟩:=alP.1 hx;obtain⟨_,_,e,_⟩:=h.bn j (by omega) hj;rw[e];rfl
 ·rw[alK];intro x hx;obtain⟨j,hj,rfl⟩:=alP.1 hx;obtain⟨_,_,e,_⟩:=h.bf j (by omega) hj;rw[e];rfl
theorem Ts.Yn {s:St}{b:Nat}{a:Yi}{cN cF:List AV}{v w:AV}(h:Ts s b a cN cF v w)(d:Nat):Go.Am.Yn U s (d+3) v=some (ZG true ((Ml a.fa (XZ a)).map fun x=>AV.fz (ZO x.2)))/\Go.Am.Yn U s (d+3) w=some (ZG true ((Ml a.fa (XZ a)).map fun x=>AV.fz (ZM (XF a.fa x.1)))) :=
 ⟨h.v.Ub U Ed Ec h.na.1 (d:=d+2) (Va h.ln fun j h1 h'=>(h.bn j h' h1).Yn Ka J' (XR _) (Ua _ _ _)),h.w.Ub U Eb Ea h.na.2 (d:=d+2) (Va h.lf fun j h1 h'=>(h.bf j h' h1).Yn AI AH (U' _) (Sp _ _ _))⟩
theorem agp {a:Yi}(ha:a.ok){e:Env}{s:St}(g1:Env.get e 1=.ptr 8 0)(g2:Env.get e 2=.ptr 9 0)(g3:Env.get e 3=.fz (ZO (Rs a)))(g4:Env.get e 4=.map 10)(g5:Env.get e 5=.sl 11 0 1 (some 1) 1)(g6:Env.get e 6=.ptr 12 0)(g7:Env.get e 7=.int .i64 (0:Nat))
  (gs:s.get 8=some (.cells [.int .i64 a.lines,SV a,Vy a] 69 false 0 0))(g9:s.get 9=some (.cells [.int .i64 0,.ZW,.ZW] 69 false 0 0))(gm:s.get 10=some (.map (Qb [XZ a 0] 0) false))(gb:s.get 11=some (.cells (ZO [0]) 3 false 0 0))(QD:s.get 12=some (.cells [.int .i64 a.lines,.ZW,.ZW] 69 false 0 0))(nx:13<=s.next)(fr:Fr s){β:Type}{fin:Fl->β}{ks:List K}{ZB:β->Prop}
  (hk:∀e' s' v w b cN cF,Env.get e' 6=.ptr 12 0->Env.get e' 2=.ptr 9 0->s'.get 12=some (.cells [.int .i64 a.lines,v,w] 69 false 0 0)->s'.get 9=some (.cells [.int .i64 0,.ZW,.ZW] 69 false 0 0)->Ts s' b a cN cF v w->ZB (goN U fin ks e' s')) :
  ZB (SD U fin (.bk 0::ks) HA e s):=by
 have Si:=ha.few;have hA:=ha.M9;have Nb:=ha.m16;have hmp:0<2^a.lines.toNat:=Nat.two_pow_pos _;refine YP (σ:=Nat) (fun i=>a.next.length-i) (fun i e s=>Env.get e 1=.ptr 8 0/\Env.get e 2=.ptr 9 0/\Env.get e 3=.fz (ZO (Rs a))/\Env.get e 4=.map 10/\Env.get e 6=.ptr 12 0/\Env.get e 7=.int .i64 (i:Nat)/\s.get 8=some (.cells [.int .i64 a.lines,SV a,Vy a] 69 false 0 0)/\s.get 9=some (.cells [.int .i64 0,.ZW,.ZW] 69 false 0 0)/\13<=s.next/\Fr s /\
   ∃(L:List Nat) (b:Nat) (cap:Option Nat) (acc:List (Nat×List Nat)) (cN cF:List AV) (v w:AV),Env.get e 5=.sl b 0 L.length cap 1/\(cap=none\/cap=some L.length)/\s.get b=some (.cells (ZO L) 3 false 0 0)/\b<s.next/\(b=11\/13<=b)/\(∀z∈L,z<a.next.length)/\(L.map (XZ a)).Nodup/\s.get 10=some (.map (Qb (L.map (XZ a)) 0) false) /\
    s.get 12=some (.cells [.int .i64 a.lines,v,w] 69 false 0 0)/\ZK s 13 40 1 i cN v/\ZK s 13 43 1 i cF w/\acc.length=i/\cN.length=i/\cF.length=i /\
    (∀j (h:j<acc.length) (h':j<cN.length),UQ s b 3 cN[j] (ZO acc[j].2))/\(∀j (h:j<acc.length) (h':j<cF.length),UQ s b 4 cF[j] (ZM (XF a.fa acc[j].1))) /\
    i<=L.length/\acc++UE (XZ a) (XM a.fa) (a.next.length+1-i) i L=Ml a.fa (XZ a)) 0 ?_
  ⟨g1,g2,g3,g4,g6,g7,gs,g9,nx,fr,[0],11,some 1,[],[],[],.ZW,.ZW,g5,.inr rfl,gb,by omega,.inl rfl,fun z hz=>by rw[ake.1 hz];exact ha.pos,by simp,gm,QD,ZK.nil _ _ _ _,ZK.nil _ _ _ _,rfl,rfl,rfl,fun j h=>by simp at h,fun j h=>by simp at h,aic _,rfl⟩
 clear g1 g2 g3 g4 g5 g6 g7 gs g9 gb gm QD nx fr e s;rintro Lp i e s ⟨g1,g2,g3,g4,g6,g7,gs,g9,nx,fr,L,b,cap,acc,cN,cF,v,w,g5,TN,gb,nb,hb,Ee,EG,gm,QD,hv,hw,Kc,Cz,Cy,xe,xd,hiL,YA⟩ IH;have agq:L.length<=a.next.length:=Vn EG Ee;by_cases hd:i<L.length
 ·have Rm:=ZN hd (by omega);have hq:L[i]<a.next.length:=Ee _ (adm hd);have dL:L[i]? = some L[i]:=aaa hd;have o1:=Yq (l:=L) (i:=i) hd;rw[VF hd] at o1;rw[show a.next.length+1-i=(a.next.length+1-(i+1))+1 by omega,UE,dL] at YA;simp only at YA;have M_:=Sf (nl:=a.TH) hq;have hlen:=(ha.row _ hq).1;have hl:=ZI a.next[L[i]].1 (ints a.next[L[i]].2);rw[YK,hlen] at hl;generalize hqe:L[i]=q at *;have Mz:=gs;unfold SV Vy at Mz;simp only[go_sem,HA,g1,g5,g7,Mz,gb,o1,Z8,hd,M_,hl,ah1];refine agr (ZB:=ZB) ha (L:=L) (q:=q) (b:=b) (m:=10) (cap:=cap) hq TN Ee EG (by omega) ?_ ?_ ?_ ?_ ?_ ?_ ?_ gm gb (by rw[Z6];omega) (by rw[Z6];omega) (fr.upto (by omega)) ?_
  case refine_8 =>
   intro e2 s2 b2 bN rv QF p5 iG VP nb2 qb2 qm2 p8 hR hRf S4 OL O1;simp only[Z6,ZT] at VP hR S4 OL;obtain⟨nd2,alx,vu,NA,_⟩:=TF (κ:=XZ a) (XM a.fa q) L EG;have NA:(Zs (XZ a) (XM a.fa q) L).2.length=2^a.lines.toNat:=by rw[NA];exact KL a.fa q
   have qx:∀z∈(Zs (XZ a) (XM a.fa q) L).1,z<a.next.length:=by
    have:=(RT (κ:=XZ a) (ρ:=XZ a) (Q:=fun z=>z<a.next.length) (fun _ _ _ _=>Iff.rfl) (XM a.fa q) L (fun y hy=>by
     obtain⟨x,hx,rfl⟩:=alN.1 hy;exact hA.lt q x hq (al4.1 hx)) Ee).2
    exact this
   have uq:=vu i hd;rw[dL] at uq;generalize aly:(Zs (XZ a) (XM a.fa q) L).1=Lf at *;generalize alz:(Zs (XZ a) (XM a.fa q) L).2=kf at *;have acO:i<Lf.length:=by omega
   have fI:gt Lf i=q:=by
    rw[aaa acO] at uq;rw[VF acO];exact Option.some.inj uq
   obtain⟨jr,rfl,hjr,jr1,jr2⟩:∃jr,rv=.sl jr 0 (2^a.lines.toNat) none 1/\s2.get jr=some (.cells (ZO kf) 3 false 0 0)/\s.next+10<=jr/\jr<s2.next:=by
    rcases hR with⟨_,h⟩|⟨j,h1,h2,h3,h4⟩
    ·rw[h,List.length_nil] at NA;omega
    ·exact⟨j,by rw[h1,NA],h2,h3,h4⟩
   have mB:=hRf jr ((Yl _ _ _).2 rfl);have E2:∀t:Nat,t<10->t≠5->t≠8->Env.get e2 t=Env.get e t:=fun t h1 h5 h8=>by
    rw[QF t h1 h5 h8];have ZC:∀k:Nat,10<=k->(k=t)=False:=fun k hk=>by simp;omega
    have uC:(8=t)=False:=by simp;omega
    simp only[go_sem,ZC,uC]
   have p1:=(E2 1 (by omega) (by omega) (by omega)).trans g1;have p2:=(E2 2 (by omega) (by omega) (by omega)).trans g2;have p3:=(E2 3 (by omega) (by omega) (by omega)).trans g3;have p4:=(E2 4 (by omega) (by omega) (by omega)).trans g4;have p6:=(E2 6 (by omega) (by omega) (by omega)).trans g6;have p7:=(E2 7 (by omega) (by omega) (by omega)).trans g7;have u8:=(S4 8 (by omega) (by omega) (by omega)).trans gs;have u9:=(S4 9 (by omega) (by omega) (by omega)).trans g9;have u12:=(S4 12 (by omega) (by omega) (by omega)).trans QD;have Mv:ZK s2 13 40 1 i cN v:=hv.XS (by omega) fun j c h1 h2 h3=>by rw[S4 j (by omega) (Ya h1 gb (by decide)) (by omega)];exact h1
   have Mx:ZK s2 13 43 1 i cF w:=hw.XS (by omega) fun j c h1 h2 h3=>by rw[S4 j (by omega) (Ya h1 gb (by decide)) (by omega)];exact h1
   have acP:∀j (h:j<acc.length) (h':j<cN.length),UQ s2 b2 3 cN[j] (ZO acc[j].2):=fun j h h'=>(xe j h h').mono (by omega) fun k h1 h2 h3 h4=>⟨by omega,by rw[S4 k (by omega) h2 (by omega)];exact h4⟩
   have acQ:∀j (h:j<acc.length) (h':j<cF.length),UQ s2 b2 4 cF[j] (ZM (XF a.fa acc[j].1)):=fun j h h'=>(xd j h h').mono (by omega) fun k h1 h2 h3 h4=>⟨by omega,by rw[S4 k (by omega) h2 (by omega)];exact h4⟩
   simp only[go_sem];refine afy (ZB:=ZB) ha (L:=Lf) (q:=q) (b:=b2) (i:=i) (ob:=12) (jr:=jr) (cap:=bN) hq acO fI (by omega) p1 p5 p6 p7 p8 u8 u12 qb2 (by omega) (by omega) nb2 (by omega) (by omega) Mv Mx O1 ?_;intro e3 s3 v' w' jc Eg aj_ eX hw3 hjc jc1 jc2 fs3 aa_ rC;have qE:∀t:Nat,t<10->Env.get e3 t=Env.get e2 t:=Eg;have o7:=(Eg 7 (by omega)).trans p7;simp only[go_sem,o7,Rm];have nv:∀j c t,s2.get j=some (.cells c t false 0 0)->t≠40->¬Xb v j:=fun j c t h1 h2 h3=>h2 (by
    have:=Mv.LD h3;by_cases e:t=40
    ·exact e
    ·exact absurd rfl (Ya h1 this.2.2 e))
   have nw:∀j c t,s2.get j=some (.cells c t false 0 0)->t≠43->¬Xb w j:=fun j c t h1 h2 h3=>h2 (by
    have:=Mx.LD h3;by_cases e:t=43
    ·exact e
    ·exact absurd rfl (Ya h1 this.2.2 e))
   have pr:∀j c t,j<s2.next->j≠12->s2.get j=some (.cells c t false 0 0)->t≠40->t≠43->s3.get j=some (.cells c t false 0 0):=fun j c t h1 h2 h3 h4 h5=>by
    rw[fs3 j h1 h2 (nv j c t h3 h4) (nw j c t h3 h5)];exact h3
   have aj':s3.get 10=s2.get 10:=fs3 10 (by omega) (by omega) (fun h=>by have:=(Mv.LD h).1;omega) fun h=>by have:=(Mx.LD h).1;omega
   have bj3:∀c l,UQ s2 b2 3 c l->UQ s3 b2 3 c l:=fun c l h=>h.mono aa_ fun k h1 h2 h3 h4=>⟨h2,pr k _ _ h1 (by omega) h4 (by decide) (by decide)⟩
   have bj4:∀c l,UQ s2 b2 4 c l->UQ s3 b2 4 c l:=fun c l h=>h.mono aa_ fun k h1 h2 h3 h4=>⟨h2,pr k _ _ h1 (by omega) h4 (by decide) (by decide)⟩
   have MB:(XF a.fa q).length=2^a.lines.toNat:=S9 a.fa q;rw[List.append_cons] at YA;refine IH (i+1) _ _ (by omega) ⟨?_,?_,?_,?_,?_,?_,pr _ _ _ (by omega) (by omega) u8 (by decide) (by decide),pr _ _ _ (by omega) (by omega) u9 (by decide) (by decide),by omega,rC,Lf,b2,bN,acc++[(q,kf)],cN++[.sl jr 0 (2^a.lines.toNat) none 1],cF++[.sl jc 0 (2^a.lines.toNat) none 1],v',w',?_,iG,pr _ _ _ nb2 (by omega) qb2 (by decide) (by decide),by omega,by omega,qx,nd2,aj'.trans qm2,aj_,eX,hw3,by simp[Kc],by simp[Cz],by simp[Cy],fun j h h'=>?_,fun j h h'=>?_,by omega,YA⟩
   case refine_8 =>
    by_cases hj:j<acc.length
    ·rw[al2 (by omega),al2 hj];exact bj3 _ _ (acP j hj (by omega))
    ·have hj:j=acc.length:=by rw[agy,alW] at h;omega
     subst hj;rw[al5 (by omega),al5 (by omega)];simp only[amC];exact bj3 _ _ ⟨jr,none,by rw[Ww,NA],jr2,mB,by omega,hjr⟩
   case refine_9 =>
    by_cases hj:j<acc.length
    ·rw[al2 (by omega),al2 hj];exact bj4 _ _ (acQ j hj (by omega))
    ·have hj:j=acc.length:=by rw[agy,alW] at h;omega
     subst hj;rw[al5 (by omega),al5 (by omega)];simp only[amC];exact⟨jc,none,by rw[WX,MB],jc2,by omega,by omega,hjc⟩
   all_goals simp only[go_sem,(Eg 1 (by omega)).trans p1,(Eg 2 (by omega)).trans p2,(Eg 3 (by omega)).trans p3,(Eg 4 (by omega)).trans p4,(Eg 5 (by omega)).trans p5,(Eg 6 (by omega)).trans p6]
  all_goals simp only[go_sem,g3,g4,g5]
  all_goals rfl
 ·have xb:i=L.length:=by omega
  have SX:UE (XZ a) (XM a.fa) (a.next.length+1-i) i L=[]:=by
   rw[show a.next.length+1-i=(a.next.length-i)+1 by omega,UE,amm (by omega)]
  rw[SX,alZ] at YA;have hle:decide ((i:Int)<(L.length:Int))=false:=by rw[Z8];simp;omega
  simp only[go_sem,HA,g5,g7,hle];have ck:ZK s 13 40 1 cN.length cN v:=by rw[Cz];exact hv
  have LS:ZK s 13 43 1 cF.length cF w:=by rw[Cy];exact hw
  refine hk _ _ v w b cN cF ?_ ?_ QD g9 ⟨ck,LS,by rw[<-YA];omega,by rw[<-YA];omega,?_,?_,by omega⟩
  ·simp only[go_sem,g6]
  ·simp only[go_sem,g2]
  ·rw[<-YA];exact xe
  ·rw[<-YA];exact xd
theorem acR {a:Yi}(ha:a.ok):(Ml a.fa (XZ a)).map (fun x=>AV.fz (ZO x.2))=(U7 a.fa).map (fun x=>AV.fz (ZO x.2))/\(Ml a.fa (XZ a)).map (fun x=>AV.fz (ZM (XF a.fa x.1)))=(U7 a.fa).map (fun x=>AV.fz (ZM (XF a.fa x.1))):=by
 obtain⟨h1,h2⟩:=min_eq ha.M9 (cl:=XZ a) fun u v hu hv=>jg ha hu hv
 rw[h1];simp only[List.map_map];refine⟨rfl,amc fun x hx=>?_⟩;show _=AV.fz (ZM (XF a.fa (YM a.fa x.1)))
 congr 2
 unfold XF;refine amc fun y hy=>?_
 exact (wV ha.M9 (h2 x hx) (al4.1 hy)).symm
theorem aid {a:Yi}(ha:a.ok):ZE U 104 [Wd a]=some (Wd (Zl a)):=by
 refine ZR ajf (by kernel_rfl) (by simp[ZU,VJ]) ?_;have h172:=ajF ha;rw[WJ] at h172 ⊢;have nn:=ZL a.TH (a.next.map Zn);have nf:=ZL a.S6 (a.ZD.map Zv);have cn:=Zu a.TH (a.next.map Zn);have cf:=Zu a.S6 (a.ZD.map Zv);have hA:=ha.M9;have o1:=Nn (l:=Rs a) (i:=0) (by rw[Jy ha];exact ha.pos);have o1:Ud 1 (.fz (ZO (Rs a))) (.int .i64 0)=some (.fp [.int .i64 ((XZ a 0:Nat):Int)] 0):=o1;have up:=fun (S:St) (h:S.get 10=some (.map [] false))=>Dk (m:=10) (ks:=[]) h (k:=XZ a 0) (by simp)
 have up:∀S:St,S.get 10=some (.map [] false)->UX U 249 (.map 10) (.int .i64 ((XZ a 0:Nat):Int)) (.int .i64 0) S=some (S.put 10 (.map (Qb [XZ a 0] 0) false)):=up;unfold SV Vy at h172 ⊢;simp only[go_sem,aft,h172,o1,up];refine agp (ZB:=fun (o:Option AV)=>o=some (Wd (Zl a))) ha ?_ ?_ ?_ ?_ ?_ ?_ ?_ ?_ ?_ ?_ ?_ ?_ ?_ ?_ ?_
 case refine_15 =>
  intro e' s' v w b cN cF p6 p2 u12 u9 MR;have nav:=MR.v.Zz;have naw:=MR.w.Zz;have hE:Wd (Zl a)=.agg [.int .i64 a.lines,ZG true ((U7 a.fa).map fun x=>AV.fz (ZO x.2)),ZG true ((U7 a.fa).map fun x=>AV.fz (ZM (XF a.fa x.1)))]:=by
   rw[WJ,SV,Vy,Zl];simp only[List.map_map];have e1:∀x:Nat×List Nat,(Zn∘fun x:Nat×List Nat=>(false,PV x.2)) x=AV.fz (ZO x.2):=fun x=>by simp only[Function.comp,Zn,WH];rfl
   have e2:∀x:Nat×List Nat,(Zv∘fun x:Nat×List Nat=>(false,XF a.fa x.1)) x=AV.fz (ZM (XF a.fa x.1)):=fun x=>by simp only[Function.comp,Zv,WH]
   rw[amc (fun x _=>e1 x),amc (fun x _=>e2 x)]
  obtain⟨m1,m2⟩:=acR ha;have MK:=fun x=>MR.keep (S:=s'.put 9 x) (by rw[Z']) fun j hj=>by rw[Z9,if_neg (fun e=>hj e.symm)]
  have fv':=fun x=>((MK x).Yn 36).1
  have fw':=fun x=>((MK x).Yn 36).2
  rw[m1] at fv';rw[m2] at fw';rw[hE];simp only[go_sem,p6,p2,u12,u9,nav,naw,fv',fw']
 case refine_14 =>
  repeat first|exact Fr.own|apply Fr.new|apply Fr.put|apply Fr.upto
  all_goals simp only[go_sem]
 all_goals simp only[go_sem]
 all_goals rfl
theorem F2 (κ:Nat->Nat):∀(cs st:List Nat),(Zs κ cs st).2.length=cs.length
 |[],st=>rfl
 |c::cs,st=>by
  rw[Zs]
  cases decide (Xq (st.map κ) (κ c)<st.length) <;> simp[F2 κ cs]
theorem yU (κ:Nat->Nat)(row:Nat->List Nat){m:Nat}(hr:∀s,(row s).length=m):∀(f i:Nat) (st:List Nat),(UE κ row f i st).length<=f/\∀x∈UE κ row f i st,x.2.length=m
 |0,i,st=>by simp[UE]
 |f+1,i,st=>by
  rw[UE]
  cases st[i]? with
  |none=>simp
  |some s =>
   obtain⟨h1,h2⟩:=yU κ row hr f (i+1) (Zs κ (row s) st).1;refine⟨by simp only[akd];omega,fun x hx=>?_⟩;rcases alL.1 hx with rfl|hx
   ·simp only[F2,hr]
   ·exact h2 x hx
theorem kd (A:Fa):(U7 A).length<=A.n+1/\∀x∈U7 A,x.2.length=A.m :=
 yU id (fun c=>(XM A c).map (YM A)) (m:=A.m) (fun s=>by rw[agC,KL]) (A.n+1) 0 [YM A 0]
theorem dH {a:Yi}(ha:a.ok):ZE U 60 [Wd (Zl a),Wd (Zl a)]=some (.bool true):=by
 obtain⟨h1,h2⟩:=kd a.fa;have Si:=ha.few;have Nb:=ha.m16;have hn:a.fa.n=a.next.length:=rfl;have hm:a.fa.m=2^a.lines.toNat:=rfl;refine c60 _ _ rfl rfl (fun i _ _=>rfl) rfl (fun i _ _=>rfl) ?_ ?_ ?_ ?_
 ·simp only[Zl,agC];omega
 ·simp only[Zl,agC];omega
 ·intro r hr;simp only[Zl,alN] at hr;obtain⟨x,hx,rfl⟩:=hr;simp only[Q0,h2 x hx];omega
 ·intro r hr;simp only[Zl,alN] at hr;obtain⟨x,hx,rfl⟩:=hr;simp only[S9];omega
end Go.Am
namespace Go.Am
open Go
def aas (A B:Fa):Fa where
 n:=A.n*B.n
 m:=A.m
 nx c x:=A.nx (c / B.n) x*B.n+B.nx (c%B.n) x
 fr c x:=A.fr (c / B.n) x
abbrev Ij:=Nat×Nat×Nat
structure uN (A:Fa)(T:List Ij):Prop where
 pos:0<T.length
 nd:(T.map (·.1)).Nodup
 lt:∀t∈T,t.1<A.n
 fr:∀k t,T[k+1]? = some t->t.2.1<=k/\t.2.2<A.m
theorem uN.len {A:Fa}{T:List Ij}(h:uN A T):T.length<=A.n:=by
 have:=Vn (κ:=id) (st:=T.map (·.1)) (by rw[List.map_id];exact h.nd) (n:=A.n) fun a ha=>by
  obtain⟨t,ht,rfl⟩:=alN.1 ha;exact h.lt t ht
 rwa [agC] at this
theorem uN.put {A:Fa}{T:List Ij}(h:uN A T){c i x:Nat}(hc:c<A.n)(hi:i<T.length)(hx:x<A.m)(hn:c∉T.map (·.1)):uN A (T++[(c,i,x)]):=by
 refine⟨by simp,?_,fun t ht=>?_,fun k t ht=>?_⟩
 ·rw[alY,List.nodup_append];refine⟨h.nd,by simp,fun a ha b hb=>?_⟩;simp only[alT,List.map_nil,ake] at hb;rintro rfl;rw[hb] at ha;exact hn ha
 ·rcases amb.1 ht with h1|h1
  ·exact h.lt t h1
  ·rw[ake.1 h1];exact hc
 ·by_cases hk:k+1<T.length
  ·rw[al0 hk] at ht;exact h.fr k t ht
  ·have BW:k+1=T.length:=by
    have:=(alQ.1 ht).1;simp at this;omega
   rw[BW,amI (agB _),Nat.sub_self] at ht;simp at ht;subst ht;exact⟨by simp only;omega,hx⟩
structure alq (A:Fa)(T T':List Ij):Prop where
 inv:uN A T'
 pre:∃R,T'=T++R
structure alr (A:Fa)(y:Nat->Nat->Bool)(i:Nat)(T:List Ij)(r:List Ij×Option (Nat×Nat)):Prop where
 inv:uN A r.1
 pre:∃R,r.1=T++R
 go:r.2=none->∀k t,i<=k->r.1[k]? = some t->∀x,x<A.m->y t.1 x=true/\A.nx t.1 x∈r.1.map (·.1)
 stop:∀k x,r.2=some (k,x)->i<=k/\x<A.m/\(∃t,r.1[k]? = some t/\y t.1 x=false)/\(∀j t,i<=j->j<k->r.1[j]? = some t->∀z,z<A.m->y t.1 z=true)/\∀t,r.1[k]? = some t->∀z,z<x->y t.1 z=true
end Go.Am
namespace Go.Am
open Go
variable [Z4]
set_option maxRecDepth 100000
set_option maxHeartbeats 8000000
theorem c37 (p:Bool)(n:Int):ZE U 37 [.bool p,.int .i64 n]=some (.int .i64 (br p n 0)):=by
 refine ZR k37 (by kernel_rfl) rfl ?_
 cases p <;> simp only[go_sem,r37] <;> rfl
theorem aie (a:Yi)(h:a.next.length<=256):ZE U 103 [Wd a]=some (.XU [Wd a,.int .i64 0]):=by
 refine ZR ael (by kernel_rfl) (by simp[ZU,VJ]) ?_;rw[WJ a];unfold SV Vy;have nn:=ZL a.TH (a.next.map Zn);have nf:=ZL a.S6 (a.ZD.map Zv);have cn:=Zu a.TH (a.next.map Zn);have cf:=Zu a.S6 (a.ZD.map Zv);have ln:=ZI a.TH (a.next.map Zn);rw[agC] at ln;have hd:decide ((a.next.length:Int)>256)=false:=by simp;omega
 simp only[go_sem,abn,nn,nf,ln,hd,UL]
def jh (k c:Nat):List AV:=[.int .i64 ((c / k:Nat):Int),.int .i64 ((c%k:Nat):Int)]
def afY (k:Nat)(f:Nat->AV):List Nat->Nat->List (AV×AV)
 |[],_=>[]
 |c::l,i=>(.agg (jh k c),f i)::afY k f l (i+1)
end Go.Am
namespace Go.Am
open Go
variable [Z4]
set_option maxRecDepth 100000
end Go.Am
namespace Go.Am
open Go
variable [Z4]
set_option maxRecDepth 100000
set_option maxHeartbeats 8000000
def ae_:RC:=(sO [ZA 4 0] (sO [om 5 0,om 6 1,sH 7 3 5 6,sG 8 3 7 1,om 4 8] .ret))
theorem aiV:Ze 164=some ([.tmp 4],ae_):=by kernel_rfl
def ae':RC:=(sO [ZA 4 0] (sO [om 5 0,om 6 1,O8 7 3 6 1,o 8 (.raw (.call { callee:=.builtin .max,args:=#[(.const (.int .i64 0)),(.tmp 7)],argTypes:=#[3,3] })),Zk 9 1 5 8,Z0 10 9,om 4 10] .ret))
theorem aiW:Ze 163=some ([.tmp 4],ae'):=by kernel_rfl
def BM:RC:=(sQ (sO [om 6 5,om 7 0,MP 8 7,YW 9 3 6 8] (cS 9 (.exit 0))) (sQ (.block 1 (sO [om 12 0,om 13 5,o 14 (.sZ (.t 12) (.t 13)),o 15 (.bin .eql 5 true (.t 14) (.v (.int .u8 48))),om 16 15,YE 17 16 1,YE 18 16 5,WY 19 16 164 17 18,RE 20 16 3 19 0,Zj 21 16 20,om 22 21,Yp 23 22 0,Yp 24 22 5,oF 25 22 (.sZ (.t 23) (.t 24)),oF 26 22 (.bin .eql 5 true (.t 25) (.v (.int .u8 49))),Yp 27 22 26,YE 28 27 1,YE 29 27 5,WY 30 27 164 28 29,RE 31 27 3 30 1,Td 32 22 27 31,Yo 33 22 32] (cT 33 (sO [Zc 4] .ret)))) (oP [om 10 5,YT 11 3 10 1,om 5 11])))
def afa:RC:=(sO [Zc 4] (sQ (sO [ZA 5 0] (.block 0 (.loop BM))) (sO [Un 4] .ret)))
theorem aiX:Ze 165=some ([.tmp 4],afa):=by kernel_rfl
def CF:RC:=(sQ (sQ (.TP 18 [om 7 2,UA 8 3 7 0,om 9 8,YE 10 9 0,YE 11 9 2,oT 12 9 (.bin .sub 3 true (.t 11) (vI 1)),Qc 13 9 1 10 12,YJ 14 9 13,YE 15 9 1,WY 16 9 164 14 15,YE 17 9 0,YE 18 9 2,Qc 19 9 1 17 18,YJ 20 9 19,YE 21 9 1,WY 22 9 164 20 21,Ja 23 9 3 16 22,Zj 24 9 23]) (cS 24 (.exit 0))) (.block 1 (oP [om 25 2,O8 26 3 25 1,om 2 26])))
def adH:RC:=(sO [ZA 6 0] (sQ (.block 0 (.loop CF)) (sO [om 27 2,om 6 27] .ret)))
theorem ahy:Ze 167=some ([.tmp 6],adH):=by kernel_rfl
def kJ:RC:=(sO [ZA 8 0,Zc 9] (sQ (sO [om 11 3,VT 12 3 11 0,om 13 12,Yp 14 13 0,Yp 15 13 3,oF 16 13 (.Jb 1 (.t 14) (.t 15)),XH 17 13 16,Yp 18 13 1,KX 19 13 164 17 18,Yp 20 13 2,oF 21 13 (.bin .eql 3 false (.t 19) (.t 20)),Yo 22 13 21,om 23 22,Yp 24 23 0,Yp 25 23 3,oF 26 23 (.bin .sub 3 true (.t 25) (vI 1)),oF 27 23 (.Jb 1 (.t 24) (.t 26)),XH 28 23 27,Yp 29 23 1,KX 30 23 164 28 29,Yp 31 23 2,Ag 32 23 3 30 31,Yo 33 23 32] (cT 33 (sO [ZA 8 0,Zc 9] .ret))) (sO [om 34 0,om 35 1,om 36 3,O8 37 3 36 1,Pa 38 167 34 35 37,om 10 38] (sO [om 39 10,om 40 10,UA 41 3 40 0,om 8 39,om 9 41] .ret))))
theorem aiY:Ze 166=some ([.tmp 8,.tmp 9],kJ):=by kernel_rfl
def BL:RC:=(sQ (sO [om 155 14,om 156 2,o 157 (.bin .leq 3 false (.t 155) (.t 156))] (cS 157 (.exit 1))) (sQ (.block 2 (.TP 20 [om 160 13,om 161 160,Yp 162 161 1,Yp 163 161 14,oF 164 161 (.Jb 1 (.t 162) (.t 163)),XH 165 161 164,VM 166 161 1 3,XH 167 161 166,KX 168 161 164 165 167,Yp 169 161 1,Yp 170 161 14,oF 171 161 (.bin .sub 3 true (.t 170) (vI 1)),oF 172 161 (.Jb 1 (.t 169) (.t 171)),XH 173 161 172,VM 174 161 1 3,XH 175 161 174,KX 176 161 164 173 175,Ag 177 161 3 168 176,Yo 178 161 177,om 13 178])) (oP [om 158 14,YT 159 3 158 1,om 14 159])))
def BK:RC:=(sQ (sO [om 205 17,om 206 2,YW 207 3 205 206,om 208 207,YE 209 208 16,Zj 210 208 209] (cS 210 (.exit 3))) (sQ (.block 4 (.TP 9 [om 213 1,om 214 17,Zk 215 1 213 214,Z0 216 215,ZX 217 2 3,Z0 218 217,YV 219 164 216 218,VT 220 3 219 0,om 16 220])) (oP [om 211 17,YT 212 3 211 1,om 17 212])))
def vE:RC:=(sQ (sO [om 232 19,ZX 233 6 3,Z0 234 233,YO 235 234,YW 236 3 232 235] (cS 236 (.exit 5))) (sQ (.block 6 (sO [ZX 239 6 3,Z0 240 239,om 241 19,Zk 242 7 240 241,Zr 243 7 242,om 244 1,om 245 2,Pa 246 97 243 244 245] (cT 246 (oP [om 247 18,YT 248 3 247 1,om 18 248])))) (oP [om 237 19,YT 238 3 237 1,om 19 238])))
def sy:RC:=(sO [Zp 3 39 0,Zc 6] (sQ (.TP 9 [om 20 1,om 21 2,Zk 22 1 20 21,Z0 23 22,om 24 1,om 25 2,YV 26 163 24 25,om 7 23,om 8 26]) (sQ (sO [ZX 27 0 3,Z0 28 27] (.block 0 (sO [Q6 30 9 28 104 105 103 104,om 29 30] (cO 29 (sO [om 31 7,ZX 32 1 3,Z0 33 32,YV 34 164 31 33,VT 35 3 34 1,om 6 35] .ret) (sO [TY 37 9 28 108 111 119,om 36 37] (cO 36 (sO [om 38 7,ZX 39 1 3,Z0 40 39,YV 41 164 38 40,VT 42 3 41 0,om 6 42] .ret) (sO [Q6 44 9 28 114 105 115 101,om 43 44] (cO 43 (sO [om 45 7,ZX 46 1 3,Z0 47 46,YV 48 164 45 47,VT 49 3 48 1,om 50 49,YE 51 50 8,Zb 52 50 1 3,YJ 53 50 52,WY 54 50 164 51 53,TL 55 50 3 54 0,Zj 56 50 55,om 6 56] .ret) (sO [Q6 58 9 28 102 97 108 108,om 57 58] (cO 57 (sO [om 59 7,ZX 60 1 3,Z0 61 60,YV 62 164 59 61,VT 63 3 62 0,om 64 63,YE 65 64 8,Zb 66 64 1 3,YJ 67 64 66,WY 68 64 164 65 67,TL 69 64 3 68 1,Zj 70 64 69,om 6 70] .ret) (sO [o 72 (.bin .eql 9 true (.t 28) (.v (.str [112,97,116,116,101,114,110]))),om 71 72] (cO 71 (sO [ZX 73 5 3,Z0 74 73,om 75 7,YV 76 165 74 75,om 6 76] .ret) (sO [MQ 78 9 28 101 110 116 101 114,om 77 78] (cO 77 (sO [ZX 79 5 3,Z0 80 79,om 81 7,YV 82 165 80 81,om 83 82,Zb 84 83 5 3,YJ 85 83 84,YE 86 83 8,WY 87 83 165 85 86,O7 88 83 87,Zj 89 83 88,om 6 89] .ret) (sO [MQ 91 9 28 112 117 108 115 101,om 90 91] (cO 90 (sO [om 93 1,ZX 94 1 3,Z0 95 94,om 96 2,o 97 (.call 166 [(.t 93),(.t 95),(vI 1),(.t 96)]),om 92 97,Zi 98 92 0,Zi 99 92 1,om 9 98,om 10 99] (sO [om 100 10,om 101 100,YE 102 101 2,YE 103 101 9,oT 104 101 (.bin .sub 3 false (.t 102) (.t 103)),Zb 105 101 3 3,YJ 106 101 105,Zb 107 101 4 3,YJ 108 101 107,sI 109 101 94 104 106 108,O7 110 101 109,Zj 111 101 110,om 6 111] .ret)) (sO [TY 113 9 28 103 97 112,om 112 113] (cO 112 (sO [om 115 1,ZX 116 1 3,Z0 117 116,om 118 2,o 119 (.call 166 [(.t 115),(.t 117),(vI 0),(.t 118)]),om 114 119,Zi 120 114 0,Zi 121 114 1,om 11 120,om 12 121] (sO [om 122 12,om 123 122,YE 124 123 2,YE 125 123 11,oT 126 123 (.bin .sub 3 false (.t 124) (.t 125)),Zb 127 123 3 3,YJ 128 123 127,Zb 129 123 4 3,YJ 130 123 129,sI 131 123 94 126 128 130,O7 132 123 131,Zj 133 123 132,om 6 133] .ret)) (sO [Q6 135 9 28 105 100 108 101,om 134 135] (cO 134 (sQ (.TP 12 [om 136 2,om 137 1,ZX 138 1 3,Z0 139 138,om 140 2,Pa 141 167 137 139 140,o 142 (.bin .sub 3 false (.t 136) (.t 141)),YT 143 3 142 1,ZX 144 3 3,Z0 145 144,ML 146 3 143 145,om 6 146]) .ret) (sO [MQ 148 9 28 115 101 116 117 112,om 147 148] (cO 147 (sO [Zc 13] (sQ (sO [om 149 2,ZX 150 3 3,Z0 151 150,o 152 (.bin .sub 3 false (.t 149) (.t 151)),YT 153 3 152 1,o 154 (.raw (.call { callee:=.builtin .max,args:=#[(.const (.int .i64 1)),(.tmp 153)],argTypes:=#[3,3] })),om 14 154] (.block 1 (.loop BL))) (sO [om 179 13,om 180 179,YE 181 180 7,Zb 182 180 2 3,YJ 183 180 182,WY 184 180 164 181 183,TL 185 180 3 184 1,Zj 186 180 185,om 187 186,YE 188 187 8,Zb 189 187 2 3,YJ 190 187 189,WY 191 187 164 188 190,TL 192 187 3 191 0,Zj 193 187 192,om 6 193] .ret))) (sO [Q6 195 9 28 114 117 110 116,om 194 195] (cO 194 (sO [om 197 1,ZX 198 1 3,Z0 199 198,om 200 2,o 201 (.call 166 [(.t 197),(.t 199),(vI 1),(.t 200)]),om 196 201,Zi 202 196 0,Zi 203 196 1,om 15 202,om 16 203] (sQ (sO [om 204 15,om 17 204] (.block 3 (.loop BK))) (sO [om 221 16,om 6 221] .ret))) (sO [TY 223 9 28 110 111 116,om 222 223] (cT 222 (sO [ZX 224 6 3,Z0 225 224,o 226 (.Jb 7 (.t 225) (vI 0)),Zr 227 7 226,om 228 1,om 229 2,Pa 230 97 227 228 229,Wh 231 230,om 6 231] .ret))))))))))))))))))))))))))) (sO [ZA 18 0] (sQ (sO [ZA 19 0] (.block 5 (.loop vE))) (sO [om 249 18,ZX 250 6 3,Z0 251 250,YO 252 251,ML 253 3 249 252,om 254 253,VM 255 254 0 3,XH 256 254 255,zl 257 254 9 256 97 110 121,Yp 258 254 257,YE 259 258 18,DC 260 258 3 259 0,Td 261 254 258 260,Yo 262 254 261,om 6 262] .ret))))))
theorem k97:Ze 97=some ([.tmp 6],sy):=by kernel_rfl
def agh:RC:=(sO [Zp 2 158 0,Zc 4] (sO [ZX 5 0 2,Z0 6 5,om 7 1,sH 8 3 6 7,sG 9 3 8 1,VT 10 3 9 1,om 4 10] .ret))
theorem aj7:Ze 198=some ([.tmp 4],agh):=by kernel_rfl
def agj:RC:=(sO [Zp 2 158 0,Zc 4] (sO [ZX 5 1 2,Z0 6 5,om 7 1,sH 8 3 6 7,sG 9 3 8 1,VT 10 3 9 1,om 4 10] .ret))
theorem aj8:Ze 201=some ([.tmp 4],agj):=by kernel_rfl
def agI:RC:=(sO [Zp 2 48 0,Zp 3 158 1,Zc 4] (sO [Zr 5 3 3,ZX 6 1 2,Z0 7 6,YV 8 198 5 7,om 4 8] .ret))
theorem akn:Ze 197=some ([.tmp 4],agI):=by kernel_rfl
def agJ:RC:=(sO [Zp 2 48 0,Zp 3 158 1,Zc 4] (sO [Zr 5 3 3,ZX 6 1 2,Z0 7 6,YV 8 198 5 7,Wh 9 8,om 4 9] .ret))
theorem ako:Ze 199=some ([.tmp 4],agJ):=by kernel_rfl
def agK:RC:=(sO [Zp 2 48 0,Zp 3 158 1,Zc 4] (sO [Zr 5 3 3,ZX 6 1 2,Z0 7 6,YV 8 198 5 7,om 9 8,Tf 10 9 3 3,Zb 11 9 1 2,YJ 12 9 11,WY 13 9 201 10 12,O7 14 9 13,Zj 15 9 14,om 4 15] .ret))
theorem akp:Ze 200=some ([.tmp 4],agK):=by kernel_rfl
def agL:RC:=(sO [Zp 2 48 0,Zp 3 158 1,Zc 4] (sO [Zr 5 3 3,ZX 6 1 2,Z0 7 6,YV 8 198 5 7,Wh 9 8,om 10 9,Tf 11 10 3 3,Zb 12 10 1 2,YJ 13 10 12,WY 14 10 201 11 13,Zj 15 10 14,om 4 15] .ret))
theorem akq:Ze 202=some ([.tmp 4],agL):=by kernel_rfl
def agM:RC:=(sO [Zp 2 48 0,Zp 3 158 1,Zc 4] (sO [ZX 5 5 2,Z0 6 5,ZX 7 0 3,Z0 8 7,YV 9 204 6 8,om 4 9] .ret))
theorem akr:Ze 203=some ([.tmp 4],agM):=by kernel_rfl
def agN:RC:=(sO [Zp 2 48 0,Zp 3 158 1,Zc 4] (sO [ZX 5 5 2,Z0 6 5,ZX 7 0 3,Z0 8 7,YV 9 204 6 8,om 10 9,Zb 11 10 5 2,YJ 12 10 11,Zb 13 10 1 3,YJ 14 10 13,WY 15 10 204 12 14,O7 16 10 15,Zj 17 10 16,om 4 17] .ret))
theorem aks:Ze 205=some ([.tmp 4],agN):=by kernel_rfl
def agO:RC:=(sO [Zp 3 48 0,Zp 5 158 2,ZA 6 0,Zc 7] (sQ (sQ (.TP 13 [ZX 8 2 5,Z0 9 8,om 10 9,KW 11 10 3 5,VM 12 10 1 3,XH 13 10 12,KX 14 10 198 11 13,KW 15 10 3 5,VM 16 10 1 3,XH 17 10 16,KX 18 10 201 15 17,Ag 19 10 4 14 18,Yo 20 10 19]) (cT 20 (oP [ZA 1 0]))) (sO [om 21 1,YT 22 3 21 1,ZX 23 3 3,Z0 24 23,YT 25 3 24 1,zk 26 22 25 3 3,om 1 26] (sQ (.TP 7 [om 27 1,om 28 1,ZX 29 3 3,Z0 30 29,ML 31 3 28 30,om 6 27,om 7 31]) .ret))))
theorem akt:Ze 207=some ([.tmp 6,.tmp 7],agO):=by kernel_rfl
def agP:RC:=(sO [Zp 3 48 0,Zp 5 158 2,ZA 6 0,Zc 7] (sO [om 8 1,YT 9 3 8 1,ZX 10 3 3,Z0 11 10,zk 12 9 11 3 3,om 1 12] (sQ (sQ (.TP 9 [Zr 13 3 5,ZX 14 1 3,Z0 15 14,YV 16 198 13 15,Zr 17 3 5,ZX 18 1 3,Z0 19 18,YV 20 201 17 19,OD 21 4 16 20]) (cT 21 (oP [ZA 1 0]))) (sQ (.TP 20 [om 22 1,Zr 23 3 5,ZX 24 2 3,Z0 25 24,YV 26 198 23 25,om 27 26,Tf 28 27 3 5,Zb 29 27 2 3,YJ 30 27 29,WY 31 27 201 28 30,O7 32 27 31,Zj 33 27 32,om 34 33,YE 35 34 1,Zb 36 34 3 3,YJ 37 34 36,oT 38 34 (.bin .lss 3 false (.t 35) (.t 37)),Zj 39 34 38,om 6 22,om 7 39]) .ret))))
theorem aku:Ze 209=some ([.tmp 6,.tmp 7],agP):=by kernel_rfl
def agQ:RC:=(sO [Zp 3 48 0,Zp 5 158 2,ZA 6 0,Zc 7] (sQ (.block 0 (sO [Zr 9 3 5,ZX 10 1 3,Z0 11 10,YV 12 198 9 11,Wh 13 12,om 8 13] (cO 8 (sO [Zr 14 3 5,ZX 15 1 3,Z0 16 15,YV 17 201 14 16,om 18 17,YE 19 18 1,TL 20 18 3 19 2,Zj 21 18 20,ZA 6 0,om 7 21] .ret) (sO [ZX 23 2 5,Z0 24 23,Wh 25 24,om 26 25,Tf 27 26 3 5,Zb 28 26 2 3,YJ 29 26 28,WY 30 26 198 27 29,O7 31 26 30,Zj 32 26 31,om 33 32,Tf 34 33 3 5,Zb 35 33 1 3,YJ 36 33 35,WY 37 33 201 34 36,O7 38 33 37,YE 39 33 38,Yp 40 39 1,oF 41 39 (.bin .eql 3 true (.t 40) (vI 2)),oT 42 33 (.pick (.t 39) vT (.t 41)),Zj 43 33 42,om 22 43] (cT 22 (sO [ZA 6 2,Zc 7] .ret)))))) (sO [ZA 6 1,Zc 7] .ret)))
theorem akv:Ze 211=some ([.tmp 6,.tmp 7],agQ):=by kernel_rfl
def agR:RC:=(sO [Zp 4 48 0,Zp 6 158 2,ZA 7 0,Zc 8] (sO [om 9 1,Z0 10 3,Zr 11 7 4,Zr 12 3 6,o 13 (.IU (.t 10) [(.t 11),(.t 12)]),om 7 9,om 8 13] .ret))
theorem akw:Ze 235=some ([.tmp 7,.tmp 8],agR):=by kernel_rfl
def agS:RC:=(sO [Zp 4 48 0,Zp 6 158 2,ZA 7 0,Zc 8] (sQ (.TP 14 [Zr 11 3 6,ZX 12 1 4,Z0 13 12,YV 14 198 11 13,Z0 15 3,ML 16 4 14 15,Zr 17 3 6,ZX 18 1 4,Z0 19 18,YV 20 201 17 19,Z0 21 3,ML 22 4 20 21,om 9 16,om 10 22]) (sQ (.block 0 (sO [om 24 9,Wh 25 24,om 23 25] (cO 23 (sQ (.TP 15 [om 26 10,om 27 26,YE 28 27 1,Zb 29 27 3 4,YJ 30 27 29,oT 31 27 (.bin .geq 3 false (.t 28) (.t 30)),Zj 32 27 31,om 33 32,YE 34 33 1,Zb 35 33 4 4,YJ 36 33 35,oT 37 33 (.bin .leq 3 false (.t 34) (.t 36)),Zj 38 33 37,ZA 7 0,om 8 38]) .ret) (sO [ZX 40 2 6,Z0 41 40,om 39 41] (cO 39 (sO [ZX 42 4 4,Z0 43 42,YT 44 3 43 1,om 7 44,Zc 8] .ret) (sO [om 46 10,Wh 47 46,om 45 47] (cT 45 (sO [ZA 7 1,Zc 8] .ret)))))))) (sO [om 48 1,YT 49 3 48 1,ZX 50 4 4,Z0 51 50,YT 52 3 51 1,zk 53 49 52 3 3,om 7 53,Zc 8] .ret))))
theorem akx:Ze 236=some ([.tmp 7,.tmp 8],agS):=by kernel_rfl
def CA:RC:=(sO [YW 15 3 14 13] (sQ (cS 15 (.exit 0)) (sQ (.block 1 (sO [Zk 16 7 12 14,Zr 17 7 16,Om 5 0 0 0 0 48,YU 7 5 17] (oP [om 18 3,Zr 19 7 5,YN 20 160 19,WZ 21 48 7 88 18 20,om 3 21]))) (oP [YT 22 3 14 1,om 14 22]))))
def aaW:RC:=(sO [Zp 1 48 0,VR 2] (sQ (sO [Zr 6 7 1,YN 7 213 6,Wh 8 7] (cT 8 (sO [Zr 9 7 1,o 10 (.U3 48 7 1 [(.str []),(iI 0),(iI 0),(iI 0),(iI 0),(.str []),.ZW] [(0,7,(.t 9))]),om 2 10] .ret))) (sO [VR 3] (sQ (sO [ZX 11 6 1,Z0 12 11,YO 13 12,ZA 14 0] (.block 0 (.loop CA))) (sO [om 23 3,om 2 23] .ret)))))
theorem ahA:Ze 160=some ([.tmp 2],aaW):=by kernel_rfl
def Br:RC:=(sO [YW 19 3 18 17] (sQ (cS 19 (.exit 0)) (sQ (.block 1 (sO [Zk 20 7 16 18,Zr 21 7 20,Om 8 0 0 0 0 48,YU 7 8 21] (sO [Zr 22 7 8,om 23 1,YV 24 161 22 23,om 9 24] (oP [om 25 5,om 26 25,Yp 27 26 9,Yo 28 26 27,om 29 6,om 30 29,YE 31 30 9,Zj 32 30 31,om 5 28,om 6 32])))) (oP [YT 33 3 18 1,om 18 33]))))
def bC:RC:=(sO [Zp 2 48 0,Zc 4] (sQ (sO [Zr 10 7 2,YN 11 213 10,Wh 12 11] (cT 12 (sO [om 13 1,o 14 (.IU (.t 13) []),om 4 14] .ret))) (sO [Zc 5,Un 6] (sQ (sO [ZX 15 6 2,Z0 16 15,YO 17 16,ZA 18 0] (.block 0 (.loop Br))) (sQ (sO [ZX 34 0 2,Z0 35 34] (.block 2 (sO [TY 37 9 35 110 111 116,om 36 37] (cO 36 (sO [om 38 5,Wh 39 38,om 4 39] .ret) (sO [TY 41 9 35 97 110 121,om 40 41] (cT 40 (sO [om 42 5,om 4 42] .ret))))))) (sO [om 43 6,om 4 43] .ret))))))
theorem aky:Ze 161=some ([.tmp 4],bC):=by kernel_rfl
def agT:RC:=(sO [Zc 2] (sO [Z0 3 0,YT 4 3 3 1,YU 1 0 4] (sO [Z0 5 1,Z0 6 0,Zk 7 1 5 6,Z0 8 7,om 2 8] .ret)))
theorem akz:Ze 162=some ([.tmp 2],agT):=by kernel_rfl
def Pp:RC:=(sO [o 9 (.raw (.next (.tmp 8) true)),Zi 10 9 0] (sQ (cS 10 (.exit 0)) (.block 1 (sO [Zi 11 9 1,Zi 12 9 2,om 5 11,om 6 12] (sO [om 13 6] (.block 2 (sQ (sO [o 15 (.bin .eql 21 true (.t 13) (.v (.int .i32 48))),om 14 15] (cS 14 (oP [o 16 (.bin .eql 21 true (.t 13) (.v (.int .i32 49))),om 14 16]))) (cT 14 (sO [om 17 1,om 18 5,sH 19 3 17 18,sG 20 3 19 1,o 21 (.bin .add 3 true (vI 48) (.t 20)),o 22 (.raw (.convert 3 21 (.tmp 21))),om 23 6,OD 24 21 22 23] (cT 24 (sO [Zc 4] .ret)))))))))))
def agk:RC:=(sO [Zc 4] (sQ (sO [om 7 0,o 8 (.raw (.range 9 (.tmp 7)))] (.block 0 (.loop Pp))) (sO [Un 4] .ret)))
theorem aj9:Ze 204=some ([.tmp 4],agk):=by kernel_rfl
def Zy (n k:Int):Int:=n / 2^k.toNat%2
theorem Lv (n k:Int):Zy n k=0\/Zy n k=1:=by unfold Zy;omega
theorem Hs (t:TypeId)(cst:Bool)(a b:Int)(h0:0<=b)(h1:b<=64):Wg U .shr t cst (.int .i64 a) (.int .i64 b)=some (.int .i64 (a / 2^b.toNat)):=by
 have:min b.toNat IntKind.i64.bits=b.toNat:=by
  have:IntKind.i64.bits=64:=rfl;omega
 simp only[Wg,JN,if_neg (show ¬b<0 by omega),this];rw[Int.fdiv_eq_ediv_of_nonneg];exact Int.pow_nonneg (by decide)
theorem KJ (t:TypeId)(cst:Bool)(a:Int)(h0:0<=a)(h1:a<2^62):Wg U .and t cst (.int .i64 a) (.int .i64 1)=some (.int .i64 (a%2)):=by
 simp only[Wg,if_true,Mc];have h2:IntKind.i64.bits=64:=rfl;rw[h2];have:((BitVec.ofInt 64 a &&& BitVec.ofInt 64 1).toNat:Int)=a%2:=by
  rw[BitVec.toNat_and,BitVec.toNat_ofInt,BitVec.toNat_ofInt];have e1:(1%((2^64:Nat):Int)).toNat=1:=by decide
  have e2:(a%((2^64:Nat):Int)).toNat=a.toNat:=by
   rw[Int.emod_eq_of_lt h0 (by omega)]
  rw[e1,e2,Nat.and_one_is_mod];omega
 rw[this,wrap_i64] <;> omega
theorem BD {n:Int}(k:Nat)(h:0<=n):0<=n / 2^k/\n / 2^k<=n:=by
 have:(0:Int)<2^k:=Int.pow_pos (by decide);refine⟨Int.ediv_nonneg h (by omega),?_⟩;exact Int.ediv_le_self _ h
theorem JH (n k:Int)(h0:0<=n)(h1:n<2^62)(h2:0<=k)(h3:k<=64):ZE U 164 [.int .i64 n,.int .i64 k]=some (.int .i64 (Zy n k)):=by
 refine ZR aiV (by kernel_rfl) rfl ?_;have:=BD k.toNat h0;simp only[go_sem,ae_,Hs _ _ _ _ h2 h3,KJ _ _ _ this.1 (by omega)];rfl
def Hb (l:List Int):Prop:=l.length<=4096/\∀x∈l,0<=x/\x<65536
theorem vh {l:List Int}(h:Hb l)(t:Int):0<=Xg l t/\Xg l t<65536:=by
 unfold Xg;rw[alM]
 cases hg:l[t.toNat]? with
 |none=>simp
 |some x=>exact h.2 x (amu hg)
theorem SC {l:List Int}(h:Hb l)(t k:Int)(h2:0<=k)(h3:k<64):ZE U 164 [.int .i64 (Xg l t),.int .i64 k]=some (.int .i64 (Zy (Xg l t) k)):=by
 have:=vh h t;exact JH _ _ this.1 (by omega) h2 (by omega)
def QS (l:List Int)(t:Int):Int:=Xg l (max 0 (t-1))
theorem ajo (nl:Bool)(l:List Int)(t:Int)(h0:0<=t)(h1:t.toNat<l.length)(h2:l.length<2^40):ZE U 163 [ZG nl (ints l),.int .i64 t]=some (.int .i64 (QS l t)):=by
 refine ZR aiW (by kernel_rfl) (by simp[ZU,X7,still]) ?_;have hw:IntKind.i64.wrap (t-1)=t-1:=by rw[wrap_i64] <;> omega
 have hm:∀e s,Env.get e 7=.int .i64 (t-1)->YI U (Yf U) e (.call { callee:=.builtin .max,args:=#[(.const (.int .i64 0)),(.tmp 7)],argTypes:=#[3,3] }) s=some (.int .i64 (max 0 (t-1)),s):=by
  intro e s h;simp only[YI,Wk,eval,mS,h,Yj,vZ]
  congr 3
  split <;> omega
 have hb:(max 0 (t-1)).toNat<l.length:=by omega
 simp only[go_sem,ae',hw,sP (nl:=nl) (l:=l) (t:=max 0 (t-1)) (by omega) hb];rfl
def runN (l:List Int)(k:Int):Nat->Nat
 |0=>0
 |t+1=>bif Zy (Xg l (t:Int)) k==Zy (Xg l ((t+1:Nat):Int)) k then runN l k t else t+1
theorem NN (l:List Int)(k:Int):∀t,runN l k t<=t
 |0=>agB _
 |t+1=>by
  unfold runN
  cases Zy (Xg l (t:Int)) k==Zy (Xg l ((t+1:Nat):Int)) k with
  |true=>have:=NN l k t;show runN l k t<=t+1;omega
  |false=>exact agB _
theorem adG (nl:Bool)(l:List Int)(k:Int)(t:Nat)(hl:Hb l)(h2:0<=k)(h3:k<64)(ht:t<l.length) :
  ZE U 167 [ZG nl (ints l),.int .i64 k,.int .i64 (t:Int)]=some (.int .i64 (runN l k t:Nat)):=by
 refine ZR ahy (by kernel_rfl) (by simp[ZU,X7,still]) ?_;have hlen:=hl.1;have CG:=fun t=>SC hl t k h2 h3
 simp only[go_sem,adH];refine YH (σ:=Nat) (fun i=>i) (fun i=>some (AV.int .i64 (runN l k i:Nat))) (fun i e s=>i<l.length/\Env.get e 0=ZG nl (ints l)/\Env.get e 1=.int .i64 k/\Env.get e 2=.int .i64 (i:Int)) t ?_ rfl ?_
 ·rintro L i e s ⟨hi,g0,g1,g2⟩ ih
  cases i with
  |zero =>
   have hp:decide (((0:Nat):Int)>0)=false:=by decide
   simp only[go_sem,CF,g0,g1,g2,hp];rfl
  |succ i =>
   have hp:decide (((i+1:Nat):Int)>0)=true:=decide_eq_true (by omega);have hw:IntKind.i64.wrap (((i+1:Nat):Int)-1)=(i:Int):=by rw[wrap_i64] <;> omega
   simp only[go_sem,CF,g0,g1,g2,hp,hw,Ys (nl:=nl) (show i<l.length by omega),Ys (nl:=nl) hi,CG];rw[runN]
   cases hb:Zy (Xg l (i:Int)) k==Zy (Xg l ((i+1:Nat):Int)) k with
   |true =>
    simp only[go_sem];refine ih i _ _ (by omega) ⟨by omega,?_,?_,?_⟩ <;> simp only[go_sem,g0,g1]
   |false =>
    simp only[go_sem]
 ·refine⟨ht,?_,?_,?_⟩ <;> simp only[go_sem]
def Lt (l:List Int)(k Og:Int)(t:Nat):Bool:=(t:Int)==0||Zy (Xg l (t:Int)) k==Og||Zy (Xg l ((t-1:Nat):Int)) k != Og
def WI (l:List Int)(k Og:Int)(t:Nat):Nat:=bif Lt l k Og t then 0 else runN l k (t-1)
def Tl (l:List Int)(k Og:Int)(t:Nat):Bool:=bif Lt l k Og t then false else decide (0<runN l k (t-1))
theorem aj1 (nl:Bool)(l:List Int)(k Og:Int)(t:Nat)(hl:Hb l)(h2:0<=k)(h3:k<64)(ht:t<l.length) :
  ZE U 166 [ZG nl (ints l),.int .i64 k,.int .i64 Og,.int .i64 (t:Int)]=some (.XU [.int .i64 (WI l k Og t:Nat),.bool (Tl l k Og t)]):=by
 refine ZR aiY (by kernel_rfl) (by simp[ZU,X7,still]) ?_;have hlen:=hl.1;have CG:=fun t=>SC hl t k h2 h3
 cases t with
 |zero =>
  have hp:(((0:Nat):Int)==0)=true:=by decide
  simp +contextual only[go_sem,kJ,hp];rfl
 |succ i =>
  have hp:(((i+1:Nat):Int)==0)=false:=by simp;omega
  have hw:IntKind.i64.wrap (((i+1:Nat):Int)-1)=(i:Int):=by rw[wrap_i64] <;> omega
  have hi:i<l.length:=by omega
  have hr:=adG nl l k i hl h2 h3 hi;have hg:decide (((runN l k i:Nat):Int)>0)=decide (0<runN l k i):=by congr 1;apply propext;omega
  rw[WI,Tl,Lt,hp,Nat.add_sub_cancel,amf]
  cases ha:Zy (Xg l ((i+1:Nat):Int)) k==Og with
  |true =>
   simp +contextual only[go_sem,kJ,hp,Ys (nl:=nl) ht,CG,ha,Bool.true_or];rfl
  |false =>
   cases hb:Zy (Xg l (i:Int)) k != Og with
   |true =>
    simp +contextual only[go_sem,kJ,hp,hw,Ys (nl:=nl) hi,Ys (nl:=nl) ht,CG,ha,hb];rfl
   |false =>
    simp +contextual only[go_sem,kJ,hp,hw,Ys (nl:=nl) hi,Ys (nl:=nl) ht,CG,ha,hb,hr,hg];rfl
def iM (sym:Int)(i:Nat)(c:UInt8):Bool:=c==48&&Zy sym (i:Int) != 0||c==49&&Zy sym (i:Int) != 1
def yW (sym:Int):Nat->XV->Bool
 |_,[]=>true
 |i,c::l=>bif iM sym i c then false else yW sym (i+1) l
theorem agb (pat:XV)(sym:Int)(hs:0<=sym/\sym<65536)(hp:pat.length<=64):ZE U 165 [.str pat,.int .i64 sym]=some (.bool (yW sym 0 pat)):=by
 refine ZR aiX (by kernel_rfl) rfl ?_;simp +contextual only[go_sem,afa];refine YH (σ:=Nat) (fun i=>pat.length-i) (fun i=>some (AV.bool (yW sym i (pat.drop i)))) (fun i e s=>i<=pat.length/\Env.get e 0=.str pat/\Env.get e 1=.int .i64 sym/\Env.get e 5=.int .i64 i) 0 ?_ rfl ?_
 ·rintro L i e s ⟨hi,h0,h1,h5⟩ ih;by_cases hd:i<pat.length
  ·have hx:pat[i]? = some pat[i]:=aaa hd;have hw:=ZN hd (by omega);have hb:=JH sym (i:Int) hs.1 (by omega) (by omega) (by omega);rw[abc hd,yW,iM];simp +contextual only[go_sem,BM,h0,h1,h5,Z8,hd,hx,Bt _ 48 48 rfl,Bt _ 49 49 rfl,hb]
   cases hc:(pat[i]==48&&Zy sym (i:Int) != 0||pat[i]==49&&Zy sym (i:Int) != 1)
   ·simp +contextual only[go_sem,hw,Xv];refine ih (i+1) _ _ (by omega) ⟨by omega,?_,?_,?_⟩ <;> simp +contextual only[go_sem,h0,h1]
   ·simp +contextual only[go_sem]
  ·have:i=pat.length:=by omega
   subst this;simp +contextual only[go_sem,BM,h0,h5,Z8,alh];rw[alO];rfl
 ·refine⟨aic _,?_,?_,?_⟩ <;> simp +contextual only[go_sem] <;> rfl
end Go.Am
namespace Go.Am
open Go
variable [Z4]
def Z5.wf:Z5->Prop
 |.mk k a b mi ma pat _ kids=>(0<=a/\a<16)/\(0<=b/\b<16)/\(0<=mi/\mi<=255)/\(0<=ma/\ma<=255)/\pat.length<=16/\(∀c∈pat,c=48\/c=49\/c=120) /\
  (ZF k).known=true/\(ZF k=.QG->kids.length=1)/\((YQ (ZF k)).kids=false->kids=[])/\((YQ (ZF k)).kids=true->kids≠[])/\((YQ (ZF k)).mi=true->1<=mi)/\kids.length<=8/\∀x∈kids,x.wf
theorem Dj {lines d:Int}:∀{l:List Z5},Pz lines l d=0->∀x∈l,Mr lines x d=0
 |[],_,x,hx=>by cases hx
 |c::l,h,x,hx=>by
  rw[Pz] at h
  cases hb:Mr lines c d != 0 with
  |true =>
   rw[hb] at h;have h:Mr lines c d=0:=h;rw[h] at hb;cases hb
  |false =>
   rw[hb] at h;rcases alL.1 hx with rfl|hx
   ·simpa using hb
   ·exact Dj h x hx
theorem vk {pat:XV}{lines:Int}(h:MA pat lines=false):(pat.length:Int)=lines/\∀c∈pat,c=48\/c=49\/c=120:=by
 unfold MA at h;rw[ame] at h;refine⟨by simpa using h.1,fun c hc=>?_⟩;have:=List.any_eq_false.1 h.2 c hc;by_cases h1:c=48
 ·exact .inl h1
 ·by_cases h2:c=49
  ·exact .inr (.inl h2)
  ·by_cases h3:c=120
   ·exact .inr (.inr h3)
   ·exact absurd (by simp[h1,h2,h3]) this
theorem kR {lines:Int}(h1:1<=lines)(h2:lines<=16):∀(c:Z5) (d:Int),Mr lines c d=0->c.wf:=by
 intro c
 induction c using Z5.ind with
 |h k a b mi ma pat nl kids ih =>
 intro d h;rw[Mr] at h;obtain⟨-,h⟩:=U5 h (by decide);obtain⟨q1,h⟩:=U5 h (by decide);obtain⟨q2,h⟩:=U5 h (by decide);obtain⟨q3,h⟩:=U5 h (by decide);obtain⟨-,h⟩:=U5 h (by decide);obtain⟨q5,h⟩:=U5 h (by decide);obtain⟨-,h⟩:=U5 h (by decide);obtain⟨q7,h⟩:=U5 h (by decide);obtain⟨q8,h⟩:=U5 h (by decide);obtain⟨q9,h⟩:=U5 h (by decide);obtain⟨Cd,h⟩:=U5 h (by decide);have hk:=fun x hx=>ih x hx _ (Dj h x hx)
 rw[wrap_i64 (by omega) (by omega)] at q3;simp only[ame,Bool.and_eq_false_iff] at q2 q3 q5 q7 q8 q9 Cd;rw[ze] at q8;rw[Z5.wf];generalize ZF k=dd at *;have ha:0<=a/\a<16:=by
  cases hu:(YQ dd).a with
  |true=>rcases q3.1 with h|h;(rw[hu] at h;cases h);have:=Pv h;omega
  |false =>
    rcases q2.1.1.1.1.1 with h|h;(rw[hu] at h;cases h);have:a=0:=by simpa using h
    omega
 have hb:0<=b/\b<16:=by
  cases hu:(YQ dd).b with
  |true=>rcases q3.2 with h|h;(rw[hu] at h;cases h);have:=Pv h;omega
  |false =>
    rcases q2.1.1.1.1.2 with h|h;(rw[hu] at h;cases h);have:b=0:=by simpa using h
    omega
 have hm:0<=mi/\mi<=255/\((YQ dd).mi=true->1<=mi):=by
  cases hu:(YQ dd).mi with
  |true=>rcases q5.1 with h|h;(rw[hu] at h;cases h);have:=Pv h;omega
  |false =>
    rcases q2.1.1.1.2 with h|h;(rw[hu] at h;cases h);have:mi=0:=by simpa using h
    subst this;exact⟨by omega,by omega,fun h=>by cases h⟩
 have hM:0<=ma/\ma<=255:=by
  cases hu:(YQ dd).ma with
  |true=>rcases q5.2 with h|h;(rw[hu] at h;cases h);have:=Pv h;omega
  |false =>
    rcases q2.1.1.2 with h|h;(rw[hu] at h;cases h);have:ma=0:=by simpa using h
    omega
 have hp:pat.length<=16/\∀c∈pat,c=48\/c=49\/c=120:=by
  cases hu:(YQ dd).pat with
  |true=>rcases q7 with h|h;(rw[hu] at h;cases h);have:=vk h;exact⟨by omega,this.2⟩
  |false =>
    rcases q2.1.2 with h|h;(rw[hu] at h;cases h);have:pat=[]:=by simpa using h
    subst this;exact⟨by simp,by simp⟩
 refine⟨ha,hb,⟨hm.1,hm.2.1⟩,hM,hp.1,hp.2,by simpa using q1,fun hd=>?_,fun hu=>?_,fun hu=>?_,hm.2.2,?_,hk⟩
 ·rcases q8 with h|h
  ·simp[hd] at h
  ·have:(kids.length:Int)=1:=by simpa using h
   omega
 ·rcases q2.2 with h|h
  ·rw[hu] at h;cases h
  ·have:¬(kids.length:Int)>0:=by simpa using h
   exact List.eq_nil_of_length_eq_zero (by omega)
 ·rcases q9 with h|h
  ·rw[hu] at h;cases h
  ·intro e;subst e;simp at h
 ·cases hu:(YQ dd).kids with
  |true =>
   rcases Cd with h|h
   ·rw[hu] at h;cases h
   ·have:¬(kids.length:Int)>8:=by simpa using h
    omega
  |false =>
   rcases q2.2 with h|h
   ·rw[hu] at h;cases h
   ·have:¬(kids.length:Int)>0:=by simpa using h
    omega
def dI (l:List Int)(k:Int):Nat->Nat->Bool->Bool
 |_,0,p=>p
 |u,n+1,p=>dI l k (u+1) n (p||Zy (Xg l (u:Int)) k != Zy (Xg l ((u-1:Nat):Int)) k)
def low (l:List Int)(k:Int):Nat->Nat->Bool->Bool
 |_,0,p=>p
 |u,n+1,p=>bif p then low l k (u+1) n (Zy (Xg l (u:Int)) k==0) else false
def XO (t:Nat)(mi:Int):Nat:=(max 1 ((t:Int)-mi+1)).toNat
mutual
def atR (l:List Int)(t:Nat):Z5->Bool
 |.mk k a b mi ma pat nl kids =>
  let now:=Xg l (t:Int)
  let was:=QS l (t:Int)
  match ZF k with
  |.high=>Zy now a==1
  |.low=>Zy now a==0
  |.Iz=>Zy now a==1&&Zy was a==0
  |.fall=>Zy now a==0&&Zy was a==1
  |.pattern=>yW now 0 pat
  |.enter=>yW now 0 pat&&!yW was 0 pat
  |.Vj=>Tl l a 1 t&&!outside ((t:Int)-(WI l a 1 t:Nat)) mi ma
  |.gap=>Tl l a 0 t&&!outside ((t:Int)-(WI l a 0 t:Nat)) mi ma
  |.idle=>(t:Int)-(runN l a t:Nat)+1==mi
  |.setup=>dI l a (XO t mi) (t+1-XO t mi) false&&Zy now b==1&&Zy was b==0
  |.Uf=>low l b (WI l a 1 t) (t-WI l a 1 t) (Tl l a 1 t)
  |.QG=>!pY l t kids
  |d=>((JC l t kids:Nat):Int)==((kids.length:Nat):Int)||decide (d=.OV)&&decide (((JC l t kids:Nat):Int)>0)
def pY (l:List Int)(t:Nat):List Z5->Bool
 |[]=>false
 |c::_=>atR l t c
def JC (l:List Int)(t:Nat):List Z5->Nat
 |[]=>0
 |c::k=>(bif atR l t c then 1 else 0)+JC l t k
end
end Go.Am
namespace Go.Am
open Go
variable [Z4]
set_option maxRecDepth 100000
set_option maxHeartbeats 8000000
theorem L7 (a b:Nat):decide ((a:Int)<=(b:Int))=decide (a<=b):=by congr 1;apply propext;omega
theorem Qv (l:List Int)(k:Int)(u:Nat):∀n,low l k u n false=false
 |0=>rfl
 |n+1=>rfl
theorem c97 (nl:Bool)(l:List Int)(hl:Hb l)(t:Nat)(ht:t<l.length):∀c:Z5,c.wf->ZE U 97 [Zw c,ZG nl (ints l),.int .i64 (t:Int)]=some (.bool (atR l t c)):=by
 intro c
 induction c using Z5.ind with
 |h k a b mi ma pat knl kids ih =>
 intro S3;rw[Z5.wf] at S3;obtain⟨⟨od,ha1⟩,⟨Er,UP⟩,⟨oq,Be⟩,⟨hM0,hM1⟩,hp,-,Cn,eT,aga,ZC,Bi,fY,nk⟩:=S3;have hlen:=hl.1;have ajZ:=vh hl (t:Int);have aj0:0<=QS l (t:Int)/\QS l (t:Int)<65536:=vh hl _;have b1:=SC hl (t:Int) a od (by omega);have b2:=SC hl (max 0 ((t:Int)-1)) a od (by omega);have b3:=SC hl (t:Int) b Er (by omega);have b4:=SC hl (max 0 ((t:Int)-1)) b Er (by omega);have cb:=ajo nl l (t:Int) (by omega) (by omega) (by omega);have m1:=agb pat _ ajZ (by omega);have m2:=agb pat _ aj0 (by omega);have e1:=fun Og=>aj1 nl l a Og t hl od (by omega) ht
 have cr:=adG nl l a t hl od (by omega) ht;have hef:∀Og,WI l a Og t<=t:=fun Og=>by
  unfold WI
  cases Lt l a Og t with
  |true=>exact aic _
  |false=>have:=NN l a (t-1);show runN l a (t-1)<=t;omega
 have hrn:=NN l a t;have w1:∀Og,IntKind.i64.wrap ((t:Int)-(WI l a Og t:Nat))=(t:Int)-(WI l a Og t:Nat):=fun Og=>by
  have:=hef Og;rw[wrap_i64] <;> omega
 have w2:IntKind.i64.wrap ((t:Int)-(runN l a t:Nat))=(t:Int)-(runN l a t:Nat):=by rw[wrap_i64] <;> omega
 have w3:IntKind.i64.wrap ((t:Int)-(runN l a t:Nat)+1)=(t:Int)-(runN l a t:Nat)+1:=by rw[wrap_i64] <;> omega
 have w4:IntKind.i64.wrap ((t:Int)-mi)=(t:Int)-mi:=by rw[wrap_i64] <;> omega
 have w5:IntKind.i64.wrap ((t:Int)-mi+1)=(t:Int)-mi+1:=by rw[wrap_i64] <;> omega
 refine ZR k97 (by kernel_rfl) (by simp[ZU,X7,still,Zt]) ?_;rw[Zw,atR];obtain⟨h0,h1,h2,h3,h4,h5,h6,h7,h8,h9,h10,h11,h12,h13,h14⟩:=UN k;unfold QS at *;generalize ZF k=dd at *
 cases dd
 all_goals simp only[reduceCtorEq,decide_true,decide_false] at h1 h2 h3 h4 h5 h6 h7 h8 h9 h10 h11 h12 h13 h14
 case high=>simp (maxSteps:=2000000) +contextual only[go_sem,sy,h1,Ys (nl:=nl) ht,cb,b1]
 case low=>simp (maxSteps:=2000000) +contextual only[go_sem,sy,h1,h2,Ys (nl:=nl) ht,cb,b1]
 case Iz=>simp (maxSteps:=2000000) +contextual only[go_sem,sy,h1,h2,h3,Ys (nl:=nl) ht,cb,b1,b2]
 case fall=>simp (maxSteps:=2000000) +contextual only[go_sem,sy,h1,h2,h3,h4,Ys (nl:=nl) ht,cb,b1,b2]
 case pattern=>simp (maxSteps:=2000000) +contextual only[go_sem,sy,h1,h2,h3,h4,h5,Ys (nl:=nl) ht,cb,m1]
 case enter=>simp (maxSteps:=2000000) +contextual only[go_sem,sy,h1,h2,h3,h4,h5,h6,Ys (nl:=nl) ht,cb,m1,m2]
 case Vj=>simp (maxSteps:=2000000) +contextual only[go_sem,sy,h1,h2,h3,h4,h5,h6,h7,Ys (nl:=nl) ht,cb,e1,w1,aA]
 case gap=>simp (maxSteps:=2000000) +contextual only[go_sem,sy,h1,h2,h3,h4,h5,h6,h7,h8,Ys (nl:=nl) ht,cb,e1,w1,aA]
 case idle=>simp (maxSteps:=2000000) +contextual only[go_sem,sy,h1,h2,h3,h4,h5,h6,h7,h8,h9,Ys (nl:=nl) ht,cb,cr,w2,w3]
 case setup =>
  have hsf:max 1 ((t:Int)-mi+1)=((XO t mi:Nat):Int):=by unfold XO;omega
  have fH:1<=XO t mi/\XO t mi<=t+1:=by unfold XO;omega
  simp (maxSteps:=2000000) +contextual only[go_sem,sy,h1,h2,h3,h4,h5,h6,h7,h8,h9,h10,Ys (nl:=nl) ht,cb,w4,w5];refine YH (σ:=Nat×Bool) (fun x=>t+1-x.1) (fun x=>some (AV.bool (dI l a x.1 (t+1-x.1) x.2&&Zy (Xg l (t:Int)) b==1&&Zy (Xg l (max 0 ((t:Int)-1))) b==0)))
   (fun x e s=>1<=x.1/\x.1<=t+1/\Env.get e 1=ZG nl (ints l)/\Env.get e 2=.int .i64 (t:Int)/\Env.get e 3=.ptr 8 0/\Env.get e 7=.int .i64 (Xg l (t:Int))/\Env.get e 8=.int .i64 (Xg l (max 0 ((t:Int)-1)))/\Env.get e 13=.bool x.2/\Env.get e 14=.int .i64 (x.1:Int) /\
    s.get 8=some (.cells [.str k,.int .i64 a,.int .i64 b,.int .i64 mi,.int .i64 ma,.str pat,ZG knl (WW kids)] 39 false 0 0)) (XO t mi,false) ?_ rfl ?_
  ·rintro L ⟨u,p⟩ e s ⟨GJ,OC,g1,g2,g3,g7,g8,Bl,eY,hs⟩ IH;simp only at GJ OC Bl eY IH ⊢;by_cases hd:u<=t
   ·have hw:IntKind.i64.wrap ((u:Int)+1)=((u+1:Nat):Int):=by rw[wrap_i64] <;> omega
    have LS:IntKind.i64.wrap ((u:Int)-1)=((u-1:Nat):Int):=by rw[wrap_i64] <;> omega
    rw[show t+1-u=(t+1-(u+1))+1 by omega,dI]
    cases p with
    |true =>
     simp +contextual only[go_sem,BL,g1,g2,g3,Bl,eY,L7,hd,hw];refine IH (u+1,true) _ _ (by simp only;omega) ⟨by simp only;omega,by simp only;omega,?_,?_,?_,?_,?_,?_,?_,?_⟩ <;> simp +contextual only[go_sem,g1,g2,g3,g7,g8,hs]
    |false =>
     have q1:=SC hl (u:Int) a od (by omega);have q2:=SC hl ((u-1:Nat):Int) a od (by omega);simp +contextual only[go_sem,BL,g1,g2,g3,Bl,eY,hs,L7,hd,hw,LS,Ys (nl:=nl) (show u<l.length by omega),Ys (nl:=nl) (show u-1<l.length by omega),q1,q2];refine IH (u+1,Zy (Xg l (u:Int)) a != Zy (Xg l ((u-1:Nat):Int)) a) _ _ (by simp only;omega) ⟨by simp only;omega,by simp only;omega,?_,?_,?_,?_,?_,?_,?_,?_⟩ <;> simp +contextual only[go_sem,g1,g2,g3,g7,g8,hs]
   ·have:u=t+1:=by omega
    subst this;rw[Nat.sub_self,dI];have LR:¬(t+1<=t):=by omega
    cases p <;> simp +contextual only[go_sem,BL,g2,g3,g7,g8,Bl,eY,hs,L7,LR,b3,b4,al9,amq]
  ·refine⟨fH.1,fH.2,?_,?_,?_,?_,?_,?_,?_,?_⟩ <;> simp +contextual only[go_sem,hsf] <;> rfl
 case Uf =>
  simp (maxSteps:=2000000) +contextual only[go_sem,sy,h1,h2,h3,h4,h5,h6,h7,h8,h9,h10,h11,Ys (nl:=nl) ht,cb,e1];refine YH (σ:=Nat×Bool) (fun x=>t-x.1) (fun x=>some (AV.bool (low l b x.1 (t-x.1) x.2)))
   (fun x e s=>x.1<=t/\Env.get e 1=ZG nl (ints l)/\Env.get e 2=.int .i64 (t:Int)/\Env.get e 3=.ptr 8 0/\Env.get e 16=.bool x.2/\Env.get e 17=.int .i64 (x.1:Int) /\
    s.get 8=some (.cells [.str k,.int .i64 a,.int .i64 b,.int .i64 mi,.int .i64 ma,.str pat,ZG knl (WW kids)] 39 false 0 0)) (WI l a 1 t,Tl l a 1 t) ?_ rfl ?_
  ·rintro L ⟨u,p⟩ e s ⟨OC,g1,g2,g3,Il,UY,hs⟩ IH;simp only at OC Il UY IH ⊢;by_cases hd:u<t
   ·have hw:IntKind.i64.wrap ((u:Int)+1)=((u+1:Nat):Int):=by rw[wrap_i64] <;> omega
    cases p with
    |false =>
     rw[Qv];simp +contextual only[go_sem,BK,g2,Il,UY,Z8,hd]
    |true =>
     have q1:=SC hl (u:Int) b Er (by omega);rw[show t-u=(t-(u+1))+1 by omega,low,cond_true];simp +contextual only[go_sem,BK,g1,g2,g3,Il,UY,hs,Z8,hd,hw,Ys (nl:=nl) (show u<l.length by omega),q1];refine IH (u+1,Zy (Xg l (u:Int)) b==0) _ _ (by simp only;omega) ⟨by simp only;omega,?_,?_,?_,?_,?_,?_⟩ <;> simp +contextual only[go_sem,g1,g2,g3,hs]
   ·have:u=t:=by omega
    subst this;rw[Nat.sub_self,low];simp +contextual only[go_sem,BK,g2,Il,UY,Z8,alh]
  ·refine⟨hef 1,?_,?_,?_,?_,?_,?_⟩ <;> simp +contextual only[go_sem] <;> rfl
 case QG =>
  obtain⟨x,rfl⟩:=List.length_eq_one_iff.1 (eT rfl);have hx:=ih x (aba ..) (nk x (aba ..));rw[ZV] at hx;simp only[Z5.cells] at hx;simp only[WW,JA,ZV,Z5.cells,pY];simp (maxSteps:=2000000) +contextual only[go_sem,sy,h1,h2,h3,h4,h5,h6,h7,h8,h9,h10,h11,h12,Ys (nl:=nl) ht,cb,hx]
 all_goals
  simp (maxSteps:=2000000) +contextual only[go_sem,sy,h1,h2,h3,h4,h5,h6,h7,h8,h9,h10,h11,h12,Ys (nl:=nl) ht,cb]
  first
  |(simp[Kd.known] at Cn;done)
  |(refine YH (σ:=Nat×Nat) (fun x=>kids.length-x.1) (fun x=>some (AV.bool (((x.2+JC l t (kids.drop x.1):Nat):Int)==((kids.length:Nat):Int)||(k==[97,110,121])&&decide (((x.2+JC l t (kids.drop x.1):Nat):Int)>0))))
      (fun x e s=>x.1<=kids.length/\x.2<=x.1/\Env.get e 1=ZG nl (ints l)/\Env.get e 2=.int .i64 (t:Int)/\Env.get e 3=.ptr 8 0/\Env.get e 18=.int .i64 (x.2:Int)/\Env.get e 19=.int .i64 (x.1:Int) /\
       s.get 8=some (.cells [.str k,.int .i64 a,.int .i64 b,.int .i64 mi,.int .i64 ma,.str pat,ZG knl (WW kids)] 39 false 0 0)) (0,0) ?_ ?_ ?_
    ·rintro L ⟨i,n⟩ e s ⟨hi,hn,g1,g2,g3,bV,g19,hs⟩ IH;simp only at hi hn bV g19 IH ⊢;by_cases hd:i<kids.length
     ·have hx:(WW kids)[i]? = some (Zw kids[i]):=by rw[Vb,aaa hd];rfl
      have hw:=ZN hd (by omega);have LS:IntKind.i64.wrap ((n:Int)+1)=((n+1:Nat):Int):=by rw[wrap_i64] <;> omega
      have hc:=ih kids[i] (adm hd) (nk _ (adm hd));rw[YR (XL hd)] at hs;rw[ZV] at hx hc;simp only[Z5.cells] at hx hc;rw[abc hd,JC];simp +contextual only[go_sem,vE,g1,g2,g3,bV,g19,hs,Z8,hd,Yd,hx,hc]
      cases hb:atR l t kids[i] with
      |true =>
       simp +contextual only[go_sem,hw,LS];rw[show n+(1+JC l t (kids.drop (i+1)))=(n+1)+JC l t (kids.drop (i+1)) by omega];refine IH (i+1,n+1) _ _ (by simp only;omega) ⟨by simp only;omega,by simp only;omega,?_,?_,?_,?_,?_,?_⟩ <;> simp +contextual only[go_sem,g1,g2,g3,hs,YR (XL hd)]
      |false =>
       simp +contextual only[go_sem,hw];refine IH (i+1,n) _ _ (by simp only;omega) ⟨by simp only;omega,by simp only;omega,?_,?_,?_,?_,?_,?_⟩ <;> simp +contextual only[go_sem,g1,g2,g3,bV,hs,YR (XL hd)]
     ·have:i=kids.length:=by omega
      subst this;simp +contextual only[go_sem,vE,g3,bV,g19,hs,ZI,Yd,Z8,alh,alO,JC,FX,h14,amq,al9,Bool.or_false]
    ·simp[amd,ald,h14]
    ·refine⟨aic _,agB _,?_,?_,?_,?_,?_,?_⟩ <;> simp +contextual only[go_sem] <;> rfl)
def Yc (now last:Int)(first:Bool):AV:=.agg [.int .i64 now,.int .i64 last,.bool first]
def WR (n k:Int):Bool:=Zy n k==1
def Qe (n:Int):Prop:=0<=n/\n<65536
theorem agf (now last:Int)(first:Bool)(k:Int)(h:Qe now)(h2:0<=k)(h3:k<64):ZE U 198 [Yc now last first,.int .i64 k]=some (.bool (WR now k)):=by
 refine ZR aj7 (by kernel_rfl) rfl ?_;have:=BD k.toNat h.1;have h4:=h.2;simp only[go_sem,agh,Yc,Hs _ _ _ _ h2 (show k<=64 by omega),KJ _ _ _ this.1 (by omega)];rfl
theorem agi (now last:Int)(first:Bool)(k:Int)(h:Qe last)(h2:0<=k)(h3:k<64):ZE U 201 [Yc now last first,.int .i64 k]=some (.bool (WR last k)):=by
 refine ZR aj8 (by kernel_rfl) rfl ?_;have:=BD k.toNat h.1;have h4:=h.2;simp only[go_sem,agj,Yc,Hs _ _ _ _ h2 (show k<=64 by omega),KJ _ _ _ this.1 (by omega)];rfl
theorem En (c:UInt8)(l:XV)(h:c.toNat<128):TV (c::l)=(c.toNat,1):=by
 unfold TV;simp only[List.getElem?_cons_zero,amG];rw[if_pos h]
theorem oX {e:Env}{s:St}{k:Nat}{b:XV}(h:Env.get e k=.str b):YI U (Yf U) e (.range 9 (.tmp k)) s=some (.ptr s.next 0,s.new (.iter b 0)):=by
 have h9:U.Zd 9=some .string:=by kernel_rfl
 simp only[YI,eval,h,h9]
theorem oW {e:Env}{s:St}{k r pos:Nat}(h:Env.get e k=.ptr r 0)(hs:s.get r=some (.iter [] pos)):YI U (Yf U) e (.next (.tmp k) true) s=some (.XU [.bool false],s):=by
 simp only[YI,eval,h,hs]
theorem oV {e:Env}{s:St}{k r pos:Nat}{c:UInt8}{b:XV}(h:Env.get e k=.ptr r 0)(hs:s.get r=some (.iter (c::b) pos))(hc:c.toNat<128) :
  YI U (Yf U) e (.next (.tmp k) true) s=some (.XU [.bool true,.int .i64 pos,.int .i32 c.toNat],s.put r (.iter b (pos+1))):=by
 simp only[YI,eval,h,hs,En c b hc,List.drop_succ_cons,amd]
theorem acN (pat:XV)(sym:Int)(hs:Qe sym)(hp:pat.length<=16)(X5:∀c∈pat,c=48\/c=49\/c=120):ZE U 204 [.str pat,.int .i64 sym]=some (.bool (yW sym 0 pat)):=by
 refine ZR aj9 (by kernel_rfl) rfl ?_;have QK:=hs.1;have S4:=hs.2;have hrg:=@oX _ (k:=7) (b:=pat);simp only[go_sem,agk,hrg];refine YH (σ:=Nat) (fun i=>pat.length-i) (fun i=>some (AV.bool (yW sym i (pat.drop i)))) (fun i e s=>i<=pat.length/\Env.get e 8=.ptr 8 0/\Env.get e 1=.int .i64 sym/\s.get 8=some (.iter (pat.drop i) i)) 0 ?_ rfl ?_
 ·rintro L i e s ⟨hi,h8,h1,hit⟩ ih;by_cases hd:i<pat.length
  ·rw[abc hd] at hit;have hc:=X5 pat[i] (adm hd);have agl:pat[i].toNat<128:=by rcases hc with h|h|h <;> rw[h] <;> decide
   have hn:=oV h8 hit agl;have hb:=BD i QK;have CG:=Lv sym (i:Int);have e1:=Hs 3 false sym (i:Int) (by omega) (by omega);rw[amn] at e1;have e2:=KJ 3 true (sym / 2^i) hb.1 (by omega);have EM:sym / 2^i%2=Zy sym (i:Int):=rfl;rw[EM] at e2;have hw1:IntKind.i64.wrap (48+Zy sym (i:Int))=48+Zy sym (i:Int):=by rw[wrap_i64] <;> omega
   have Mx:IntKind.i32.wrap (48+Zy sym (i:Int))=48+Zy sym (i:Int):=by rcases CG with h|h <;> rw[h] <;> decide
   rw[abc hd,yW,iM];have next:∀e',Env.get e' 8=.ptr 8 0->Env.get e' 1=.int .i64 sym->SD U (Mt U [.tmp 4]) [K.bk 0,K.sq ((RC.ops [⟨some 4,none,none,false,.O9 (.v (.bool true))⟩]).seq RC.ret)] L e' (s.put 8 (.iter (pat.drop (i+1)) (i+1)))=some (AV.bool (yW sym (i+1) (pat.drop (i+1)))) :=
    fun e' q8 q1=>ih (i+1) _ _ (by omega) ⟨by omega,q8,q1,by rw[Z9,if_pos rfl]⟩
   rcases hc with h|h|h <;> rw[h] at hn ⊢
   ·have fF:((48:UInt8).toNat:Int)=48:=rfl;rw[fF] at hn;rcases CG with hz|hz <;> rw[hz] at e2 hw1 Mx ⊢
    ·simp only[go_sem,Pp,h1,hn,e1,e2];refine next _ ?_ ?_ <;> simp only[go_sem,h8,h1]
    ·simp only[go_sem,Pp,h1,hn,e1,e2];rfl
   ·have fF:((49:UInt8).toNat:Int)=49:=rfl;rw[fF] at hn;rcases CG with hz|hz <;> rw[hz] at e2 hw1 Mx ⊢
    ·simp only[go_sem,Pp,h1,hn,e1,e2];rfl
    ·simp only[go_sem,Pp,h1,hn,e1,e2];refine next _ ?_ ?_ <;> simp only[go_sem,h8,h1]
   ·have fF:((120:UInt8).toNat:Int)=120:=rfl;rw[fF] at hn;simp only[go_sem,Pp,hn];refine next _ ?_ ?_ <;> simp only[go_sem,h8,h1]
  ·have:i=pat.length:=by omega
   subst this;rw[alO] at hit;have hn:=oW h8 hit;simp only[go_sem,Pp,hn];rw[alO];rfl
 ·refine⟨aic _,?_,?_,?_⟩ <;> simp only[go_sem,amd]
theorem gu (c:Bool)(a b:Bool):Wg U .eql 4 c (.bool a) (.bool b)=some (.bool (a==b)):=by
 cases c <;> cases a <;> cases b <;> kernel_rfl
theorem xL (c:Bool)(a b:Bool):Wg U .neq 4 c (.bool a) (.bool b)=some (.bool (a != b)):=by
 cases c <;> cases a <;> cases b <;> kernel_rfl
structure Z5.A9 (c:Z5):Prop where
 a:0<=c.a/\c.a<16
 b:0<=c.b/\c.b<16
 mi:0<=c.mi/\c.mi<=255
 ma:0<=c.ma/\c.ma<=255
 pat:c.pat.length<=16
 adq:∀x∈c.pat,x=48\/x=49\/x=120
theorem Z5.wf.A9 {c:Z5}(h:c.wf):c.A9:=by
 cases c
 rw[Z5.wf] at h;obtain⟨ha,hb,hm,hM,hp,wI,-⟩:=h;exact⟨ha,hb,hm,hM,hp,wI⟩
def Fw (lv:Bool)(c:Z5)(st:Int)(h w first:Bool):Int×Bool :=
 bif !(h==lv) then (0,(w==lv)&&decide (st>=c.mi)&&decide (st<=c.ma))
 else bif first then (c.ma+1,false) else bif !(w==lv) then (1,false) else (min (st+1) (c.ma+1),false)
def MG (c:Z5)(st:Int)(h w first:Bool):Int×Bool :=
 let s1:=min ((bif first||h != w then 0 else st)+1) (c.mi+1)
 (s1,s1==c.mi)
def QT (c:Z5)(st:Int)(h w hb wb:Bool):Int×Bool :=
 let s1:=bif h != w then 0 else min (st+1) c.mi
 (s1,hb&&!wb&&decide (s1<c.mi))
def MU (st:Int)(h w hb first:Bool):Int×Bool :=
 bif !h then (0,w&&st==2) else bif !first&&!hb&&(!w||st==2) then (2,false) else (1,false)
def stP (d:Kd)(c:Z5)(st now last:Int)(first:Bool):Int×Bool :=
 let h:=WR now c.a
 let w:=WR last c.a
 match d with
 |.high=>(st,h)
 |.low=>(st,!h)
 |.Iz=>(st,h&&!w)
 |.fall=>(st,!h&&w)
 |.pattern=>(st,yW now 0 c.pat)
 |.enter=>(st,yW now 0 c.pat&&!yW last 0 c.pat)
 |.Vj=>Fw true c st h w first
 |.gap=>Fw false c st h w first
 |.idle=>MG c st h w first
 |.setup=>QT c st h w (WR now c.b) (WR last c.b)
 |.Uf=>MU st h w (WR now c.b) first
 |_=>(st,false)
section
variable (c:Z5)(hc:c.A9)(st now last:Int)(first:Bool)(hn:Qe now)(hl:Qe last)(hs:0<=st/\st<=256)
include hc hn hl
theorem Qo:ZE U 198 [.agg [.int .i64 now,.int .i64 last,.bool first],.int .i64 c.a]=some (.bool (WR now c.a)):=agf now last first c.a hn hc.a.1 (by have:=hc.a.2;omega)
theorem h_b:ZE U 198 [.agg [.int .i64 now,.int .i64 last,.bool first],.int .i64 c.b]=some (.bool (WR now c.b)):=agf now last first c.b hn hc.b.1 (by have:=hc.b.2;omega)
theorem w_a:ZE U 201 [.agg [.int .i64 now,.int .i64 last,.bool first],.int .i64 c.a]=some (.bool (WR last c.a)):=agi now last first c.a hl hc.a.1 (by have:=hc.a.2;omega)
theorem w_b:ZE U 201 [.agg [.int .i64 now,.int .i64 last,.bool first],.int .i64 c.b]=some (.bool (WR last c.b)):=agi now last first c.b hl hc.b.1 (by have:=hc.b.2;omega)
theorem ak3:ZE U 197 [Zw c,Yc now last first]=some (.bool (WR now c.a)):=by
 refine ZR akn (by kernel_rfl) (by simp[ZU,Zt,still,Yc]) ?_;have e1:=Qo c hc now last first hn hl
 rw[ZV,Yc];simp +contextual only[go_sem,agI,Z5.cells,e1]
theorem ak4:ZE U 199 [Zw c,Yc now last first]=some (.bool (!WR now c.a)):=by
 refine ZR ako (by kernel_rfl) (by simp[ZU,Zt,still,Yc]) ?_;have e1:=Qo c hc now last first hn hl
 rw[ZV,Yc];simp +contextual only[go_sem,agJ,Z5.cells,e1]
theorem ak5:ZE U 200 [Zw c,Yc now last first]=some (.bool (WR now c.a&&!WR last c.a)):=by
 refine ZR akp (by kernel_rfl) (by simp[ZU,Zt,still,Yc]) ?_;have e1:=Qo c hc now last first hn hl
 have e2:=w_a c hc now last first hn hl
 rw[ZV,Yc];simp +contextual only[go_sem,agK,Z5.cells,e1,e2]
theorem ak6:ZE U 202 [Zw c,Yc now last first]=some (.bool (!WR now c.a&&WR last c.a)):=by
 refine ZR akq (by kernel_rfl) (by simp[ZU,Zt,still,Yc]) ?_;have e1:=Qo c hc now last first hn hl
 have e2:=w_a c hc now last first hn hl
 rw[ZV,Yc];simp +contextual only[go_sem,agL,Z5.cells,e1,e2]
theorem ak7:ZE U 203 [Zw c,Yc now last first]=some (.bool (yW now 0 c.pat)):=by
 refine ZR akr (by kernel_rfl) (by simp[ZU,Zt,still,Yc]) ?_;have e1:=acN c.pat now hn hc.pat hc.adq;rw[ZV,Yc];simp +contextual only[go_sem,agM,Z5.cells,e1]
theorem ak8:ZE U 205 [Zw c,Yc now last first]=some (.bool (yW now 0 c.pat&&!yW last 0 c.pat)):=by
 refine ZR aks (by kernel_rfl) (by simp[ZU,Zt,still,Yc]) ?_;have e1:=acN c.pat now hn hc.pat hc.adq;have e2:=acN c.pat last hl hc.pat hc.adq;rw[ZV,Yc];simp +contextual only[go_sem,agN,Z5.cells,e1,e2]
omit hc hn hl in
theorem ox {g:FuncId}{b:Bool}(hg:ZE U g [Zw c,Yc now last first]=some (.bool b)):ZE U 235 [Zw c,.int .i64 st,Yc now last first,.fp [.fn (.func g) [] []] 0]=some (.XU [.int .i64 st,.bool b]):=by
 refine ZR akw (by kernel_rfl) (by simp[ZU,Zt,still,Yc]) ?_;rw[ZV,Yc] at hg ⊢;simp only[Z5.cells] at hg ⊢;simp +contextual only[go_sem,agR,hg]
include hs
theorem ahm (lv:Bool):ZE U 236 [Zw c,.int .i64 st,Yc now last first,.fp [.bool lv] 0]=some (.XU [.int .i64 (Fw lv c st (WR now c.a) (WR last c.a) first).1,.bool (Fw lv c st (WR now c.a) (WR last c.a) first).2]):=by
 refine ZR akx (by kernel_rfl) (by simp[ZU,Zt,still,Yc]) ?_;have e1:=Qo c hc now last first hn hl
 have e2:=w_a c hc now last first hn hl
 have hM:=hc.ma;have w1:IntKind.i64.wrap (c.ma+1)=c.ma+1:=by rw[wrap_i64] <;> omega
 have w2:IntKind.i64.wrap (st+1)=st+1:=by rw[wrap_i64] <;> omega
 rw[ZV,Yc,Fw]
 cases hh:WR now c.a==lv <;> cases hw:WR last c.a==lv <;> cases first
 all_goals simp (maxSteps:=2000000) +contextual only[go_sem,agS,Z5.cells,e1,e2,gu,hh,hw,w1,w2,Pw]
 all_goals rfl
theorem ak9:ZE U 207 [Zw c,.int .i64 st,Yc now last first]=some (.XU [.int .i64 (MG c st (WR now c.a) (WR last c.a) first).1,.bool (MG c st (WR now c.a) (WR last c.a) first).2]):=by
 refine ZR akt (by kernel_rfl) (by simp[ZU,Zt,still,Yc]) ?_;have e1:=Qo c hc now last first hn hl
 have e2:=w_a c hc now last first hn hl
 have hM:=hc.mi;have w1:IntKind.i64.wrap (c.mi+1)=c.mi+1:=by rw[wrap_i64] <;> omega
 have w2:IntKind.i64.wrap (st+1)=st+1:=by rw[wrap_i64] <;> omega
 have w3:IntKind.i64.wrap (0+1)=0+1:=by decide
 rw[ZV,Yc,MG]
 cases hh:WR now c.a != WR last c.a <;> cases first
 all_goals simp (maxSteps:=2000000) +contextual only[go_sem,agO,Z5.cells,e1,e2,xL,hh,w1,w2,Pw]
 all_goals rfl
theorem ak_:ZE U 209 [Zw c,.int .i64 st,Yc now last first]=some (.XU [.int .i64 (QT c st (WR now c.a) (WR last c.a) (WR now c.b) (WR last c.b)).1,.bool (QT c st (WR now c.a) (WR last c.a) (WR now c.b) (WR last c.b)).2]):=by
 refine ZR aku (by kernel_rfl) (by simp[ZU,Zt,still,Yc]) ?_;have e1:=Qo c hc now last first hn hl
 have e2:=w_a c hc now last first hn hl
 have e3:=h_b c hc now last first hn hl
 have e4:=w_b c hc now last first hn hl
 have w2:IntKind.i64.wrap (st+1)=st+1:=by rw[wrap_i64] <;> omega
 rw[ZV,Yc,QT]
 cases hh:WR now c.a != WR last c.a <;> cases h3:WR now c.b <;> cases h4:WR last c.b
 all_goals simp (maxSteps:=2000000) +contextual only[go_sem,agP,Z5.cells,e1,e2,e3,e4,xL,hh,h3,h4,w2,Pw]
 all_goals rfl
theorem ak':ZE U 211 [Zw c,.int .i64 st,Yc now last first]=some (.XU [.int .i64 (MU st (WR now c.a) (WR last c.a) (WR now c.b) first).1,.bool (MU st (WR now c.a) (WR last c.a) (WR now c.b) first).2]):=by
 refine ZR akv (by kernel_rfl) (by simp[ZU,Zt,still,Yc]) ?_;have e1:=Qo c hc now last first hn hl
 have e2:=w_a c hc now last first hn hl
 have e3:=h_b c hc now last first hn hl
 rw[ZV,Yc,MU]
 cases hh:WR now c.a <;> cases h2:WR last c.a <;> cases h3:WR now c.b <;> cases first <;> cases h4:(st==2)
 all_goals simp (maxSteps:=2000000) +contextual only[go_sem,agQ,Z5.cells,e1,e2,e3,hh,h2,h3,h4]
 all_goals rfl
theorem o4 (d:Kd)(hd:d.leaf=true)(s:St):GR U (Pj d) [Zw c,.int .i64 st,Yc now last first] s=some (.XU [.int .i64 (stP d c st now last first).1,.bool (stP d c st now last first).2],s):=by
 have q1:=ox c st now last first (ak3 c hc now last first hn hl)
 have q2:=ox c st now last first (ak4 c hc now last first hn hl)
 have q3:=ox c st now last first (ak5 c hc now last first hn hl)
 have q4:=ox c st now last first (ak6 c hc now last first hn hl)
 have q5:=ox c st now last first (ak7 c hc now last first hn hl)
 have q6:=ox c st now last first (ak8 c hc now last first hn hl)
 have q7:=ahm c hc st now last first hn hl hs true
 have q8:=ahm c hc st now last first hn hl hs false
 have q9:=ak9 c hc st now last first hn hl hs
 have Cd:=ak_ c hc st now last first hn hl hs
 have tT:=ak' c hc st now last first hn hl hs
 cases d <;> first|cases hd|skip
 all_goals simp only[Pj,NJ,amg,alZ,alU,q1,q2,q3,q4,q5,q6,q7,q8,q9,Cd,tT,U8,stP]
end
end Go.Am
namespace Go.Am
open Go
variable [Z4]
set_option maxRecDepth 100000
set_option maxHeartbeats 8000000
mutual
def Ve:Z5->List Z5
 |.mk k a b mi ma p nl kids=>bif XD k then ZJ kids else [.mk k a b mi ma p nl kids]
def ZJ:List Z5->List Z5
 |[]=>[]
 |c::l=>Ve c++ZJ l
end
theorem Rf {k:XV}{a b mi ma:Int}{p:XV}{nl:Bool}{kids:List Z5}(h:(Z5.mk k a b mi ma p nl kids).wf):XD k=(YQ (ZF k)).kids:=by
 rw[Z5.wf] at h;have hk:=h.2.2.2.2.2.2.1;rw[NM k hk];generalize ZF k=d at *
 cases d <;> first|rfl|(simp[Kd.known] at hk)
theorem CD:∀c:Z5,c.wf->Ve c≠[]:=by
 intro c
 induction c using Z5.ind with
 |h k a b mi ma p nl kids ih =>
 intro h;have Ef:=Rf h;rw[Z5.wf] at h;obtain⟨-,-,-,-,-,-,-,-,-,ZC,-,-,hk⟩:=h;rw[Ve]
 cases hc:XD k with
 |false=>simp
 |true =>
  rw[hc] at Ef
  cases kids with
  |nil=>exact absurd rfl (ZC Ef.symm)
  |cons x l =>
   rw[cond_true,ZJ];intro e;exact ih x (aba ..) (hk x (aba ..)) (List.append_eq_nil_iff.1 e).1
def Yw (l:List Z5):List AV:=l.flatMap fun c=>(Zw c).cells
theorem ER (l:List Z5):(Yw l).length=l.length*7:=Jm Zw 7 OS l
theorem Ix (l:List Z5):(Yw l).all Zz=true:=by
 rw[alK];intro x hx;obtain⟨c,_,hc⟩:=List.mem_flatMap.1 hx;rw[ZV,QE,Z5.cells] at hc;simp only[alL,List.not_mem_nil,or_false] at hc;rcases hc with rfl|rfl|rfl|rfl|rfl|rfl|rfl
 all_goals first|rfl|exact ZL ..
theorem CB (l:List Z5)(s:St):Wc 7 (.fz (l.map Zw)) s=some (l.length,Yw l):=by
 have:(l.map Zw).all (fun x=>x.cells.length==7)=true:=by
  rw[alK];intro x hx;obtain⟨c,_,rfl⟩:=alN.1 hx;rw[ZV];rfl
 simp only[Wc,this,Yw,agC,List.flatMap_map];rfl
theorem ahz:∀c:Z5,c.wf->(Ve c).length<=2^20->ZE U 160 [Zw c]=some (.fz ((Ve c).map Zw)):=by
 intro c
 induction c using Z5.ind with
 |h kind a b mi ma pat nl kids ih =>
 intro S3 hL;have fc:=S3;rw[Z5.wf] at fc;obtain⟨-,-,-,-,-,-,-,-,-,-,-,fY,nk⟩:=fc;refine ZR ahA (by kernel_rfl) (by simp[ZU,Zt]) ?_;have h213:=aaV (.mk kind a b mi ma pat nl kids);rw[show (Z5.mk kind a b mi ma pat nl kids).kind=kind from rfl] at h213;have eZ:=CD _ S3;rw[Ve] at hL eZ ⊢
 cases Ef:XD kind with
 |false =>
  rw[Ef] at h213 hL;simp only[cond_false,alT,List.map_nil];rw[Zw] at h213 ⊢;simp only[go_sem,aaW,h213,UL]
 |true =>
  rw[Ef] at h213 hL eZ;simp only[cond_true] at hL eZ ⊢;rw[Zw] at h213 ⊢;simp only[go_sem,aaW,h213,ZI,Yd];refine YH (σ:=Nat×List Z5) (fun x=>kids.length-x.1) (fun x=>some (.fz ((ZJ kids).map Zw))) (fun x e s=>x.1<=kids.length/\x.2++ZJ (kids.drop x.1)=ZJ kids/\Env.get e 12=ZG nl (WW kids)/\Env.get e 13=.int .i64 kids.length/\Env.get e 14=.int .i64 x.1/\8<s.next/\Fr s /\
   ∃v,Env.get e 3=v/\ZK s 9 48 7 x.2.length (Yw x.2) v) (0,[]) ?_ rfl ?_
  ·rintro L ⟨i,acc⟩ e s ⟨hi,Kc,Iw,Bl,eY,hn,PX,v,g3,hv⟩ IH;simp only at hi Kc eY hv IH ⊢;have Jl:=hv.Xj;have Re:=hv.Zz;by_cases hd:i<kids.length
   ·have hx:(WW kids)[i]? = some (Zw kids[i]):=by rw[Vb,aaa hd];rfl
    have hw:=ZN hd (by omega);rw[abc hd,ZJ] at Kc;have hlen:acc.length+((Ve kids[i]).length+(ZJ (kids.drop (i+1))).length)=(ZJ kids).length:=by rw[<-Kc];simp
    have hc:=ih kids[i] (adm hd) (nk _ (adm hd)) (by omega);have oq:(Ve kids[i]).length≠0:=fun e=>CD _ (nk _ (adm hd)) (List.eq_nil_of_length_eq_zero e)
    have hsc:=CB (Ve kids[i]);have tQ:=ER (Ve kids[i]);have hcn:=Ix (Ve kids[i]);rw[ZV] at hx hc;simp only[Z5.cells] at hx hc;rw[YR (XL hd)] at Iw;have UP:(acc.length+(Ve kids[i]).length)*88<=1099511627776:=by omega
    have VP:acc.length+(Ve kids[i]).length<=1099511627776:=by omega
    simp only[go_sem,CA,g3,Iw,Bl,eY,Z8,hd,hx,hc,ZL,ZH,Nat.reducePow,Jl,UP,VP,hsc,tQ,oq,not_false_eq_true];have rB:∀y z,ZK ((s.new y).put s.next z) 9 48 7 acc.length (Yw acc) v:=fun y z=>hv.mono (by rw[Z',Z_];omega) fun j _ hj=>by rw[Z9,if_neg (by omega),Z7,if_neg (by omega)]
    obtain⟨s1,e1,e2,e3,e4,e5⟩:=(rB (.cells [.str [],.int .i64 0,.int .i64 0,.int .i64 0,.int .i64 0,.str [],.ZW] 48 false 0 0) (.cells kids[i].cells 48 false 0 0)).app (by rw[Z',Z_];omega) oq tQ hcn;simp only[Z5.cells] at e1;rw[e1];simp only[go_sem,hw,eY];refine IH (i+1,acc++Ve kids[i]) _ _ (by simp only;omega) ⟨by simp only;omega,by simp only[alS];exact Kc,?_,?_,?_,?_,e5 ((PX.new _).put (by rw[Z_];omega) _),.sl (s.next+1) 0 (acc.length+(Ve kids[i]).length) none 7,?_,?_⟩
    case refine_6 =>
     simp only[agy,Yw,List.flatMap_append];exact e3
    all_goals try simp only[go_sem,Iw,Bl,YR (XL hd)]
    rw[e2,Z',Z_];omega
   ·have:i=kids.length:=by omega
    subst this;rw[alO,ZJ,alZ] at Kc;subst Kc;simp only[go_sem,CA,g3,Bl,eY,Z8,alh];rw[hv.Vi U Ej Ei (by omega) OS (d:=39) (fun a=>LG _ _ _)]
    cases hq:ZJ kids with
    |nil=>exact absurd hq eZ
    |cons x y=>rfl
  ·refine⟨aic _,by rw[amd,amg],?_,?_,?_,?_,?_,.ZW,?_,ZK.nil _ _ _ _⟩
   case refine_5 =>
    repeat first|exact Fr.own|apply Fr.new|apply Fr.put|apply Fr.upto
    all_goals simp only[go_sem]
   all_goals simp only[go_sem]
   all_goals rfl
end Go.Am
namespace Go.Am
open Go
variable [Z4]
set_option maxRecDepth 100000
set_option maxHeartbeats 8000000
noncomputable def aau:Code:=KQ 92 0
theorem afw:O_ U aau=some (15,[(o 32 (.fa 1 (.t 4)),none),
 (o 33 (.SL (.t 32)),none),
 (o 34 (.NQ 7 (.t 10)),none),
 (⟨some 35,none,some 3,false,.U3 48 7 1 [(.str []),(.int .i64 0),(.int .i64 0),(.int .i64 0),(.int .i64 0),(.str []),.ZW] [(0,7,(.t 34))]⟩,none),
 (⟨some 36,none,none,true,.app 48 7 88 (.t 33) (.t 35)⟩,none),
 (o 37 (.fa 2 (.t 4)),none),
 (o 38 (.SL (.t 37)),some (0,1)),
 (o 39 (.fa 8 (.t 11)),none),
 (o 40 (.SL (.t 39)),some (0,1)),
 (⟨some 41,none,some 9,false,.U3 234 1 1 [.Wa] [(0,1,(.t 40))]⟩,none),
 (⟨some 42,none,none,true,.app 234 1 8 (.t 38) (.t 41)⟩,none),
 (o 43 (.fa 1 (.t 4)),none),
 (⟨none,none,none,true,.st 1 (.t 43) (.t 36)⟩,none),
 (o 44 (.fa 2 (.t 4)),none),
 (⟨none,none,none,true,.st 1 (.t 44) (.t 42)⟩,none)]):=by kernel_rfl
noncomputable def BF:RC:=(sO [YW 25 3 24 23] (sQ (cS 25 (.exit 2)) (sQ (.block 3 (sO [Zk 26 7 22 24,Zr 27 7 26,Om 10 0 0 0 0 48,YU 7 10 27] (sO [om 28 5,ZX 29 0 10,Z0 30 29,zm 31 238 28 30,o 11 (.al [bF,bF,bF,bF,bF,bF,.Wa,.Wa,.Wa] 236),YU 9 11 31] (sQ (.raw aau) (oP [om 45 6,ZX 46 7 11,Z0 47 46,Zr 48 7 10,zo 49 47 48,RQ 50 3 1 1 0 0 1 49,WZ 51 3 1 8 45 50,om 6 51]))))) (oP [YT 52 3 24 1,om 24 52]))))
noncomputable def wN:RC:=(sO [YW 18 3 17 16] (sQ (cS 18 (.exit 0)) (sQ (.block 1 (sO [Zk 19 7 15 17,Zr 20 7 19,Om 8 0 0 0 0 48,YU 7 8 20] (sO [Zr 21 7 8,YN 22 160 21,YO 23 22,ZA 24 0] (.block 2 (.loop BF))))) (oP [YT 53 3 17 1,om 17 53]))))
noncomputable def r92:RC:=(sO [o 2 (.al [.ZW,.ZW,.ZW] 152),VR 3] (sO [om 12 0,o 13 (.On [.ZW,.ZW,.ZW] [(0,1,(.t 12))]),o 4 (.al [.ZW,.ZW,.ZW] 152),YU 3 4 13] (sO [K5 14 156,om 5 14] (sO [VR 6] (sQ (sO [om 15 0,YO 16 15,ZA 17 0] (.block 0 (.loop wN))) (sO [Zr 54 3 4,om 55 6,YU 3 2 54,om 3 55] .ret))))))
theorem k92:Ze 92=some ([.cell 2 152,.tmp 3],r92):=by kernel_rfl
noncomputable def aav:Code:=KQ 93 0
theorem aeS:O_ U aav=some (9,[(om 16 1,none),
 (o 17 (.SW (.t 16)),none),
 (⟨some 18,none,some 2,false,.raw (.makeSlice 40 (.tmp 17) (.tmp 17))⟩,none),
 (om 19 1,none),
 (o 20 (.SW (.t 19)),some (0,0)),
 (⟨some 21,none,some 5,false,.raw (.makeSlice 43 (.tmp 20) (.tmp 20))⟩,none),
 (⟨some 9,none,some 6,false,.al [.ZW] 43⟩,none),
 (om 8 18,none),
 (⟨none,none,none,true,.st 1 (.t 9) (.t 21)⟩,none)]):=by kernel_rfl
noncomputable def aaw:Code:=KQ 93 1
theorem afX:O_ U aaw=some (23,[(om 31 8,none),
 (om 32 10,none),
 (o 33 (.SL (.t 9)),some (0,2)),
 (om 34 10,none),
 (o 35 (.fa 2 (.t 3)),none),
 (o 36 (.SL (.t 35)),none),
 (om 37 10,none),
 (o 38 (.Jb 1 (.t 36) (.t 37)),none),
 (o 39 (.SL (.t 38)),none),
 (o 40 (.NQ 7 (.t 11)),none),
 (om 41 1,none),
 (om 42 10,none),
 (o 43 (.Jb 1 (.t 41) (.t 42)),none),
 (o 44 (.SL (.t 43)),none),
 (o 45 (.NQ 3 (.t 5)),none),
 (⟨some 46,none,none,true,.IU (.t 39) [(.t 40),(.t 44),(.t 45)]⟩,none),
 (om 30 46,none),
 (o 47 (.ext (.t 30) 0),none),
 (o 48 (.ext (.t 30) 1),none),
 (o 49 (.Jb 1 (.t 31) (.t 32)),none),
 (⟨none,none,none,true,.st 1 (.t 49) (.t 47)⟩,none),
 (o 50 (.Jb 1 (.t 33) (.t 34)),none),
 (⟨none,none,none,true,.st 1 (.t 50) (.t 48)⟩,none)]):=by kernel_rfl
noncomputable def Bx:RC:=(sO [YW 26 3 25 24] (sQ (cS 26 (.exit 0)) (sQ (.block 1 (sO [om 27 25,Zk 28 7 23 25,Zr 29 7 28,Om 11 0 0 0 0 48,om 10 27,YU 7 11 29] (.raw aaw))) (oP [YT 51 3 25 1,om 25 51]))))
noncomputable def BP:RC:=(sO [YW 56 3 55 54] (sQ (cS 56 (.exit 2)) (sQ (.block 3 (sO [Zk 57 7 53 55,Zr 58 7 57,Om 15 0 0 0 0 48,YU 7 15 58] (oP [om 59 13,Zr 60 7 15,o 61 (.mkf 162 [] [(.t 12),(.t 9)]),YV 62 161 60 61,o 63 (.U3 4 1 1 [bF] [(0,1,(.t 62))]),WZ 64 4 1 1 59 63,om 13 64]))) (oP [YT 65 3 55 1,om 55 65]))))
noncomputable def r93:RC:=(sO [Zp 3 152 0,Zp 5 158 2,VR 6,VR 7] (sQ (.raw aav) (sQ (sO [ZX 22 1 3,Z0 23 22,YO 24 23,ZA 25 0] (.block 0 (.loop Bx))) (sO [o 12 (.al [(iI 0)] 3),oS (.st 1 (.t 12) (vI (-1)))] (sO [VR 13] (sQ (sO [ZX 52 0 3,Z0 53 52,YO 54 53,ZA 55 0] (.block 2 (.loop BP))) (sO [om 66 8,om 67 13,om 6 66,om 7 67] .ret)))))))
theorem k93:Ze 93=some ([.tmp 6,.tmp 7],r93):=by kernel_rfl
theorem ZK.stay {s s1:St}{B:Nat}{t t':TypeId}{n n' i i':Nat}{cs oc:List AV}{v v':AV}(h:ZK s B t n i cs v)(h':ZK s B t' n' i' oc v')(ht:t≠t')(hn:s.next<=s1.next)
  (hg:∀j,j<s.next->v'≠.sl j 0 i' none n'->s1.get j=s.get j):ZK s1 B t n i cs v:=by
 rcases h with⟨h0,h1,h2⟩|⟨h0,h1,b,h2,h3,h4,h5⟩
 ·exact .inl ⟨h0,h1,h2⟩
 ·exact .inr ⟨h0,h1,b,h2,by omega,h4,by rw[hg b h3 (h'.other h5 ht)];exact h5⟩
structure CRow (s:St)(v:AV)(l:List Z5):Prop where
 len:Ti v=some (.int .i64 l.length)
 elem:∀i (h:i<l.length),∃x,Ud 7 v (.int .i64 (i:Int))=some x/\∀s',(∀j,j<s.next->s'.get j=s.get j)->NQ 7 x s'=some (Zw l[i])
 plain:Zz v=true
 cells:v.cells=[v]
def VW (c:Z5):Int:=match ZF c.kind with
 |.setup=>c.mi
 |_=>0
theorem wW (c:Z5)(hd:(ZF c.kind).leaf=true)(s:St):GR U (Sh (ZF c.kind)) [Zw c] s=some (.int .i64 (VW c),s):=by
 unfold VW
 cases hk:ZF c.kind <;> rw[hk] at hd <;> first|cases hd|skip
 all_goals simp only[Sh,NJ,amg,alZ,ahG,ahH,U8]
def WO (c:Z5):AV:=Pj (ZF c.kind)
theorem IQ (c:Z5):(WO c).cells=[WO c]:=by unfold WO;cases ZF c.kind <;> rfl
theorem IP (c:Z5):Zz (WO c)=true:=by unfold WO;cases ZF c.kind <;> rfl
theorem yX (d:Kd):Zz (Pk d)=true/\Zz (Sh d)=true/\Zz (Pj d)=true:=by cases d <;> exact⟨rfl,rfl,rfl⟩
structure F92 (s0:St)(v:AV)(acc:List Z5)(e:Env)(s:St):Prop where
 t2:Env.get e 2=.ptr s0.next 0
 t4:Env.get e 4=.ptr (s0.next+1) 0
 t5:Env.get e 5=.fm Kh Kg
 nx:s0.next+2<=s.next
 fr:Fr s
 old:∀j,j<s0.next->s.get j=s0.get j
 g2:s.get s0.next=some (.cells [.ZW,.ZW,.ZW] 152 false 0 0)
 rows:∃lv sv st,s.get (s0.next+1)=some (.cells [v,lv,sv] 152 false 0 0)/\Env.get e 6=st/\ZK s (s0.next+2) 48 7 acc.length (Yw acc) lv /\
  ZK s (s0.next+2) 234 1 acc.length (acc.map WO) sv/\ZK s (s0.next+2) 3 1 acc.length (ints (acc.map VW)) st
theorem l92 {β:Type}{fin:Fl->β}{ks:List K}{ZB:β->Prop}(s0:St)(v:AV)(hv:Zz v=true/\v.cells=[v])(acc:List Z5)(L:List Z5)(hL:L≠[])(hw:∀c∈L,(ZF c.kind).leaf=true)(hlen:acc.length+L.length<=2^20)(x15 x16 x17:AV)
  (hk:∀e s,F92 s0 v (acc++L) e s->Env.get e 15=x15->Env.get e 16=x16->Env.get e 17=x17->ZB (goN U fin ks e s)){e:Env}{s:St}
  (hI:F92 s0 v acc e s)(h15:Env.get e 15=x15)(h16:Env.get e 16=x16)(h17:Env.get e 17=x17)(h22:Env.get e 22=.fz (L.map Zw))(h23:Env.get e 23=.int .i64 L.length)(h24:Env.get e 24=.int .i64 (0:Nat)) :
  ZB (SD U fin (.bk 2::ks) BF e s):=by
 obtain⟨v1,v2⟩:=hv;refine YP (σ:=Nat) (fun i=>L.length-i) (fun i e s=>i<=L.length/\F92 s0 v (acc++L.take i) e s/\Env.get e 15=x15/\Env.get e 16=x16/\Env.get e 17=x17/\Env.get e 22=.fz (L.map Zw)/\Env.get e 23=.int .i64 L.length/\Env.get e 24=.int .i64 (i:Nat)) 0 ?_
  ⟨aic _,by rw[amF,alZ];exact hI,h15,h16,h17,h22,h23,h24⟩
 clear hI h15 h16 h17 h22 h23 h24 e s;rintro Lp i e s ⟨hi,hF,h15,h16,h17,h22,h23,h24⟩ IH;by_cases hd:i<L.length
 ·have hx:(L.map Zw)[i]? = some (Zw L[i]):=by rw[alV,aaa hd];rfl
  have Rm:=ZN hd (by omega);have Tk:=hw _ (adm hd);obtain⟨t2,t4,t5,nx,fr,old,g2,lv,sv,st,g4,t6,R1,R2,R3⟩:=hF;have hal:(acc++L.take i).length=acc.length+i:=by rw[agy,amr];omega
  rw[hal] at R1 R2 R3;have pZ:=M1 L[i].kind;have Xz:=wW L[i] Tk;obtain⟨n1,n2,n3⟩:=yX (ZF L[i].kind);have afv:Pj (ZF L[i].kind)=WO L[i]:=rfl;rw[Vz] at pZ;rw[afv] at pZ n3;rw[ZV] at hx Xz;simp only[Z5.cells] at hx Xz;have ne:∀k,(s.next+k=s0.next+1)=False:=fun k=>by simp;omega
  have ne':(s.next=s0.next+1)=False:=by simp;omega
  have UP:(acc.length+(i+1))*88<=1099511627776:=by omega
  have VP:acc.length+(i+1)<=1099511627776:=by omega
  have Ba:(acc.length+(i+1))*8<=1099511627776:=by omega
  have la1:=R1.Xj;have la2:=R2.Xj;have la3:=R3.Xj;have na1:=R1.Zz;have na2:=R2.Zz;have na3:=R3.Zz;have Nc:=fr.at;have sf:∀k,(s.next=s.next+(k+1))=False:=fun k=>by simp
  have sg:∀k,(s.next+(k+1)=s.next)=False:=fun k=>by simp
  simp only[go_sem,BF,t4,t5,h22,h23,h24,Z8,hd,hx,ZL,pZ,n1,n2,n3,Uc afw,g4,ne,ne',Nc,la1,UP,VP,ZH,Nat.reducePow,amk,akc,sf,sg,Option.isNone_none];have RS:∀(y1 y2 y3 y4 y5:Uy) {t:TypeId} {n k:Nat} {cs:List AV} {w:AV},ZK s (s0.next+2) t n k cs w->ZK ((((((s.new y1).put s.next y2).new y3).put (s.next+1) y4).upto (s.next+17)).put (s.next+5) y5) (s0.next+2) t n k cs w:=fun y1 y2 y3 y4 y5 _ _ _ _ _ h =>
   h.mono (by simp only[Z',Z6];omega) fun j _ hj=>by simp only[Z9,ZT,Z7,Z',Z_];rw[if_neg (by omega),if_neg (by omega),if_neg (by omega),if_neg (by omega),if_neg (by omega)]
  have GS:∀(y1 y2 y3 y4 y5:Uy) (j:Nat),j<s.next->((((((s.new y1).put s.next y2).new y3).put (s.next+1) y4).upto (s.next+17)).put (s.next+5) y5).get j=s.get j:=fun y1 y2 y3 y4 y5 j hj=>by
   simp only[Z9,ZT,Z7,Z',Z_];rw[if_neg (by omega),if_neg (by omega),if_neg (by omega),if_neg (by omega),if_neg (by omega)]
  have FS:∀(y1 y2 y3 y4 y5:Uy),Fr ((((((s.new y1).put s.next y2).new y3).put (s.next+1) y4).upto (s.next+17)).put (s.next+5) y5):=fun y1 y2 y3 y4 y5 =>
   (((((fr.new _).put (by simp only[Z_];omega) _).new _).put (by simp only[Z_,Z'];omega) _).upto (by simp only[Z_,Z'];omega)).put (by simp only[Z6];omega) _
  generalize hY1:Uy.cells [.str [],.int .i64 0,.int .i64 0,.int .i64 0,.int .i64 0,.str [],.ZW] 48 false 0 0=Y1;generalize hY3:Uy.cells [.bool false,.bool false,.bool false,.bool false,.bool false,.bool false,.Wa,.Wa,.Wa] 236 false 0 0=Y3;generalize hY4:Uy.cells [AV.bool (YQ (ZF L[i].kind)).a,AV.bool (YQ (ZF L[i].kind)).b,AV.bool (YQ (ZF L[i].kind)).mi,AV.bool (YQ (ZF L[i].kind)).ma,AV.bool (YQ (ZF L[i].kind)).pat,AV.bool (YQ (ZF L[i].kind)).kids,Pk (ZF L[i].kind),Sh (ZF L[i].kind),WO L[i]] 236 false 0 0=Y4;generalize hY5:Uy.cells [AV.str L[i].kind,AV.int IntKind.i64 L[i].a,AV.int IntKind.i64 L[i].b,AV.int IntKind.i64 L[i].mi,AV.int IntKind.i64 L[i].ma,AV.str L[i].pat,ZG L[i].nl (WW L[i].kids)] 48 false 0 0=Y5;obtain⟨s1,e1,EZ,er1,eg1,ef1⟩:=(RS Y1 Y5 Y3 Y4 Y5 R1).Gy (by simp only[Z',Z6];omega) (m:=1) (new:=L[i].cells) (by omega) rfl (by simp only[Z5.cells,go_sem,ZL]);simp only[Z5.cells] at e1;have k4:s1.get (s0.next+1)=some (.cells [v,lv,sv] 152 false 0 0):=by rw[eg1 _ (by simp only[Z',Z6];omega) (R1.B8 (.inr (by omega))),GS _ _ _ _ _ _ (by omega),g4]
  have kt:s1.get (s.next+1)=some Y4:=by
   rw[eg1 _ (by simp only[Z',Z6];omega) (R1.B8 (.inl (by omega)))];simp only[Z9,ZT,↓reduceIte];rw[if_neg (by omega)]
  have kx:s1.get s.next=some Y5:=by
   rw[eg1 _ (by simp only[Z',Z6];omega) (R1.B8 (.inl (by omega)))];simp only[Z9,ZT,Z7,Z',Z_,↓reduceIte];rw[if_neg (by omega),if_neg (by omega),if_neg (by omega)]
  have k9:s1.get (s.next+11)=none:=by
   rw[eg1 _ (by simp only[Z',Z6];omega) (R1.B8 (.inl (by omega)))];simp only[Z9,ZT,Z7,Z',Z_];rw[if_neg (by omega),if_neg (by omega),if_neg (by omega),if_neg (by omega),if_neg (by omega)];exact Nc 11
  simp only[Z',Z6] at EZ;rw[<-hY4] at kt;rw[<-hY5] at kx;simp only[go_sem,e1,k4,kt,k9,t4,la2,VP,Ba,ZH,Nat.reducePow,ah1,akc,Option.isNone_none,IQ];have R2':ZK s1 (s0.next+2) 234 1 (acc.length+i) ((acc++L.take i).map WO) sv :=
   (RS Y1 Y5 Y3 Y4 Y5 R2).stay (RS Y1 Y5 Y3 Y4 Y5 R1) (by decide) (by rw[EZ];simp only[Z',Z6];omega) fun j hj hv=>eg1 j (by simp only[Z',Z6] at hj ⊢;omega) hv
  have R3':ZK s1 (s0.next+2) 3 1 (acc.length+i) (ints ((acc++L.take i).map VW)) st :=
   (RS Y1 Y5 Y3 Y4 Y5 R3).stay (RS Y1 Y5 Y3 Y4 Y5 R1) (by decide) (by rw[EZ];simp only[Z',Z6];omega) fun j hj hv=>eg1 j (by simp only[Z',Z6] at hj ⊢;omega) hv
  generalize hY6:Uy.cells [WO L[i]] 234 false 0 0=Y6;have P1:∀{t:TypeId} {n k:Nat} {cs:List AV} {w:AV},ZK s1 (s0.next+2) t n k cs w->(∀lo,s1.get (s.next+11)=lo->lo=none)->ZK (s1.put (s.next+11) Y6) (s0.next+2) t n k cs w:=fun {t n k cs w} h _=>by
   rcases h with⟨h0,h1,h2⟩|⟨h0,h1,b,h2,h3,h4,h5⟩
   ·exact .inl ⟨h0,h1,h2⟩
   ·refine .inr ⟨h0,h1,b,h2,h3,h4,?_⟩;have:s.next+11≠b:=fun e=>by rw[<-e,k9] at h5;cases h5
    rw[Z9,if_neg this];exact h5
  have Q2:=P1 R2' (fun lo h=>by rw[<-h,k9]);have Q3:=P1 R3' (fun lo h=>by rw[<-h,k9]);have Q1:=P1 er1 (fun lo h=>by rw[<-h,k9]);obtain⟨s2,e2,sn,er2,eg2,ef2⟩:=Q2.Gy (by rw[Z',EZ];omega) (m:=1) (new:=[WO L[i]]) (by omega) rfl (by simp[IP]);rw[Z',EZ] at e2 sn er2 eg2;have j4:s2.get (s0.next+1)=some (.cells [v,lv,sv] 152 false 0 0):=by rw[eg2 _ (by omega) (R2.B8 (.inr (by omega))),Z9,if_neg (by omega),k4]
  have jt:s2.get (s.next+1)=s1.get (s.next+1):=by rw[eg2 _ (by omega) (R2.B8 (.inl (by omega))),Z9,if_neg (by omega)]
  have jx:s2.get s.next=s1.get s.next:=by rw[eg2 _ (by omega) (R2.B8 (.inl (by omega))),Z9,if_neg (by omega)]
  rw[kt] at jt;rw[kx] at jx;have nf:∀k,(s0.next+1=s.next+k)=False:=fun k=>by simp;omega
  have nf':(s0.next+1=s.next)=False:=by simp;omega
  have hp8:cellOf (some Y4) 8=some (WO L[i]):=by rw[<-hY4];rfl
  simp only[go_sem,hp8,e2,j4,jt,jx,k4,kt,t4,t6,sn,g4,ne,ne',nf,nf',la3,VP,Ba,ZH,Nat.reducePow,ah1,akc,Xz];have V3:ZK s2 (s0.next+2) 3 1 (acc.length+i) (ints ((acc++L.take i).map VW)) st :=
   Q3.stay Q2 (by decide) (by rw[sn,Z',EZ];omega) fun j hj hv=>eg2 j (by rw[Z',EZ] at hj;omega) hv
  have V1:ZK s2 (s0.next+2) 48 7 (acc.length+i+1) (Yw (acc++L.take i)++L[i].cells) (.sl (s.next+17) 0 (acc.length+i+1) none 7) :=
   Q1.stay Q2 (by decide) (by rw[sn,Z',EZ];omega) fun j hj hv=>eg2 j (by rw[Z',EZ] at hj;omega) hv
  generalize hZ1:Uy.cells [v,.sl (s.next+17) 0 (acc.length+(i+1)) none 7,sv] 152 false 0 0=Z1;generalize hZ2:Uy.cells [v,.sl (s.next+17) 0 (acc.length+(i+1)) none 7,.sl (s.next+18) 0 (acc.length+(i+1)) none 1] 152 false 0 0=Z2;generalize hZ3:Uy.cells [.int .i64 (VW L[i])] 3 false 0 0=Z3;have TS:∀{t:TypeId} {n k:Nat} {cs:List AV} {w:AV},ZK s2 (s0.next+2) t n k cs w->ZK (((s2.put (s0.next+1) Z1).put (s0.next+1) Z2).new Z3) (s0.next+2) t n k cs w:=fun h =>
   h.mono (by simp only[Z',Z_];omega) fun j hj wJ=>by rw[Z7,Z',Z',if_neg (by omega),Z9,if_neg (by omega),Z9,if_neg (by omega)]
  obtain⟨s3,e3,en3,er3,eg3,ef3⟩:=(TS V3).Gy (by simp only[Z',Z_];omega) (m:=1) (new:=[.int .i64 (VW L[i])]) (by omega) rfl rfl;simp only[Z',Z_,sn] at e3 en3 er3 eg3;rw[e3];simp only[go_sem,h24,Rm];have dJ:∀{t:TypeId} {n k:Nat} {cs:List AV} {w:AV} {s':St},ZK s' (s0.next+2) t n k cs w->∀j,j<s0.next+2->w≠.sl j 0 k none n:=fun h j hj=>h.B8 (.inr hj)
  have G:∀j,j<s0.next+1->s3.get j=s.get j:=fun j hj=>by
   rw[eg3 j (by omega) (dJ V3 j (by omega)),Z7,Z',Z',if_neg (by omega),Z9,if_neg (by omega),Z9,if_neg (by omega),eg2 j (by omega) (dJ R2 j (by omega)),Z9,if_neg (by omega),eg1 j (by simp only[Z',Z6];omega) (dJ R1 j (by omega)),GS _ _ _ _ _ j (by omega)]
  have G4:s3.get (s0.next+1)=some Z2:=by
   rw[eg3 _ (by omega) (dJ V3 _ (by omega)),Z7,Z',Z',if_neg (by omega),Z9,if_pos rfl]
  have JS:acc++L.take (i+1)=(acc++L.take i)++[L[i]]:=by rw[alX hd,alS]
  have kj:(acc++L.take (i+1)).length=acc.length+i+1:=by rw[JS,agy,hal];rfl
  refine IH (i+1) _ _ (by omega) ⟨by omega,⟨?_,?_,?_,by rw[en3];omega,?_,fun j hj=>by rw[G j (by omega),old j hj],by rw[G _ (by omega),g2],_,_,.sl (s.next+20) 0 (acc.length+i+1) none 1,by rw[G4,<-hZ2],?_,?_,?_,?_⟩,?_,?_,?_,?_,?_,?_⟩
  case refine_4 =>
   refine ef3 (((ef2 ?_).put (by rw[sn];omega) _).put (by rw[Z',sn];omega) _ |>.new _);exact (ef1 (FS _ _ _ _ _)).put (by rw[EZ];omega) _
  case refine_6 =>
   rw[kj,JS,Yw,List.flatMap_append];refine ((TS V1).stay (TS V3) (by decide) (by rw[en3,Z_,Z',Z',sn];omega) fun j hj hv=>eg3 j (by simp only[Z',Z_,sn] at hj;omega) hv:ZK s3 _ _ _ _ (Yw (acc++L.take i)++L[i].cells) _) |> fun h=>?_
   simpa[Yw,ZV,QE,akc] using h
  case refine_7 =>
   rw[kj,JS,alY];exact (TS er2).stay (TS V3) (by decide) (by rw[en3,Z_,Z',Z',sn];omega) fun j hj hv=>eg3 j (by simp only[Z',Z_,sn] at hj;omega) hv
  case refine_8 =>
   rw[kj,JS,alY,ints,alY];exact er3
  all_goals simp only[go_sem,t2,t4,t5,h15,h16,h17,h22,h23]
 ·have:i=L.length:=by omega
  subst this;rw[amH] at hF;simp only[go_sem,BF,h23,h24,Z8,alh];refine hk _ _ ⟨?_,?_,?_,hF.nx,hF.fr,hF.old,hF.g2,?_⟩ ?_ ?_ ?_
  case refine_4 =>
   obtain⟨lv,sv,st,g4,t6,R⟩:=hF.rows;exact⟨lv,sv,st,g4,by simp only[go_sem,t6],R⟩
  all_goals simp only[go_sem,hF.t2,hF.t4,hF.t5,h15,h16,h17]
theorem U6:∀(a b:List Z5),ZJ (a++b)=ZJ a++ZJ b
 |[],b=>by simp[ZJ]
 |c::a,b=>by rw[alU,ZJ,ZJ,U6 a b,alS]
theorem Lb {c:Z5}:∀{l:List Z5},c∈ZJ l->∃x∈l,c∈Ve x
 |[],h=>by simp[ZJ] at h
 |x::l,h=>by
  rw[ZJ,amb] at h;rcases h with h|h
  ·exact⟨x,aba ..,h⟩
  ·obtain⟨y,h1,h2⟩:=Lb h;exact⟨y,aab _ h1,h2⟩
theorem La:∀c:Z5,c.wf->∀x∈Ve c,x.wf/\(ZF x.kind).leaf=true:=by
 intro c
 induction c using Z5.ind with
 |h k a b mi ma p nl kids ih =>
 intro h x hx;have Ef:=Rf h;have h':=h;rw[Z5.wf] at h';obtain⟨-,-,-,-,-,-,Cn,-,-,-,-,-,hk⟩:=h';rw[Ve] at hx
 cases hc:XD k with
 |true =>
  rw[hc] at hx;obtain⟨y,h1,h2⟩:=Lb hx;exact ih y h1 (hk y h1) x h2
 |false =>
  rw[hc] at hx;simp only[cond_false,ake] at hx;subst hx;refine⟨h,?_⟩;rw[NM k Cn] at hc;show (ZF k).leaf=true
  simpa using hc
def P92 (s0:St)(v:AV)(l:List Z5)(r:Option (AV×St)):Prop:=∃s' lv sv st,r=some (.XU [.agg [v,lv,sv],st],s')/\Fr s'/\s0.next+2<=s'.next/\(∀j,j<s0.next->s'.get j=s0.get j) /\
   ZK s' (s0.next+2) 48 7 (ZJ l).length (Yw (ZJ l)) lv/\ZK s' (s0.next+2) 234 1 (ZJ l).length ((ZJ l).map WO) sv/\ZK s' (s0.next+2) 3 1 (ZJ l).length (ints ((ZJ l).map VW)) st
theorem c92 (s0:St)(v:AV)(l:List Z5)(hl:∀c∈l,c.wf)(EK:l.length<=2^20)(hlen:(ZJ l).length<=2^20)(hr:CRow s0 v l)(hf:Fr s0) :
  ∃s' lv sv st,Rl U 92 [v] s0=some (.XU [.agg [v,lv,sv],st],s')/\Fr s'/\s0.next+2<=s'.next/\(∀j,j<s0.next->s'.get j=s0.get j) /\
   ZK s' (s0.next+2) 48 7 (ZJ l).length (Yw (ZJ l)) lv/\ZK s' (s0.next+2) 234 1 (ZJ l).length ((ZJ l).map WO) sv/\ZK s' (s0.next+2) 3 1 (ZJ l).length (ints ((ZJ l).map VW)) st:=by
 have key:∃s' lv sv st,go U (Sx U [.cell 2 152,.tmp 3]) [] r92 (YX 0 [v] .nil) s0=some (.XU [.agg [v,lv,sv],st],s')/\Fr s'/\s0.next+2<=s'.next/\(∀j,j<s0.next->s'.get j=s0.get j) /\
   ZK s' (s0.next+2) 48 7 (ZJ l).length (Yw (ZJ l)) lv/\ZK s' (s0.next+2) 234 1 (ZJ l).length ((ZJ l).map WO) sv/\ZK s' (s0.next+2) 3 1 (ZJ l).length (ints ((ZJ l).map VW)) st:=by
  have v1:=hr.plain;have v2:=hr.cells;have v3:=hr.len;simp (maxSteps:=2000000) +contextual only[go_sem,r92,v1,v2,v3,aaJ];show P92 s0 v l _;refine YP (σ:=Nat) (ZB:=P92 s0 v l)
   (fun i=>l.length-i) (fun i e s=>i<=l.length/\F92 s0 v (ZJ (l.take i)) e s/\Env.get e 15=v/\Env.get e 16=.int .i64 l.length/\Env.get e 17=.int .i64 (i:Nat)) 0 ?_ ?_
  ·rintro L i e s ⟨hi,hF,h15,h16,h17⟩ IH;by_cases hd:i<l.length
   ·obtain⟨t2,t4,t5,nx,fr,old,g2,lv,sv,st,g4,t6,R1,R2,R3⟩:=hF;obtain⟨x,Jw,EI⟩:=hr.elem i hd;have EI:=EI s old;have Rm:=ZN hd (by omega);have SY:=adm hd;have Kf:ZJ l=ZJ (l.take i)++(Ve l[i]++ZJ (l.drop (i+1))):=by
     conv=>lhs;rw[<-List.take_append_drop i l,U6,abc hd,ZJ]
    have LP:(ZJ (l.take i)).length+((Ve l[i]).length+(ZJ (l.drop (i+1))).length)=(ZJ l).length:=by rw[Kf];simp
    have hc:=ahz l[i] (hl _ SY) (by omega);have JS:ZJ (l.take (i+1))=ZJ (l.take i)++Ve l[i]:=by
     rw[alX hd,U6];simp[ZJ]
    rw[ZV] at EI hc;simp only[Z5.cells] at EI hc;simp (maxSteps:=2000000) +contextual only[go_sem,wN,h15,h16,h17,Z8,hd,Jw,EI,hc,ZL,agC];refine l92 s0 v ⟨v1,v2⟩ (ZJ (l.take i)) (Ve l[i]) (CD _ (hl _ SY)) (fun c hc=>(La _ (hl _ SY) c hc).2) (by omega) v (.int .i64 l.length) (.int .i64 (i:Nat)) ?_ ⟨?_,?_,?_,?_,?_,?_,?_,lv,sv,st,?_,?_,?_,?_,?_⟩ ?_ ?_ ?_ ?_ ?_ ?_
    case refine_1 =>
     intro e' s' oo q15 q16 q17;simp (maxSteps:=2000000) +contextual only[go_sem,q17,Rm];refine IH (i+1) _ _ (by omega) ⟨by omega,?_,?_,?_,?_⟩
     ·rw[JS];obtain⟨lv',sv',st',y4,y6,yR⟩:=oo.rows;exact⟨by simp +contextual only[go_sem,oo.t2],by simp +contextual only[go_sem,oo.t4],by simp +contextual only[go_sem,oo.t5],oo.nx,oo.fr,oo.old,oo.g2,lv',sv',st',y4,by simp +contextual only[go_sem,y6],yR⟩
     all_goals simp +contextual only[go_sem,q15,q16]
    case refine_5=>simp only[Z',Z_];omega
    case refine_6=>exact (fr.new _).put (by rw[Z_];omega) _
    case refine_7 =>
     intro j hj;rw[Z9,if_neg (by omega),Z7,if_neg (by omega),old j hj]
    case refine_8=>rw[Z9,if_neg (by omega),Z7,if_neg (by omega),g2]
    case refine_9=>rw[Z9,if_neg (by omega),Z7,if_neg (by omega),g4]
    case refine_11=>exact R1.mono (by simp only[Z',Z_];omega) fun j _ hj=>by rw[Z9,if_neg (by omega),Z7,if_neg (by omega)]
    case refine_12=>exact R2.mono (by simp only[Z',Z_];omega) fun j _ hj=>by rw[Z9,if_neg (by omega),Z7,if_neg (by omega)]
    case refine_13=>exact R3.mono (by simp only[Z',Z_];omega) fun j _ hj=>by rw[Z9,if_neg (by omega),Z7,if_neg (by omega)]
    all_goals simp +contextual only[go_sem,t2,t4,t5,t6,h15,h16,h17]
    all_goals rfl
   ·have:i=l.length:=by omega
    subst this;rw[amH] at hF;obtain⟨t2,t4,t5,nx,fr,old,g2,lv,sv,st,g4,t6,R1,R2,R3⟩:=hF;have na1:=R1.Zz;have na2:=R2.Zz;simp (maxSteps:=2000000) +contextual only[go_sem,wN,h16,h17,t2,t4,t6,g2,g4,Z8,alh,na1,na2,v1];refine⟨_,lv,sv,st,rfl,fr.put (by omega) _,by rw[Z'];exact nx,fun j hj=>by rw[Z9,if_neg (by omega),old j hj],?_,?_,?_⟩
    ·exact R1.mono (by rw[Z'];omega) fun j hj _=>by rw[Z9,if_neg (by omega)]
    ·exact R2.mono (by rw[Z'];omega) fun j hj _=>by rw[Z9,if_neg (by omega)]
    ·exact R3.mono (by rw[Z'];omega) fun j hj _=>by rw[Z9,if_neg (by omega)]
  ·refine⟨aic _,⟨?_,?_,?_,?_,?_,?_,?_,.ZW,.ZW,.ZW,?_,?_,ZK.nil _ _ _ _,ZK.nil _ _ _ _,ZK.nil _ _ _ _⟩,?_,?_,?_⟩
   case refine_5=>exact ((hf.new _).new _).put (by simp only[Z_];omega) _
   case refine_6 =>
    intro j hj;simp only[Z9,Z7,Z_];rw[if_neg (by omega),if_neg (by omega),if_neg (by omega)]
   all_goals simp +contextual only[go_sem]
   all_goals first|rfl|omega|(rw[if_neg (by omega)])|skip
 obtain⟨s',lv,sv,st,h1,h2⟩:=key;exact⟨s',lv,sv,st,VE k92 (by kernel_rfl) h1,h2⟩
mutual
def jd:Z5->List Bool->Bool
 |.mk k _ _ _ _ _ _ kids,hs=>bif XD k then (match ZF k with
   |.QG=>!(lx kids hs false true).1
   |.OV=>(lx kids hs false true).1
   |_=>(lx kids hs false true).2) else hs.headD false
def lx:List Z5->List Bool->Bool->Bool->Bool×Bool
 |[],_,s,a=>(s,a)
 |c::l,hs,s,a=>lx l (hs.drop (Ve c).length) (s||jd c hs) (a&&jd c hs)
end
theorem aaj (args:List AV)(s:St):X6 U (ZE U 161 args) 161 args s=Rl U 161 args s:=(XI U 161 args s).symm
theorem ahl (args:List AV)(s:St):X6 U (ZE U 162 args) 162 args s=Rl U 162 args s:=(XI U 162 args s).symm
theorem ak1 {p q b n:Nat}{cap:Option Nat}{H:List Bool}{k:Nat}{s:St}(tH:p≠q)(fC:p≠b)(hk:k<H.length)(hn:H.length=n)(rD:n<=2^30)
  (hp:s.get p=some (.cells [.int .i64 ((k:Int)-1)] 3 false 0 0))(hq:s.get q=some (.cells [.sl b 0 n cap 1] 43 false 0 0))(hb:s.get b=some (.cells (ZM H) 4 false 0 0)) :
  Rl U 162 [.ptr p 0,.ptr q 0] s=some (.bool H[k],s.put p (.cells [.int .i64 (k:Int)] 3 false 0 0)):=by
 refine VE akz (by kernel_rfl) ?_;have hw:IntKind.i64.wrap ((k:Int)-1+1)=(k:Int):=by rw[wrap_i64] <;> omega
 have hx:(ZM H)[k]? = some (.bool H[k]):=by rw[Du,aaa hk];rfl
 have Bb:k<n:=by omega
 simp only[go_sem,agT,hp,hq,hb,hw,tH,fC,hx,Bb,ald,ah1]
def adp (p:Nat)(s0:St)(v:Bool)(m:Nat)(r:Option (AV×St)):Prop :=
 ∃s',r=some (.bool v,s')/\s'.get p=some (.cells [.int .i64 ((m:Int)-1)] 3 false 0 0)/\(∀j,j<s0.next->j≠p->s'.get j=s0.get j)/\s0.next<=s'.next/\Fr s'
theorem aiO (p q b n:Nat)(cap:Option Nat)(H:List Bool)(tH:p≠q)(fC:p≠b)(hn:H.length=n)(rD:n<=2^30):∀c:Z5,c.wf->∀(k:Nat) (s:St),Fr s->p<s.next->q<s.next->b<s.next ->
  s.get p=some (.cells [.int .i64 ((k:Int)-1)] 3 false 0 0)->s.get q=some (.cells [.sl b 0 n cap 1] 43 false 0 0)->s.get b=some (.cells (ZM H) 4 false 0 0)->k+(Ve c).length<=n ->
  adp p s (jd c (H.drop k)) (k+(Ve c).length) (Rl U 161 [Zw c,.fn (.func 162) [] [.ptr p 0,.ptr q 0]] s):=by
 intro c
 induction c using Z5.ind with
 |h kind a bb mi ma pat nl kids ih =>
 intro S3 k s0 PX eB hq0 Er hp hq hb Cn;have h213:=aaV (.mk kind a bb mi ma pat nl kids);rw[show (Z5.mk kind a bb mi ma pat nl kids).kind=kind from rfl] at h213;have fc:=S3;rw[Z5.wf] at fc;obtain⟨-,-,-,-,-,-,gw,-,-,-,-,fY,nk⟩:=fc
 suffices mn:adp p s0 (jd (.mk kind a bb mi ma pat nl kids) (H.drop k)) (k+(Ve (.mk kind a bb mi ma pat nl kids)).length) (go U (Sx U [.tmp 4]) [] bC (YX 0 [Zw (.mk kind a bb mi ma pat nl kids),.fn (.func 162) [] [.ptr p 0,.ptr q 0]] .nil) s0) by
  obtain⟨s',h1,h2⟩:=mn;exact⟨s',VE aky (by kernel_rfl) h1,h2⟩
 rw[Ve] at Cn ⊢;rw[jd]
 cases Ef:XD kind with
 |false =>
  rw[Ef] at h213 Cn;simp only[cond_false,alW] at Cn ⊢;have hk:k<H.length:=by omega
  have WE:=@ak1 _ p q b n cap H k (s0.new (.cells (Z5.mk kind a bb mi ma pat nl kids).cells 48 false 0 0)) tH fC hk hn rD (by rw[Z7,if_neg (by omega)];exact hp) (by rw[Z7,if_neg (by omega)];exact hq) (by rw[Z7,if_neg (by omega)];exact hb);have hhd:(H.drop k).headD false=H[k]:=by rw[abc hk];rfl
  rw[hhd];rw[Zw] at h213 ⊢;simp only[Z5.cells,Z5.kind,Z5.a,Z5.b,Z5.mi,Z5.ma,Z5.pat,Z5.nl,Z5.kids] at WE;simp only[go_sem,bC,h213,ahl,WE];refine⟨_,rfl,?_,?_,?_,?_⟩
  ·rw[Z9,if_pos rfl,show ((k+1:Nat):Int)-1=(k:Int) by omega]
  ·intro j hj hjp;rw[Z9,if_neg (fun e=>hjp e.symm),Z7,if_neg (by omega)]
  ·rw[Z',Z_];omega
  ·exact (PX.new _).put (by rw[Z_];omega) _
 |true =>
  rw[Ef] at h213 Cn;simp only[cond_true] at Cn ⊢;rw[Zw] at h213 ⊢;have ne:∀k,(s0.next+1+k=s0.next)=False:=fun k=>by simp;omega
  simp only[go_sem,bC,h213,ZI,Yd];refine YP (σ:=Nat) (fun i=>kids.length-i) (fun i e s=>i<=kids.length/\(∃sm al,lx (kids.drop i) (H.drop (k+(ZJ (kids.take i)).length)) sm al=lx kids (H.drop k) false true/\Env.get e 5=.bool sm/\Env.get e 6=.bool al) /\
   Env.get e 1=.fn (.func 162) [] [.ptr p 0,.ptr q 0]/\Env.get e 2=.ptr s0.next 0/\Env.get e 16=ZG nl (WW kids)/\Env.get e 17=.int .i64 kids.length/\Env.get e 18=.int .i64 (i:Nat) /\
   Fr s/\s0.next<s.next/\s.get s0.next=some (.cells [.str kind,.int .i64 a,.int .i64 bb,.int .i64 mi,.int .i64 ma,.str pat,ZG nl (WW kids)] 48 false 0 0)/\(∀j,j<s0.next->j≠p->s.get j=s0.get j) /\
   s.get p=some (.cells [.int .i64 (((k+(ZJ (kids.take i)).length:Nat):Int)-1)] 3 false 0 0)) 0 ?_ ?_
  ·rintro L i e s ⟨hi,⟨sm,al,hj,g5,g6⟩,g1,g2,Il,UY,bV,fr,Vl,hs,hold,Kf⟩ IH;by_cases hd:i<kids.length
   ·have hx:(WW kids)[i]? = some (Zw kids[i]):=by rw[Vb,aaa hd];rfl
    have hw:=ZN hd (by omega);have SY:=adm hd;have JS:ZJ (kids.take (i+1))=ZJ (kids.take i)++Ve kids[i]:=by
     rw[alX hd,U6];simp[ZJ]
    have abB:ZJ kids=ZJ (kids.take i)++(Ve kids[i]++ZJ (kids.drop (i+1))):=by
     conv=>lhs;rw[<-List.take_append_drop i kids,U6,abc hd,ZJ]
    have LP:(ZJ (kids.take i)).length+((Ve kids[i]).length+(ZJ (kids.drop (i+1))).length)=(ZJ kids).length:=by rw[abB];simp
    have hQ:∀y z j,j<s.next->((s.new y).put s.next z).get j=s.get j:=fun y z j hj=>by rw[Z9,if_neg (by omega),Z7,if_neg (by omega)]
    obtain⟨s',e1,e2,e3,e4,e5⟩:=ih kids[i] SY (nk _ SY) (k+(ZJ (kids.take i)).length) ((s.new (.cells [.str [],.int .i64 0,.int .i64 0,.int .i64 0,.int .i64 0,.str [],.ZW] 48 false 0 0)).put s.next (.cells kids[i].cells 48 false 0 0))
     ((fr.new _).put (by rw[Z_];omega) _) (by rw[Z',Z_];omega) (by rw[Z',Z_];omega) (by rw[Z',Z_];omega)
     (by rw[hQ _ _ _ (by omega)];exact Kf) (by rw[hQ _ _ _ (by omega),hold _ hq0 (fun e=>tH e.symm)];exact hq) (by rw[hQ _ _ _ (by omega),hold _ Er (fun e=>fC e.symm)];exact hb) (by omega)
    rw[ZV] at hx e1;simp only[Z5.cells] at hx e1;rw[YR (XL hd)] at Il;simp only[go_sem,Br,g1,g5,g6,Il,UY,bV,Z8,hd,hx,ZL,aaj,e1,hw];rw[Z',Z_] at e4;rw[abc hd,lx,List.drop_drop] at hj;refine IH (i+1) _ _ (by omega) ⟨by omega,⟨sm||jd kids[i] (H.drop (k+(ZJ (kids.take i)).length)),al&&jd kids[i] (H.drop (k+(ZJ (kids.take i)).length)),?_,?_,?_⟩,?_,?_,?_,?_,?_,e5,by omega,?_,?_,?_⟩
    case refine_1 =>
     rw[JS,agy,<-akc];exact hj
    case refine_9=>rw[e3 _ (by rw[Z',Z_];omega) (by omega),hQ _ _ _ (by omega),hs]
    case refine_10=>exact fun j hj hjp=>by rw[e3 _ (by rw[Z',Z_];omega) hjp,hQ _ _ _ (by omega),hold j hj hjp]
    case refine_11=>rw[JS,agy,<-akc];exact e2
    all_goals simp only[go_sem,g1,g2,Il,UY,YR (XL hd)]
    all_goals first|(cases sm <;> rfl)|(cases al <;> rfl)|skip
   ·have:i=kids.length:=by omega
    subst this;rw[alO,lx] at hj;rw[amH] at Kf;rw[<-hj];obtain⟨h0,h1,h2,h3,h4,h5,h6,h7,h8,h9,h10,h11,h12,h13,h14⟩:=UN kind;have Tk:=NM kind gw;rw[Ef] at Tk;have ak2:∀v,v=(match ZF kind with|.QG=>!sm|.OV=>sm|_=>al)->adp p s0 (match ZF kind with|.QG=>!(sm,al).1|.OV=>(sm,al).1|_=>(sm,al).2) (k+(ZJ kids).length) (some (.bool v,s)):=fun v hv =>
     ⟨s,by rw[hv],Kf,hold,by omega,fr⟩
    generalize ZF kind=dd at *
    cases dd <;> first|(simp[Kd.leaf] at Tk;done)|skip
    all_goals simp only[reduceCtorEq,decide_true,decide_false] at h12 h14
    all_goals simp only[go_sem,Br,g2,g5,g6,UY,bV,hs,Z8,alh,h12,h14]
    all_goals first|exact ak2 _ rfl|(exfalso;simp[Kd.known] at gw)
  ·refine⟨aic _,⟨false,true,?_,?_,?_⟩,?_,?_,?_,?_,?_,PX.new _,by rw[Z_];omega,?_,?_,?_⟩
   case refine_1=>rw[amd,amF,ZJ];rfl
   case refine_10=>exact fun j hj hjp=>by rw[Z7,if_neg (by omega)]
   case refine_11=>rw[Z7,if_neg (by omega),amF,ZJ];exact hp
   all_goals simp only[go_sem]
   all_goals rfl
end Go.Am
namespace Go.Am
open Go
variable [Z4]
set_option maxRecDepth 100000
set_option maxHeartbeats 8000000
theorem q_ {base i a:Nat}{e:Env}{s:St}{n:Nat}(h:Env.get e a=.int .i64 (n:Int))(hn:n<=2^20) :
  WG U base (some i) e s (.raw (.makeSlice 40 (.tmp a) (.tmp a)))=some (.sl (base+i) 0 n (some n) 1,s.put (base+i) (.cells (ints (List.replicate n 0)) 3 false 0 0)):=by
 have h40:U.Zd 40=some (.slice 3):=by kernel_rfl
 have hz:zero U 3=some (.int .i64 0):=by kernel_rfl
 have hi:(U.inf 3).map (fun i=>(i.bytes,i.size))=some (8,1):=by kernel_rfl
 have e1:ints (List.replicate n 0)=List.replicate n (.int .i64 0):=by simp[ints]
 cases hj:U.inf 3 with
 |none=>rw[hj] at hi;cases hi
 |some j =>
  rw[hj] at hi;simp only[amo,Option.some.injEq,Prod.mk.injEq] at hi;obtain⟨h1,h2⟩:=hi;rw[e1,<-VN];simp only[WG,qY,YI,eval,h,h40,hj,hz];rw[if_pos ⟨by omega,by omega,by rw[h1];omega,by omega,by rw[h2];rfl,by omega⟩,h2];rfl
theorem qW {base i a:Nat}{e:Env}{s:St}{n:Nat}(h:Env.get e a=.int .i64 (n:Int))(hn:n<=2^20) :
  WG U base (some i) e s (.raw (.makeSlice 43 (.tmp a) (.tmp a)))=some (.sl (base+i) 0 n (some n) 1,s.put (base+i) (.cells (ZM (List.replicate n false)) 4 false 0 0)):=by
 have h40:U.Zd 43=some (.slice 4):=by kernel_rfl
 have hz:zero U 4=some (.bool false):=by kernel_rfl
 have hi:(U.inf 4).map (fun i=>(i.bytes,i.size))=some (1,1):=by kernel_rfl
 have e1:ZM (List.replicate n false)=List.replicate n (.bool false):=by simp[ZM]
 cases hj:U.inf 4 with
 |none=>rw[hj] at hi;cases hi
 |some j =>
  rw[hj] at hi;simp only[amo,Option.some.injEq,Prod.mk.injEq] at hi;obtain⟨h1,h2⟩:=hi;rw[e1,<-VN];simp only[WG,qY,YI,eval,h,h40,hj,hz];rw[if_pos ⟨by omega,by omega,by rw[h1];omega,by omega,by rw[h2];rfl,by omega⟩,h2];rfl
theorem ints_set (l:List Int)(i:Nat)(x:Int):(ints l).set i (.int .i64 x)=ints (l.set i x):=by rw[ints,ints,List.map_set]
theorem qV (l:List Bool)(i:Nat)(x:Bool):(ZM l).set i (.bool x)=ZM (l.set i x):=by rw[ZM,ZM,List.map_set]
def Vx (now last:Int)(first:Bool)(c:Z5)(st:Int):Int×Bool:=stP (ZF c.kind) c st now last first
def WN (now last:Int)(first:Bool):List Z5->List Int->List Int
 |c::l,st::Yy=>(Vx now last first c st).1::WN now last first l Yy
 |_,_=>[]
def Xu (now last:Int)(first:Bool):List Z5->List Int->List Bool
 |c::l,st::Yy=>(Vx now last first c st).2::Xu now last first l Yy
 |_,_=>[]
theorem JI (now last:Int)(first:Bool):∀(l:List Z5) (Yy:List Int),Yy.length=l.length->(WN now last first l Yy).length=l.length
 |[],[],_=>rfl
 |c::l,st::Yy,h=>by rw[WN,akd,JI now last first l Yy (by simpa using h)];rfl
theorem Qg (now last:Int)(first:Bool):∀(l:List Z5) (Yy:List Int),Yy.length=l.length->(Xu now last first l Yy).length=l.length
 |[],[],_=>rfl
 |c::l,st::Yy,h=>by rw[Xu,akd,Qg now last first l Yy (by simpa using h)];rfl
theorem Df (now last:Int)(first:Bool):∀(l:List Z5) (Yy:List Int) (i:Nat) (h1:i<l.length) (h2:i<Yy.length) (h3:i<(WN now last first l Yy).length),(WN now last first l Yy)[i]=(Vx now last first l[i] Yy[i]).1
 |c::l,st::Yy,0,_,_,_=>rfl
 |c::l,st::Yy,i+1,h1,h2,h3=>by
  simp only[WN,List.getElem_cons_succ];exact Df now last first l Yy i (by simpa using h1) (by simpa using h2) _
theorem De (now last:Int)(first:Bool):∀(l:List Z5) (Yy:List Int) (i:Nat) (h1:i<l.length) (h2:i<Yy.length) (h3:i<(Xu now last first l Yy).length),(Xu now last first l Yy)[i]=(Vx now last first l[i] Yy[i]).2
 |c::l,st::Yy,0,_,_,_=>rfl
 |c::l,st::Yy,i+1,h1,h2,h3=>by
  simp only[Xu,List.getElem_cons_succ];exact De now last first l Yy i (by simpa using h1) (by simpa using h2) _
def outs:List Z5->List Bool->List Bool
 |[],_=>[]
 |c::l,hs=>jd c hs::outs l (hs.drop (Ve c).length)
section
variable (C L:List Z5)(Yy:List Int)(now last:Int)(first:Bool)
structure F93 (n i:Nat)(N:List Int)(B:List Bool)(e:Env)(s:St):Prop where
 t1:Env.get e 1=.fz (ints Yy)
 t3:Env.get e 3=.ptr 8 0
 t5:Env.get e 5=.ptr 9 0
 t8:Env.get e 8=.sl 12 0 n (some n) 1
 t9:Env.get e 9=.ptr 16 0
 fr:Fr s
 nx:19<=s.next
 g8:s.get 8=some (.cells [.fz (C.map Zw),.fz (L.map Zw),.fz (L.map WO)] 152 false 0 0)
 g9:s.get 9=some (.cells [.int .i64 now,.int .i64 last,.bool first] 158 false 0 0)
 Iw:s.get 12=some (.cells (ints (part N 0 n i)) 3 false 0 0)
 vQ:s.get 15=some (.cells (ZM (part B false n i)) 4 false 0 0)
 Il:s.get 16=some (.cells [.sl 15 0 n (some n) 1] 43 false 0 0)
theorem aiP {β:Type}{fin:Fl->β}{ks:List K}{ZB:β->Prop}(hL:∀c∈L,c.wf/\(ZF c.kind).leaf=true)(hs:∀x∈Yy,0<=x/\x<=256)(hlen:Yy.length=L.length)(hL2:L.length<=2^20)(hn:Qe now)(hl:Qe last)
  (hk:∀e s,F93 C L Yy now last first L.length L.length (WN now last first L Yy) (Xu now last first L Yy) e s->ZB (goN U fin ks e s)){e:Env}{s:St}
  (hI:F93 C L Yy now last first L.length 0 (WN now last first L Yy) (Xu now last first L Yy) e s)(h23:Env.get e 23=.fz (L.map Zw))(h24:Env.get e 24=.int .i64 L.length)(h25:Env.get e 25=.int .i64 (0:Nat)) :
  ZB (SD U fin (.bk 0::ks) Bx e s):=by
 have lN:=JI now last first L Yy hlen
 have lB:=Qg now last first L Yy hlen
 refine YP (σ:=Nat) (fun i=>L.length-i) (fun i e s=>i<=L.length/\F93 C L Yy now last first L.length i (WN now last first L Yy) (Xu now last first L Yy) e s/\Env.get e 23=.fz (L.map Zw)/\Env.get e 24=.int .i64 L.length/\Env.get e 25=.int .i64 (i:Nat)) 0 ?_ ⟨aic _,hI,h23,h24,h25⟩;clear hI h23 h24 h25 e s;rintro Lp i e s ⟨hi,hF,h23,h24,h25⟩ IH;by_cases hd:i<L.length
 ·obtain⟨t1,t3,t5,t8,t9,fr,nx,g8,g9,Iw,vQ,Il⟩:=hF;have hx:(L.map Zw)[i]? = some (Zw L[i]):=by rw[alV,aaa hd];rfl
  have hxs:(L.map WO)[i]? = some (WO L[i]):=by rw[alV,aaa hd];rfl
  have tR:i<Yy.length:=by omega
  have hxt:(ints Yy)[i]? = some (.int .i64 Yy[i]):=by rw[RM,aaa tR];rfl
  have Rm:=ZN hd (by omega);have SY:=adm hd;obtain⟨w1,w2⟩:=hL _ SY;have Xz:∀s,GR U (WO L[i]) [Zw L[i],.int .i64 Yy[i],Yc now last first] s=some (.XU [.int .i64 (Vx now last first L[i] Yy[i]).1,.bool (Vx now last first L[i] Yy[i]).2],s) :=
   fun s=>o4 L[i] w1.A9 Yy[i] now last first hn hl (hs _ (adm tR)) _ w2 s
  rw[<-Df now last first L Yy i hd tR (by omega),<-De now last first L Yy i hd tR (by omega)] at Xz;have aQ:lay i [.int .i64 ((WN now last first L Yy)[i]'(by omega))] (ints (part (WN now last first L Yy) 0 L.length i))=some (ints (part (WN now last first L Yy) 0 L.length (i+1))):=by
   rw[NH _ _ _ (by rw[YK,Ol _ _ lN hi];exact hd),ints_set,Qj _ _ lN hd]
  have gj:lay i [.bool ((Xu now last first L Yy)[i]'(by omega))] (ZM (part (Xu now last first L Yy) false L.length i))=some (ZM (part (Xu now last first L Yy) false L.length (i+1))):=by
   rw[NH _ _ _ (by rw[WX,Ol _ _ lB hi];exact hd),qV,Qj _ _ lB hd]
  rw[Yc] at Xz;rw[ZV] at hx Xz;simp only[Z5.cells] at hx Xz;generalize (WN now last first L Yy)[i]'(by omega)=vN at *;generalize (Xu now last first L Yy)[i]'(by omega)=vB at *;have ne:∀k,k<19->(s.next=k)=False:=fun k hk=>by simp;omega
  have ne':∀j k,k<19->(s.next+j=k)=False:=fun j k hk=>by simp;omega
  simp only[go_sem,Bx,t1,t3,t5,t8,t9,g8,g9,Iw,vQ,Il,h23,h24,h25,Z8,hd,hx,hxs,hxt,ZL,IQ,Uc afX,ne,Xz,aQ,gj,Rm,ah1,ald];have ZC:∀k,k<19->¬s.next=k:=fun k hk=>by omega
  refine IH (i+1) _ _ (by omega) ⟨by omega,⟨?_,?_,?_,?_,?_,?_,?_,?_,?_,?_,?_,?_⟩,?_,?_,?_⟩
  case refine_6 =>
   repeat first|exact fr|apply Fr.new|apply Fr.put|apply Fr.upto
   all_goals simp only[Z',Z_,Z6]
   all_goals omega
  case refine_7=>simp only[Z',Z6];omega
  all_goals simp only[go_sem,t1,t3,t5,t8,t9,h23,h24,g8,g9,Il,Nat.reduceEqDiff,ZC,Nat.reduceLT]
 ·have:i=L.length:=by omega
  subst this;simp only[go_sem,Bx,h24,h25,Z8,alh];obtain⟨t1,t3,t5,t8,t9,fr,nx,g8,g9,Iw,vQ,Il⟩:=hF;refine hk _ _ ⟨?_,?_,?_,?_,?_,fr,nx,g8,g9,Iw,vQ,Il⟩
  all_goals simp only[go_sem,t1,t3,t5,t8,t9]
end
end Go.Am
namespace Go.Am
open Go
variable [Z4]
set_option maxRecDepth 100000
set_option maxHeartbeats 8000000
section
variable (C:List Z5)(N:List Int)(B:List Bool)
theorem aiN {β:Type}{fin:Fl->β}{ks:List K}{ZB:β->Prop}(p:Nat)(hp:19<=p)(hC:∀c∈C,c.wf)(hC2:C.length<=2^20)(hB:B.length=(ZJ C).length)(hB2:B.length<=2^20)
  (hk:∀e s v,Env.get e 8=.sl 12 0 B.length (some B.length) 1->Env.get e 13=v->ZK s (p+1) 4 1 (outs C B).length (ZM (outs C B)) v->s.get 12=some (.cells (ints N) 3 false 0 0)->ZB (goN U fin ks e s)){e:Env}{s:St}
  (h8:Env.get e 8=.sl 12 0 B.length (some B.length) 1)(h9:Env.get e 9=.ptr 16 0)(h12:Env.get e 12=.ptr p 0)(h13:Env.get e 13=.ZW)(h53:Env.get e 53=.fz (C.map Zw))(h54:Env.get e 54=.int .i64 C.length)(h55:Env.get e 55=.int .i64 (0:Nat))
  (fr:Fr s)(nx:p<s.next)(gp:s.get p=some (.cells [.int .i64 (-1)] 3 false 0 0))(Iw:s.get 12=some (.cells (ints N) 3 false 0 0))(vQ:s.get 15=some (.cells (ZM B) 4 false 0 0))(Il:s.get 16=some (.cells [.sl 15 0 B.length (some B.length) 1] 43 false 0 0)) :
  ZB (SD U fin (.bk 2::ks) BP e s):=by
 refine YP (σ:=Nat) (fun i=>C.length-i) (fun i e s=>i<=C.length/\Env.get e 8=.sl 12 0 B.length (some B.length) 1/\Env.get e 9=.ptr 16 0/\Env.get e 12=.ptr p 0/\Env.get e 53=.fz (C.map Zw)/\Env.get e 54=.int .i64 C.length/\Env.get e 55=.int .i64 (i:Nat) /\
  Fr s/\p<s.next/\s.get p=some (.cells [.int .i64 (((ZJ (C.take i)).length:Int)-1)] 3 false 0 0)/\s.get 12=some (.cells (ints N) 3 false 0 0)/\s.get 15=some (.cells (ZM B) 4 false 0 0)/\s.get 16=some (.cells [.sl 15 0 B.length (some B.length) 1] 43 false 0 0) /\
  ∃v acc,Env.get e 13=v/\acc.length=i/\ZK s (p+1) 4 1 i (ZM acc) v/\acc++outs (C.drop i) (B.drop (ZJ (C.take i)).length)=outs C B) 0 ?_
  ⟨aic _,h8,h9,h12,h53,h54,h55,fr,nx,by rw[amF,ZJ,gp];rfl,Iw,vQ,Il,.ZW,[],h13,rfl,ZK.nil _ _ _ _,by rw[amF,ZJ];rfl⟩
 clear h8 h9 h12 h13 h53 h54 h55 fr nx gp Iw vQ Il e s;rintro Lp i e s ⟨hi,h8,h9,h12,h53,h54,h55,fr,nx,gp,Iw,vQ,Il,v,acc,h13,Kc,hv,ho⟩ IH;by_cases hd:i<C.length
 ·have hx:(C.map Zw)[i]? = some (Zw C[i]):=by rw[alV,aaa hd];rfl
  have hw:=ZN hd (by omega);have SY:=adm hd;have JS:ZJ (C.take (i+1))=ZJ (C.take i)++Ve C[i]:=by
   rw[alX hd,U6];simp[ZJ]
  have abB:ZJ C=ZJ (C.take i)++(Ve C[i]++ZJ (C.drop (i+1))):=by
   conv=>lhs;rw[<-List.take_append_drop i C,U6,abc hd,ZJ]
  have LP:(ZJ (C.take i)).length+((Ve C[i]).length+(ZJ (C.drop (i+1))).length)=(ZJ C).length:=by rw[abB];simp
  have hQ:∀y z j,j<s.next->((s.new y).put s.next z).get j=s.get j:=fun y z j hj=>by rw[Z9,if_neg (by omega),Z7,if_neg (by omega)]
  obtain⟨s',e1,e2,e3,e4,e5⟩:=aiO p 16 15 B.length (some B.length) B (by omega) (by omega) rfl (by omega) C[i] (hC _ SY) (ZJ (C.take i)).length ((s.new (.cells [.str [],.int .i64 0,.int .i64 0,.int .i64 0,.int .i64 0,.str [],.ZW] 48 false 0 0)).put s.next (.cells C[i].cells 48 false 0 0))
   ((fr.new _).put (by rw[Z_];omega) _) (by rw[Z',Z_];omega) (by rw[Z',Z_];omega) (by rw[Z',Z_];omega)
   (by rw[hQ _ _ _ (by omega)];exact gp) (by rw[hQ _ _ _ (by omega)];exact Il) (by rw[hQ _ _ _ (by omega)];exact vQ) (by omega)
  rw[Z',Z_] at e3 e4;rw[ZV] at hx e1;simp only[Z5.cells] at hx e1;have Jl:=hv.Xj;have Re:=hv.Zz;have UP:(i+1)*1<=1099511627776:=by omega
  have VP:i+1<=1099511627776:=by omega
  simp only[go_sem,BP,h9,h12,h13,h53,h54,h55,Z8,hd,hx,ZL,aaj,e1,ZH,Nat.reducePow,amk,Jl,UP,VP];generalize hjv:jd C[i] (B.drop (ZJ (C.take i)).length)=jv at *;have rB:ZK (s'.new (.cells [.bool jv] 4 false 0 0)) (p+1) 4 1 i (ZM acc) v:=hv.mono (by rw[Z_];omega) fun j hj wJ=>by
   rw[Z7,if_neg (by omega),e3 j (by omega) (by omega),hQ _ _ _ wJ]
  obtain⟨s1,f1,f2,f3,f4,f5⟩:=rB.Gy (by rw[Z_];omega) (m:=1) (new:=[.bool jv]) (by omega) rfl rfl;rw[Z_] at f1 f2 f3 f4;rw[f1];have low:∀j,j<p+1->s1.get j=s'.get j:=fun j hj=>by rw[f4 j (by omega) (rB.B8 (.inr hj)),Z7,if_neg (by omega)]
  simp only[go_sem,h55,hw];rw[abc hd,outs,hjv,List.drop_drop] at ho;refine IH (i+1) _ _ (by omega) ⟨by omega,?_,?_,?_,?_,?_,?_,f5 (e5.new _),by rw[f2];omega,?_,?_,?_,?_,.sl (s'.next+1) 0 (i+1) none 1,acc++[jv],?_,?_,?_,?_⟩
  case refine_7=>rw[low p (by omega),e2,JS,agy]
  case refine_8=>rw[low 12 (by omega),e3 _ (by omega) (by omega),hQ _ _ _ (by omega),Iw]
  case refine_9=>rw[low 15 (by omega),e3 _ (by omega) (by omega),hQ _ _ _ (by omega),vQ]
  case refine_10=>rw[low 16 (by omega),e3 _ (by omega) (by omega),hQ _ _ _ (by omega),Il]
  case refine_12=>rw[agy,Kc];rfl
  case refine_13=>rw[ZM,alY];exact f3
  case refine_14=>rw[JS,agy,alS];exact ho
  all_goals simp only[go_sem,h8,h9,h12,h53,h54]
 ·have:i=C.length:=by omega
  subst this;rw[alO,outs,alZ] at ho;rw[<-ho] at hk;simp only[go_sem,BP,h54,h55,Z8,alh];refine hk _ _ v ?_ ?_ (by rw[Kc];exact hv) Iw
  all_goals simp only[go_sem,h8,h13]
end
theorem zu:∀(C:List Z5) (B:List Bool),(outs C B).length=C.length
 |[],_=>rfl
 |c::l,B=>by rw[outs,akd,zu l,akd]
def P93 (N:List Int)(O:List Bool)(r:Option (AV×St)):Prop:=∃s' v B,r=some (.XU [.sl 12 0 N.length (some N.length) 1,v],s')/\s'.get 12=some (.cells (ints N) 3 false 0 0)/\ZK s' B 4 1 O.length (ZM O) v
theorem g93 (C:List Z5)(Yy:List Int)(now last:Int)(first:Bool)(hC:∀c∈C,c.wf)(hC2:C.length<=2^20)(hs:∀x∈Yy,0<=x/\x<=256)(hlen:Yy.length=(ZJ C).length)(hL2:(ZJ C).length<=2^20)(hn:Qe now)(hl:Qe last) :
  P93 (WN now last first (ZJ C) Yy) (outs C (Xu now last first (ZJ C) Yy)) (go U (Sx U [.tmp 6,.tmp 7]) [] r93 (YX 0 [.agg [.fz (C.map Zw),.fz ((ZJ C).map Zw),.fz ((ZJ C).map WO)],.fz (ints Yy),Yc now last first] .nil) (X8 U)):=by
 have lN:=JI now last first (ZJ C) Yy hlen
 have lB:=Qg now last first (ZJ C) Yy hlen
 have hLw:∀c∈ZJ C,c.wf/\(ZF c.kind).leaf=true:=fun c hc=>by
  obtain⟨x,h1,h2⟩:=Lb hc;exact La x (hC x h1) c h2
 rw[Yc];have m1:=fun (e:Env) (s:St) (h:Env.get e 17=.int .i64 ((ZJ C).length:Int))=>@q_ _ 10 2 17 e s _ h hL2
 have m2:=fun (e:Env) (s:St) (h:Env.get e 20=.int .i64 ((ZJ C).length:Int))=>@qW _ 10 5 20 e s _ h hL2
 simp only[go_sem,r93,Uc aeS,YK,hlen,m1,m2,agC];refine aiP C (ZJ C) Yy now last first (ZB:=P93 (WN now last first (ZJ C) Yy) (outs C (Xu now last first (ZJ C) Yy))) hLw hs hlen hL2 hn hl ?_ ⟨?_,?_,?_,?_,?_,?_,?_,?_,?_,?_,?_,?_⟩ ?_ ?_ ?_
 case refine_1 =>
  rintro e s ⟨t1,t3,t5,t8,t9,fr,nx,g8,g9,Iw,vQ,Il⟩;rw[Qi _ _ lN] at Iw;rw[Qi _ _ lB] at vQ;have ne:∀k,k<19->(s.next=k)=False:=fun k hk=>by simp;omega
  rw[<-lB] at t8 Il;simp only[go_sem,t3,g8,ne,Nat.reduceLT,agC];refine aiN C (WN now last first (ZJ C) Yy) (Xu now last first (ZJ C) Yy) (ZB:=P93 (WN now last first (ZJ C) Yy) (outs C (Xu now last first (ZJ C) Yy))) s.next nx hC hC2 lB (by omega) ?_ ?_ ?_ ?_ ?_ ?_ ?_ ?_ ?_ ?_ ?_ ?_ ?_ ?_
  case refine_1 =>
   intro e' s' v q8 Cb hv fK;have el:(Xu now last first (ZJ C) Yy).length=(WN now last first (ZJ C) Yy).length:=by rw[lB,lN]
   rw[el] at q8;simp only[go_sem,q8,Cb];exact⟨s',v,_,rfl,fK,hv⟩
  case refine_9 =>
   repeat first|exact fr|apply Fr.new|apply Fr.put|apply Fr.upto
   all_goals simp only[Z_]
   all_goals omega
  case refine_10=>simp only[Z',Z_];omega
  all_goals simp only[go_sem,t8,t9,Iw,vQ,Il,ne,Nat.reduceLT]
  all_goals rfl
 case refine_7 =>
  repeat first|exact Fr.own|apply Fr.new|apply Fr.put|apply Fr.upto
  all_goals simp only[go_sem]
 all_goals simp only[go_sem,qq]
 all_goals rfl
end Go.Am
namespace Go.Am
open Go
variable [Z4]
set_option maxRecDepth 100000
set_option maxHeartbeats 8000000
theorem HG {s:St}{b d n:Nat}{cap:Option Nat}{t:TypeId}{l:List AV}(hn:n=l.length)(hg:s.get b=some (.cells l t false 0 0))(Et:YC U t=some false)(VY:size U t=some 1)(Re:l.all Zz=true)(hf:Y' (XC U s d) l=some l) :
  XC U s (d+1) (.sl b 0 n cap 1)=some (.fz l):=by
 subst hn;simp only[XC,hg,ah1,Ws,Et,VY];rw[if_pos ⟨trivial,by omega,fun _=>⟨trivial,Re⟩⟩,VC,hf]
theorem JJ (s:St)(d:Nat)(l:List Int):Y' (XC U s (d+1)) (ints l)=some (ints l):=UZ fun x hx=>by
 obtain⟨b,_,rfl⟩:=alN.1 hx;rfl
theorem L_ (s:St)(d:Nat)(l:List Bool):Y' (XC U s (d+1)) (ZM l)=some (ZM l):=UZ fun x hx=>by
 obtain⟨b,_,rfl⟩:=alN.1 hx;rfl
theorem ZK.L_ {s:St}{B:Nat}{l:List Bool}{v:AV}(h:ZK s B 4 1 l.length (ZM l) v)(d:Nat):XC U s (d+2) v=some (ZG true (ZM l)):=by
 rcases h with⟨h0,rfl,_⟩|⟨h0,h1,b,_,_,rfl,hg⟩
 ·have:l=[]:=al6.1 h0;subst this;rfl
 ·rw[HG (WX l).symm hg AI AH (U' l) (Go.Am.L_ s d l)]
  cases l with
  |nil=>simp at h0
  |cons x l=>rfl
theorem Dv {s:St}{d:Nat}{a b a' b':AV}(h1:XC U s d a=some a')(h2:XC U s d b=some b'):XC U s (d+1) (.XU [a,b])=some (.XU [a',b']):=by
 have e:Y' (XC U s d) [a,b]=some [a',b']:=by
  rw[Y',h1,Y',h2,Y']
 rw[XC,e]
theorem aiL (C:List Z5)(Yy:List Int)(now last:Int)(first:Bool)(hC:∀c∈C,c.wf)(hC2:C.length<=2^20)(hs:∀x∈Yy,0<=x/\x<=256)(hlen:Yy.length=(ZJ C).length)(hL2:(ZJ C).length<=2^20)(hn:Qe now)(hl:Qe last)(s:St) :
  UR U 93 (some [.agg [.fz (C.map Zw),.fz ((ZJ C).map Zw),.fz ((ZJ C).map WO)],.fz (ints Yy),Yc now last first]) s =
   some (.XU [.fz (ints (WN now last first (ZJ C) Yy)),ZG true (ZM (outs C (Xu now last first (ZJ C) Yy)))],s):=by
 refine X0 U s ?_;obtain⟨s',v,B,h1,h2,h3⟩:=g93 C Yy now last first hC hC2 hs hlen hL2 hn hl
 obtain⟨fn,c,f1,f2,f3,f4⟩:=Nt k93;have hB:=KV U f1 f2 f3 f4 h1;unfold Yg;rw[hB];have MB:flat (.XU [.sl 12 0 (WN now last first (ZJ C) Yy).length (some (WN now last first (ZJ C) Yy).length) 1,v])=false:=rfl;have e1:=HG (d:=38) (cap:=some (WN now last first (ZJ C) Yy).length) (YK _).symm h2 Ka J' (XR _) (JJ _ _ _);have e2:=h3.L_ 37;have e3:=Dv e1 e2;have hd:Tc=38+1+1:=rfl;simp only[ali,if_false,MB];rw[hd];exact e3
end Go.Am
namespace Go.Am
open Go
variable [Z4]
set_option maxRecDepth 100000
set_option maxHeartbeats 4000000
end Go.Am
namespace Go.Am
open Go
variable [Z4]
set_option maxRecDepth 100000
set_option maxHeartbeats 8000000
def r4:RC:=(sO [Zp 4 39 1,Zc 6] (sQ (sO [K5 10 16,Wh 11 10,om 12 11,KW 13 12 7 4,zp 14 12 21 13 12,TM 15 12 14,Yo 16 12 15,om 17 16,Yp 18 17 2,zp 19 17 22 18 60,TM 20 17 19,Yo 21 17 20] (cT 21 (sO [K5 22 16,om 6 22] .ret))) (sO [om 24 0,Zr 25 7 4,YN 26 24 25,om 27 2,Pa 28 23 24 26 27,om 23 28,Zi 29 23 0,Zi 30 23 1,om 7 29,om 8 30] (sQ (.TP 8 [om 31 0,YN 32 26 31,om 33 0,Zr 34 7 4,o 35 (.call 27 [(.t 33),(.t 34),(vI 1)]),⟨some 36,none,some 5,false,.U3 3 1 2 [(iI 0),(iI 0)] [(0,1,(.t 32)),(1,1,(.t 35))]⟩,YN 37 25 36,om 9 37]) (sQ (sO [om 38 9,VT 39 3 38 0] (cT 39 (oP [om 40 0,om 41 2,YV 42 28 40 41,om 9 42]))) (sQ (sO [om 43 9,Qq 44 3 43 0] (cT 44 (sO [om 45 7,YO 46 45,VT 47 3 46 0,om 48 47,YE 49 48 8,YE 50 48 9,Ja 51 48 3 49 50,Zj 52 48 51,om 6 52] .ret))) (sO [om 53 8,VT 54 26 53 0,om 55 54,YE 56 55 7,Tf 57 55 7 4,YE 58 55 2,WY 59 55 30 57 58,WY 60 55 29 56 59,Zj 61 55 60,om 6 61] .ret)))))))
theorem k4:Ze 4=some ([.tmp 6],r4):=by kernel_rfl
end Go.Am
namespace Go.Am
open Go
variable [Z4]
set_option maxRecDepth 100000
set_option maxHeartbeats 4000000
theorem qU (s:St)(d:Nat)(c:Z5):Yn U s (d+3) (WO c)=some (WO c):=by
 unfold WO
 cases ZF c.kind <;> rfl
theorem qT (s:St)(d:Nat)(l:List Z5):Y' (Yn U s (d+3)) (l.map WO)=some (l.map WO):=UZ fun x hx=>by
 obtain⟨c,_,rfl⟩:=alN.1 hx;exact qU s d c
theorem z93 {args:List AV}{s:St}(h:ZU args=false):X6 U (ZE U 93 args) 93 args s=UR U 93 (Y' (Yn U s 40) args) s:=Ke (by kernel_rfl) s h
theorem ahY (args:List AV)(s:St):X6 U (ZE U 92 args) 92 args s=Rl U 92 args s:=(XI U 92 args s).symm
theorem abd:YC U 234=some false:=by kernel_rfl
theorem abe:size U 234=some 1:=by kernel_rfl
theorem QM {A:Type}{f:A->AV}{l:List A}(h:l≠[]):ZG true (l.map f)=.fz (l.map f):=by
 cases l with
 |nil=>exact absurd rfl h
 |cons x l=>rfl
end Go.Am
namespace Go.Am
open Go
variable [Z4]
theorem Lu (l:List Int)(t:Nat):QS l ((t+1:Nat):Int)=Xg l (t:Int):=by
 unfold QS;congr 1;omega
theorem G1 (l:List Int):QS l ((0:Nat):Int)=Xg l ((0:Nat):Int):=by
 unfold QS;congr 1
theorem aay (n k:Int):(WR n k==true)=(Zy n k==1)/\(WR n k==false)=(Zy n k==0):=by
 unfold WR;rcases Lv n k with h|h <;> rw[h] <;> decide
def w8 (l:List Int)(a Og ma:Int)(t:Nat):Int :=
 bif Zy (Xg l (t:Int)) a==Og then (if runN l a t=0 then ma+1 else min ((t:Int)+1-(runN l a t:Nat)) (ma+1)) else 0
def Vp (lv:Bool):Int:=bif lv then 1 else 0
theorem Fx (lv:Bool)(n k:Int):(WR n k==lv)=(Zy n k==Vp lv):=by
 cases lv
 ·exact (aay n k).2
 ·exact (aay n k).1
theorem ON (l:List Int)(a:Int)(t:Nat):runN l a (t+1)=if Zy (Xg l (t:Int)) a=Zy (Xg l ((t+1:Nat):Int)) a then runN l a t else t+1:=by
 rw[runN];by_cases h:Zy (Xg l (t:Int)) a=Zy (Xg l ((t+1:Nat):Int)) a
 ·rw[if_pos h,h];simp
 ·rw[if_neg h];have:(Zy (Xg l (t:Int)) a==Zy (Xg l ((t+1:Nat):Int)) a)=false:=by simpa using h
  rw[this];rfl
theorem mO (l:List Int)(lv:Bool)(c:Z5)(hM:0<=c.ma)(st:Int):Fw lv c st (WR (Xg l ((0:Nat):Int)) c.a) (WR (QS l ((0:Nat):Int)) c.a) true=(w8 l c.a (Vp lv) c.ma 0,false):=by
 rw[G1];unfold Fw w8;rw[Fx]
 cases Zy (Xg l ((0:Nat):Int)) c.a==Vp lv with
 |true=>simp[runN]
 |false=>simp
theorem mM (l:List Int)(lv:Bool)(c:Z5)(hM:0<=c.ma)(t:Nat):Fw lv c (w8 l c.a (Vp lv) c.ma t) (WR (Xg l ((t+1:Nat):Int)) c.a) (WR (QS l ((t+1:Nat):Int)) c.a) false =
  (w8 l c.a (Vp lv) c.ma (t+1),Tl l c.a (Vp lv) (t+1)&&!outside (((t+1:Nat):Int)-(WI l c.a (Vp lv) (t+1):Nat)) c.mi c.ma):=by
 rw[Lu];unfold Fw;rw[Fx,Fx];have hr:=NN l c.a t;have hz:(((t+1:Nat):Int)==0)=false:=by simp;omega
 unfold Tl WI Lt w8;rw[hz,Nat.add_sub_cancel,amf];have ZC:∀x y:Int,(x != y)=!(x==y):=fun _ _=>rfl
 rw[ZC];by_cases hn:Zy (Xg l ((t+1:Nat):Int)) c.a=Vp lv
 ·by_cases hw:Zy (Xg l (t:Int)) c.a=Vp lv
  ·have D2:runN l c.a (t+1)=runN l c.a t:=by rw[ON,if_pos (hw.trans hn.symm)]
   rw[D2];simp only[hn,hw,beq_self_eq_true,ama,cond_false,cond_true,Bool.true_or,amq]
   congr 1
   by_cases h0:runN l c.a t=0
   ·rw[if_pos h0,if_pos h0];omega
   ·rw[if_neg h0,if_neg h0];omega
  ·have LS:(Zy (Xg l (t:Int)) c.a==Vp lv)=false:=by simpa using hw
   have D2:runN l c.a (t+1)=t+1:=by rw[ON,if_neg (fun e=>hw (e.trans hn))]
   rw[D2];simp only[hn,LS,beq_self_eq_true,ama,amp,cond_false,cond_true,Bool.true_or,amq]
   congr 1
   rw[if_neg (by omega)];omega
 ·have r9:(Zy (Xg l ((t+1:Nat):Int)) c.a==Vp lv)=false:=by simpa using hn
  by_cases hw:Zy (Xg l (t:Int)) c.a=Vp lv
  ·simp only[r9,hw,beq_self_eq_true,ama,amp,cond_false,cond_true,amf,al9]
   congr 1
   unfold outside;by_cases h0:runN l c.a t=0
   ·rw[if_pos h0,h0];rw[amj];simp;omega
   ·rw[if_neg h0];rw[amj];simp;omega
  ·have LS:(Zy (Xg l (t:Int)) c.a==Vp lv)=false:=by simpa using hw
   simp only[r9,LS,amp,cond_true,cond_false,amf,amq]
def rj (l:List Int)(a mi:Int)(t:Nat):Int:=min ((t:Int)+1-(runN l a t:Nat)) (mi+1)
theorem adV (l:List Int)(c:Z5)(hm:0<=c.mi)(st:Int)(w:Bool):MG c st (WR (Xg l ((0:Nat):Int)) c.a) w true=(rj l c.a c.mi 0,(((0:Nat):Int)-(runN l c.a 0:Nat)+1==c.mi)):=by
 unfold MG rj;simp only[Bool.true_or,cond_true,runN]
 congr 1
 ·rw[amj];simp;omega
theorem mQ (n m k:Int):(WR n k != WR m k)=!(Zy m k==Zy n k):=by
 unfold WR;rcases Lv n k with h|h <;> rcases Lv m k with h'|h' <;> rw[h,h'] <;> decide
theorem adW (l:List Int)(c:Z5)(hm:0<=c.mi)(t:Nat):MG c (rj l c.a c.mi t) (WR (Xg l ((t+1:Nat):Int)) c.a) (WR (QS l ((t+1:Nat):Int)) c.a) false=(rj l c.a c.mi (t+1),(((t+1:Nat):Int)-(runN l c.a (t+1):Nat)+1==c.mi)):=by
 rw[Lu];unfold MG;rw[mQ,amf];have hr:=NN l c.a t;unfold rj;rw[ON];by_cases hb:Zy (Xg l (t:Int)) c.a=Zy (Xg l ((t+1:Nat):Int)) c.a
 ·rw[if_pos hb];simp only[hb,beq_self_eq_true,ama,cond_false];refine Prod.ext (by simp only;omega) ?_;simp only;rw[amj];simp;omega
 ·have TQ:(Zy (Xg l (t:Int)) c.a==Zy (Xg l ((t+1:Nat):Int)) c.a)=false:=by simpa using hb
  rw[if_neg hb];simp only[TQ,amp,cond_true];refine Prod.ext (by simp only;omega) ?_;simp only;rw[amj];simp;omega
def o5 (l:List Int)(a:Int)(u:Nat):Prop:=Zy (Xg l (u:Int)) a≠Zy (Xg l ((u-1:Nat):Int)) a
theorem se (l:List Int)(a:Int):∀(n u:Nat) (p:Bool),dI l a u n p=true<->p=true\/∃v,u<=v/\v<u+n/\o5 l a v
 |0,u,p=>by
  rw[dI]
  constructor
  ·exact .inl
  ·rintro (h|⟨v,h1,h2,_⟩)
   ·exact h
   ·omega
 |n+1,u,p=>by
  rw[dI,se l a n (u+1)];have hc:(Zy (Xg l (u:Int)) a != Zy (Xg l ((u-1:Nat):Int)) a)=true<->o5 l a u:=by unfold o5;simp
  rw[amE,hc]
  constructor
  ·rintro ((h|h)|⟨v,h1,h2,h3⟩)
   ·exact .inl h
   ·exact .inr ⟨u,agB _,by omega,h⟩
   ·exact .inr ⟨v,by omega,by omega,h3⟩
  ·rintro (h|⟨v,h1,h2,h3⟩)
   ·exact .inl (.inl h)
   ·by_cases e:v=u
    ·subst e;exact .inl (.inr h3)
    ·exact .inr ⟨v,by omega,by omega,h3⟩
def OO (l:List Int)(a mi:Int):Nat->Int
 |0=>mi
 |t+1=>bif Zy (Xg l (t:Int)) a==Zy (Xg l ((t+1:Nat):Int)) a then min (OO l a mi t+1) mi else 0
theorem yB (l:List Int)(a mi:Int)(hm:0<=mi):∀t,0<=OO l a mi t
 |0=>hm
 |t+1=>by
  have:=yB l a mi hm t;rw[OO]
  cases Zy (Xg l (t:Int)) a==Zy (Xg l ((t+1:Nat):Int)) a <;> simp only[cond_true,cond_false] <;> omega
theorem sa (l:List Int)(a mi:Int)(hm:0<=mi):∀(t:Nat) (k:Int),0<=k->k<=mi->(OO l a mi t<k<->∃v:Nat,1<=v/\(t:Int)-k+1<=v/\v<=t/\o5 l a v)
 |0,k,h0,h1=>by
  rw[OO]
  constructor
  ·intro h;omega
  ·rintro⟨v,h2,h3,h4,_⟩;omega
 |t+1,k,h0,h1=>by
  have hp:=yB l a mi hm t;rw[OO];by_cases hb:Zy (Xg l (t:Int)) a=Zy (Xg l ((t+1:Nat):Int)) a
  ·have xn:(Zy (Xg l (t:Int)) a==Zy (Xg l ((t+1:Nat):Int)) a)=true:=by simpa using hb
   rw[xn,cond_true];by_cases hk:k=0
   ·subst hk
    constructor
    ·intro h;omega
    ·rintro⟨v,h2,h3,h4,_⟩;omega
   ·have ih:=sa l a mi hm t (k-1) (by omega) (by omega)
    constructor
    ·intro h;obtain⟨v,h2,h3,h4,h5⟩:=ih.1 (by omega);exact⟨v,h2,by omega,by omega,h5⟩
    ·rintro⟨v,h2,h3,h4,h5⟩;have:v≠t+1:=fun e=>by
      subst e;unfold o5 at h5;rw[Nat.add_sub_cancel] at h5;exact h5 hb.symm
     have:=ih.2 ⟨v,h2,by omega,by omega,h5⟩;omega
  ·have xn:(Zy (Xg l (t:Int)) a==Zy (Xg l ((t+1:Nat):Int)) a)=false:=by simpa using hb
   rw[xn,cond_false]
   constructor
   ·intro h;refine⟨t+1,by omega,by omega,by omega,?_⟩;unfold o5;rw[Nat.add_sub_cancel];exact fun e=>hb e.symm
   ·rintro⟨v,h2,h3,h4,_⟩;omega
theorem DZ (l:List Int)(a mi:Int)(hm:0<=mi)(t:Nat):dI l a (XO t mi) (t+1-XO t mi) false=decide (OO l a mi t<mi):=by
 rw[amj,se,decide_eq_true_iff,sa l a mi hm t mi hm (by omega)];have hs:1<=XO t mi/\XO t mi<=t+1/\(t:Int)-mi+1<=XO t mi/\((XO t mi:Int)=1\/(XO t mi:Int)=(t:Int)-mi+1):=by unfold XO;omega
 constructor
 ·rintro (h|⟨v,h1,h2,h3⟩)
  ·cases h
  ·exact⟨v,by omega,by omega,by omega,h3⟩
 ·rintro⟨v,h1,h2,h3,h4⟩;exact .inr ⟨v,by omega,by omega,h4⟩
theorem Cm (l:List Int)(b:Int):∀(n u:Nat) (p:Bool),low l b u n p=true<->p=true/\∀v,u<=v->v<u+n->Zy (Xg l (v:Int)) b=0
 |0,u,p=>by
  rw[low];exact⟨fun h=>⟨h,fun v h1 h2=>by omega⟩,fun h=>h.1⟩
 |n+1,u,p=>by
  rw[low]
  cases p with
  |false=>simp
  |true =>
   rw[cond_true,Cm l b n (u+1)]
   constructor
   ·rintro⟨h1,h2⟩;refine⟨rfl,fun v h3 h4=>?_⟩;by_cases e:v=u
    ·subst e;simpa using h1
    ·exact h2 v (by omega) (by omega)
   ·rintro⟨_,h2⟩;exact⟨by simpa using h2 u (agB _) (by omega),fun v h3 h4=>h2 v (by omega) (by omega)⟩
def rl (l:List Int)(a b:Int)(t:Nat):Int :=
 bif Zy (Xg l (t:Int)) a==1 then (bif decide (0<runN l a t)&&low l b (runN l a t) (t+1-runN l a t) true then 2 else 1) else 0
theorem PJ (n k:Int):WR n k=(Zy n k==1):=rfl
theorem PI (n k:Int):(!WR n k)=(Zy n k==0):=by
 unfold WR;rcases Lv n k with h|h <;> rw[h] <;> decide
theorem aa5 (l:List Int)(c:Z5)(hm:0<=c.mi)(hb wb:Bool):QT c c.mi (WR (Xg l ((0:Nat):Int)) c.a) (WR (QS l ((0:Nat):Int)) c.a) hb wb=(OO l c.a c.mi 0,hb&&!wb&&decide (OO l c.a c.mi 0<c.mi)):=by
 rw[G1];unfold QT;rw[mQ];simp only[beq_self_eq_true,ama,cond_false,OO];rw[show min (c.mi+1) c.mi=c.mi by omega]
 all_goals rfl
theorem aa6 (l:List Int)(c:Z5)(hm:0<=c.mi)(t:Nat)(hb wb:Bool):QT c (OO l c.a c.mi t) (WR (Xg l ((t+1:Nat):Int)) c.a) (WR (QS l ((t+1:Nat):Int)) c.a) hb wb=(OO l c.a c.mi (t+1),hb&&!wb&&decide (OO l c.a c.mi (t+1)<c.mi)):=by
 rw[Lu];unfold QT;rw[mQ,OO]
 cases Zy (Xg l (t:Int)) c.a==Zy (Xg l ((t+1:Nat):Int)) c.a <;> rfl
theorem mP (l:List Int)(b:Int)(u t:Nat)(h:u<=t):low l b u (t+1+1-u) true=(low l b u (t+1-u) true&&(Zy (Xg l ((t+1:Nat):Int)) b==0)):=by
 rw[amj,agw,Cm,Cm]
 constructor
 ·rintro⟨_,h2⟩;exact⟨⟨rfl,fun v h3 h4=>h2 v h3 (by omega)⟩,by simpa using h2 (t+1) (by omega) (by omega)⟩
 ·rintro⟨⟨_,h2⟩,h3⟩;refine⟨rfl,fun v h4 h5=>?_⟩;by_cases e:v=t+1
  ·subst e;simpa using h3
  ·exact h2 v h4 (by omega)
theorem adT (l:List Int)(c:Z5):MU 0 (WR (Xg l ((0:Nat):Int)) c.a) (WR (QS l ((0:Nat):Int)) c.a) (WR (Xg l ((0:Nat):Int)) c.b) true=(rl l c.a c.b 0,low l c.b (WI l c.a 1 0) (0-WI l c.a 1 0) (Tl l c.a 1 0)):=by
 have he:Tl l c.a 1 0=false:=by unfold Tl Lt;simp
 rw[G1,he,Qv,PJ];unfold MU rl
 cases Zy (Xg l ((0:Nat):Int)) c.a==1 <;> simp[runN]
theorem adU (l:List Int)(c:Z5)(t:Nat):MU (rl l c.a c.b t) (WR (Xg l ((t+1:Nat):Int)) c.a) (WR (QS l ((t+1:Nat):Int)) c.a) (WR (Xg l ((t+1:Nat):Int)) c.b) false =
  (rl l c.a c.b (t+1),low l c.b (WI l c.a 1 (t+1)) (t+1-WI l c.a 1 (t+1)) (Tl l c.a 1 (t+1))):=by
 have hr:=NN l c.a t;have hz:(((t+1:Nat):Int)==0)=false:=by simp;omega
 have ZC:∀x y:Int,(x != y)=!(x==y):=fun _ _=>rfl
 rw[Lu,PJ,PJ];unfold MU;rw[PI];unfold Tl WI Lt rl;rw[hz,Nat.add_sub_cancel,amf,ZC];by_cases hn:Zy (Xg l ((t+1:Nat):Int)) c.a=1
 ·have aB:(Zy (Xg l ((t+1:Nat):Int)) c.a==1)=true:=by simpa using hn
  rw[aB];simp only[Bool.true_or,cond_true,Qv,ama,cond_false,amp,al9];by_cases hw:Zy (Xg l (t:Int)) c.a=1
  ·have D2:runN l c.a (t+1)=runN l c.a t:=by rw[ON,if_pos (hw.trans hn.symm)]
   have rk:(Zy (Xg l (t:Int)) c.a==1)=true:=by simpa using hw
   rw[D2,rk,mP l c.b _ t hr]
   cases decide (0<runN l c.a t) <;> cases low l c.b (runN l c.a t) (t+1-runN l c.a t) true <;> cases (Zy (Xg l ((t+1:Nat):Int)) c.b==0) <;> rfl
  ·have rk:(Zy (Xg l (t:Int)) c.a==1)=false:=by simpa using hw
   have D2:runN l c.a (t+1)=t+1:=by rw[ON,if_neg (fun e=>hw (e.trans hn))]
   rw[D2,rk,show t+1+1-(t+1)=1 by omega];have h1:low l c.b (t+1) 1 true=(Zy (Xg l ((t+1:Nat):Int)) c.b==0):=rfl;rw[h1];have h2:decide (0<t+1)=true:=decide_eq_true (by omega);rw[h2]
   cases (Zy (Xg l ((t+1:Nat):Int)) c.b==0) <;> rfl
 ·have aB:(Zy (Xg l ((t+1:Nat):Int)) c.a==1)=false:=by simpa using hn
  rw[aB];simp only[amp,cond_true,cond_false,amf];by_cases hw:Zy (Xg l (t:Int)) c.a=1
  ·have rk:(Zy (Xg l (t:Int)) c.a==1)=true:=by simpa using hw
   rw[rk];simp only[ama,cond_false,cond_true,al9]
   cases hd:decide (0<runN l c.a t) with
   |true=>cases hlw:low l c.b (runN l c.a t) (t+1-runN l c.a t) true <;> rfl
   |false=>rw[Qv];rfl
  ·have rk:(Zy (Xg l (t:Int)) c.a==1)=false:=by simpa using hw
   rw[rk];simp only[amp,cond_true,amq,Qv]
def eQ (l:List Int)(c:Z5)(t:Nat):Int:=match ZF c.kind with
 |.Vj=>w8 l c.a 1 c.ma t
 |.gap=>w8 l c.a 0 c.ma t
 |.idle=>rj l c.a c.mi t
 |.setup=>OO l c.a c.mi t
 |.Uf=>rl l c.a c.b t
 |_=>0
def aa7 (l:List Int)(c:Z5):Nat->Int
 |0=>VW c
 |t+1=>eQ l c t
theorem ri (l:List Int)(c:Z5)(hc:c.wf)(Tk:(ZF c.kind).leaf=true)(i:Nat):Vx (Xg l (i:Int)) (QS l (i:Int)) ((i:Int)==0) c (aa7 l c i)=(eQ l c i,atR l i c):=by
 have hs:=hc.A9;have hM:=hs.ma.1;have hm:=hs.mi.1;have hv:∀d,ZF c.kind=d->atR l i c=atR l i (.mk c.kind c.a c.b c.mi c.ma c.pat c.nl c.kids):=fun d _=>by cases c;rfl
 rw[hv _ rfl,atR];unfold Vx eQ
 cases i with
 |zero =>
  have h0:(((0:Nat):Int)==0)=true:=rfl;rw[h0,aa7];unfold VW
  cases hk:ZF c.kind <;> rw[hk] at Tk <;> first|cases Tk|skip
  all_goals simp only[stP]
  case zero.low.refl=>rw[PI]
  case zero.Iz.refl=>rw[PI,PJ]
  case zero.fall.refl=>rw[PI,PJ]
  case zero.Vj.refl =>
   have:=mO l true c hM 0;have he:Tl l c.a 1 0=false:=by unfold Tl Lt;simp
   rw[this,he];rfl
  case zero.gap.refl =>
   have:=mO l false c hM 0;have he:Tl l c.a 0 0=false:=by unfold Tl Lt;simp
   rw[this,he];rfl
  case zero.idle.refl=>exact adV l c hm 0 _
  case zero.setup.refl =>
   rw[aa5 l c hm,DZ l c.a c.mi hm,PI,PJ]
   congr 1
   cases (Zy (Xg l ((0:Nat):Int)) c.b==1) <;> cases (Zy (QS l ((0:Nat):Int)) c.b==0) <;> cases decide (OO l c.a c.mi 0<c.mi) <;> rfl
  case zero.Uf.refl=>exact adT l c
  all_goals rfl
 |succ t =>
  have h0:(((t+1:Nat):Int)==0)=false:=by simp;omega
  rw[h0,aa7];unfold eQ
  cases hk:ZF c.kind <;> rw[hk] at Tk <;> first|cases Tk|skip
  all_goals simp only[stP]
  case succ.low.refl=>rw[PI]
  case succ.Iz.refl=>rw[PI,PJ]
  case succ.fall.refl=>rw[PI,PJ]
  case succ.Vj.refl=>exact mM l true c hM t
  case succ.gap.refl=>exact mM l false c hM t
  case succ.idle.refl=>exact adW l c hm t
  case succ.setup.refl =>
   rw[aa6 l c hm,DZ l c.a c.mi hm,PI,PJ]
   congr 1
   cases (Zy (Xg l ((t+1:Nat):Int)) c.b==1) <;> cases (Zy (QS l ((t+1:Nat):Int)) c.b==0) <;> cases decide (OO l c.a c.mi (t+1)<c.mi) <;> rfl
  case succ.Uf.refl=>exact adU l c t
  all_goals rfl
theorem Px (l:List Z5):(Wj l).length=l.length:=by rw[Sm];simp
theorem qL (lines:Int):∀(c:Z5) (d:Int),Mr lines c.norm d=Mr lines c d:=by
 intro c
 induction c using Z5.ind with
 |h k a b mi ma pat nl kids ih =>
 intro d;have hL:∀l:List Z5,(∀x∈l,x∈kids)->∀d,Pz lines (Wj l) d=Pz lines l d:=by
  intro l
  induction l with
  |nil=>intro _ d;rfl
  |cons c l EJ =>
   intro hm d;rw[Wj,Pz,Pz,ih c (hm c (aba ..)),EJ fun x hx=>hm x (aab _ hx)]
 rw[Z5.norm,Mr,Mr,Px,hL kids fun _ h=>h]
theorem Lq:∀c:Z5,leaves c.norm=leaves c:=by
 intro c
 induction c using Z5.ind with
 |h k a b mi ma pat nl kids ih =>
 have hL:∀l:List Z5,(∀x∈l,x∈kids)->ZS (Wj l)=ZS l:=by
  intro l
  induction l with
  |nil=>intro _;rfl
  |cons c l EJ =>
   intro hm;rw[Wj,ZS,ZS,ih c (hm c (aba ..)),EJ fun x hx=>hm x (aab _ hx)]
 rw[Z5.norm,leaves,leaves,hL kids fun _ h=>h]
theorem wz:∀c:Z5,c.fits->c.norm.fits:=by
 intro c
 induction c using Z5.ind with
 |h k a b mi ma pat nl kids ih =>
 intro h;rw[Z5.fits] at h;rw[Z5.norm,Z5.fits,Px];refine⟨h.1,h.2.1,fun x hx=>?_⟩;rw[Sm] at hx;obtain⟨y,hy,rfl⟩:=alN.1 hx;exact ih y hy (h.2.2 y hy)
end Go.Am
namespace Go.Am
open Go
variable [Z4]
set_option maxRecDepth 100000
set_option maxHeartbeats 4000000
theorem IF:∀{l:List Z5},(∀x∈l,(Ve x).length<=leaves x)->(ZJ l).length<=ZS l
 |[],_=>by simp[ZJ]
 |c::l,h=>by
  rw[ZJ,agy,ZS];have h1:=h c (aba ..);have h2:=IF fun x hx=>h x (aab _ hx)
  omega
theorem F0:∀c:Z5,(Ve c).length<=leaves c:=by
 intro c
 induction c using Z5.ind with
 |h k a b mi ma p nl kids ih =>
 rw[Ve,leaves]
 cases XD k with
 |true=>have:=IF ih;simp only[cond_true];omega
 |false=>simp
end Go.Am
