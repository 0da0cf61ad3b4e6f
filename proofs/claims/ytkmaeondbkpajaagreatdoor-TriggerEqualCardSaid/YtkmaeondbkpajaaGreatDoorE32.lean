/- A part of the proof. -/
import Derived.Test.YtkmaeondbkpajaaGreatDoorE31
set_option linter.all false
set_option maxHeartbeats 8000000
set_option maxRecDepth 100000
namespace Go.Am
open Go
variable [Z8]
variable {L:List Nat}
def wC (A B:Fa)(hB:B.ok)(l:List Int):∀r,(∀i,i<r->WL l i<B.m)->Jy (Zg A B) l r 0 0=Jy A l r 0 0*B.n+Jy B l r 0 0/\Jy B l r 0 0<B.n
 |0,_=>⟨by simp[Jy],by simp[Jy];exact hB.pos⟩
 |r+1,h=>by
  obtain⟨h1,h2⟩:=wC A B hB l r λi hi=>h i J
  rw[Qm,Qm,Qm,ap4,h1];refine⟨?_,hB.lt _ _ h2 (h r J)⟩;show A.nx ((Jy A l r 0 0*B.n+Jy B l r 0 0) / B.n) (WL l r)*B.n+B.nx ((Jy A l r 0 0*B.n+Jy B l r 0 0)%B.n) (WL l r)=_;rw[UW h2,SU h2]
structure yi (a b:Zv)(L:List Nat):Prop where
 pos:0<L.length
 sym:∀z∈L,z<a.fa.m
 last:WH a.fa (Ur L) (L.length-1)≠WH b.fa (Ur L) (L.length-1)
 first:∀(l:List Int),(∀i,i<l.length->WL l i<a.fa.m)->∀i,i<l.length->WH a.fa l i≠WH b.fa l i->L.length-1<=i
def dJ {a b:Zv}(ha:a.ok)(hb:b.ok)(VK:a.lines=b.lines){k x:Nat}(h0:(Jt a b).2=some (k,x)):yi a b (SS (Jt a b)):=by
 have hA:=PX ha hb VK;have anv:=hb.UU;have iX:b.fa.m=a.fa.m:=by show 2^b.lines.toNat=2^a.lines.toNat;rw[VK]
 have hm:(Zg a.fa b.fa).m=a.fa.m:=rfl;have h:=Vn hA (yA a b);obtain⟨_,hx,⟨t,ht,hy⟩,Di,_⟩:=h.stop k x h0;have U5:=xN (A:=Zg a.fa b.fa) (y:=yA a b) ((Zg a.fa b.fa).n+1) 0 (alP _) k x h0;have hbf:fJ (Zg a.fa b.fa) k (Yw (Zg a.fa b.fa) (yA a b)).1:=U5;have hT0:=kR hA (yA a b);have hV:=h.inv;have SI:SS (Jt a b)=Vv (Yw (Zg a.fa b.fa) (yA a b)).1 k k++[x]:=by
  unfold SS;rw[h0];rfl
 have adl:∀(l:List Int) (i:Nat),(∀j,j<i->WL l j<a.fa.m)->yA a b (Jy (Zg a.fa b.fa) l i 0 0) (WL l i)=(WH a.fa l i==WH b.fa l i):=λl i hl=>by
  obtain⟨h1,h2⟩:=wC a.fa b.fa anv l i λj hj=>by rw[iX];exact hl j hj
  unfold yA WH;rw[h1,UW h2,SU h2]
 generalize (Yw (Zg a.fa b.fa) (yA a b)).1=T at *;have Dp:=(apX.1 ht).1;obtain⟨p1,p2,p3⟩:=mh hV hbf (λu hu=>by rw[hT0] at hu;cases hu;rfl) k t ht;generalize hL:SS (Jt a b)=L at *;have hlen:L.length=(Vv T k k).length+1:=by rw[SI];simp
 have dI:∀z∈L,z<a.fa.m:=λz hz=>by
  rw[SI] at hz;rcases aqm.1 hz with hz|hz
  ·exact p2 z hz
  ·rw[apY.1 hz];exact hx
 refine⟨J,dI,?_,λl hl i hi hf=>?_⟩
 ·have DR:(Vv T k k).length<L.length:=J;have e1:L.length-1=(Vv T k k).length:=J;rw[e1];have:=adl (Ur L) (Vv T k k).length λj hj=>by
   rw[NU J];exact dI _ (adm _)
  rw[FK _ L _ J,NU DR] at this;have e:L.take (Vv T k k).length=Vv T k k:=by rw[SI,List.take_left'];rfl
  have e2:L[(Vv T k k).length]=x:=by simp[SI]
  rw[e,e2,p1,hy] at this;intro he;rw[he] at this;simp at this
 ·have key:∀r,r<=l.length->(∃(j:Nat) (u:Yb),j<k/\T[j]? = some u/\u.1=Jy (Zg a.fa b.fa) l r 0 0/\dpT T j<=r)\/dpT T k<=r:=by
   intro r
   induction r with
   |zero =>
    intro _;by_cases Jz:k=0
    ·subst Jz;exact .inr (api _)
    ·exact .inl ⟨0,_,J,hT0,rfl,api _⟩
   |succ r ih =>
    intro hr;rcases ih J with⟨j,u,hj,hu,e,hd⟩|hd
    ·obtain⟨q,v,hq,e2,hp⟩:=hbf.cov j hj u hu (WL l r) (hl r J);have hql:=(apX.1 hq).1;have est:v.1=Jy (Zg a.fa b.fa) l (r+1) 0 0:=by rw[e2,Qm,ap4,e]
     have hdq:dpT T q<=r+1:=by
      cases q with
      |zero=>exact apW _
      |succ q =>
       unfold dpT;rw[MP hV hq,ann];have:=xM hV hbf j v.2.1 hp J;unfold dpT at this hd;simp only[aqh];omega
     by_cases hqk:q<k
     ·exact .inl ⟨q,v,hqk,hq,est,hdq⟩
     ·have:=xM hV hbf q k J hql;exact .inr J
    ·exact .inr J
  rcases key i J with⟨j,u,hj,hu,e,_⟩|hd
  ·have:=Di j u (apW _) hj hu (WL l i) (hl i hi);rw[e,adl l i λj hj=>hl j J] at this;exact absurd (by simpa using this) hf
  ·unfold dpT at hd;omega
def mF (A B:Fa):Fa where
 n:=A.n+B.n
 m:=A.m
 nx s x:=if s<A.n then A.nx s x else A.n+B.nx (s-A.n) x
 fr s x:=if s<A.n then A.fr s x else B.fr (s-A.n) x
def aec {A B:Fa}(hA:A.ok)(hB:B.ok)(hm:B.m=A.m):(mF A B).ok:=by
 refine⟨?_,λs x hs hx=>?_⟩
 ·have:=hA.pos;show 0<A.n+B.n;omega
 ·show (if s<A.n then A.nx s x else A.n+B.nx (s-A.n) x)<A.n+B.n;have hs:s<A.n+B.n:=hs;have hx:x<A.m:=hx
  split
  ·have:=hA.lt s x ‹_› hx;omega
  ·have:=hB.lt (s-A.n) x J J;omega
def ac5 {A B:Fa}(hA:A.ok):∀(w:List Nat) (s:Nat),s<A.n->(∀z∈w,z<A.m)->w.foldl (mF A B).nx s=w.foldl A.nx s/\w.foldl A.nx s<A.n
 |[],s,hs,_=>⟨rfl,hs⟩
 |z::w,s,hs,hz=>by
  have e:(mF A B).nx s z=A.nx s z:=Of hs;rw[List.foldl_cons,List.foldl_cons,e];exact ac5 hA w _ (hA.lt s z hs (hz z (aba ..))) λy hy=>hz y (aab _ hy)
def ac6 {A B:Fa}(hB:B.ok)(hm:B.m=A.m):∀(w:List Nat) (s:Nat),s<B.n->(∀z∈w,z<A.m)->w.foldl (mF A B).nx (A.n+s)=A.n+w.foldl B.nx s/\w.foldl B.nx s<B.n
 |[],s,hs,_=>⟨rfl,hs⟩
 |z::w,s,hs,hz=>by
  have e:(mF A B).nx (A.n+s) z=A.n+B.nx s z:=by
   show (if A.n+s<A.n then _ else A.n+B.nx (A.n+s-A.n) z)=_;rw[O3 J,Nat.add_sub_cancel_left]
  rw[List.foldl_cons,List.foldl_cons,e];exact ac6 hB hm w _ (hB.lt s z hs (by rw[hm];exact hz z (aba ..))) λy hy=>hz y (aab _ hy)
def FL {A:Fa}:∀(r:Nat) (f:Nat->Nat) (u v:Nat),(∀(w:List Nat) (x:Nat),w.length<r->(∀z∈w,z<A.m)->x<A.m->A.fr (w.foldl A.nx u) x=A.fr (w.foldl A.nx v) x)->(∀w:List Nat,w.length<=r->(∀z∈w,z<A.m)->f (w.foldl A.nx u)=f (w.foldl A.nx v))->Mr A r f u=Mr A r f v
 |0,f,u,v,_,h2=>h2 [] (api _) λz hz=>by cases hz
 |r+1,f,u,v,h1,h2=>by
  rw[Mr]
  cases NW (SV A f) f A.n with
  |true=>exact h2 [] (apW _) λz hz=>by cases hz
  |false =>
   refine FL r (SV A f) u v (λw x hw=>h1 w x J) λw hw hz=>(PZ A f _ _).2 λx hx=>⟨h1 w x J hz hx,?_⟩
   have:=h2 (w++[x]) F_ λz uJ=>by
    rcases aqm.1 uJ with h|h
    ·exact hz z h
    ·rw[apY.1 h];exact hx
   rw[List.foldl_append,List.foldl_append] at this;exact this
def mE {A:Fa}(hA:A.ok){u v:Nat}(hu:u<A.n)(hv:v<A.n)(h:∀(w:List Nat) (x:Nat),w.length<A.n->(∀z∈w,z<A.m)->x<A.m->A.fr (w.foldl A.nx u) x=A.fr (w.foldl A.nx v) x):∃B,Bis A B/\B u v:=by
 have h0:0<PY (λ_=>0) A.n:=by
  have:∀k,0<k->0<PY (λ_=>0) k:=by
   intro k hk
   induction k with
   |zero=>omega
   |succ k ih =>
    rw[PY];by_cases e:k=0
    ·subst e;decide
    ·have:=ih J;omega
  exact this _ hA.pos
 have st:=NV A A.n (λ_=>0) ⟨λ_=>apW _,λ_=>rfl⟩ (λ_ _ _=>rfl) J;have ny:=FL A.n (λ_=>0) u v h λ_ _ _=>rfl
 generalize Mr A A.n (λ_=>0)=g at *;have hE:∀p q,p<A.n->q<A.n->g p=g q->A.E g p q:=λp q hp hq e=>(PZ A g p q).1 (by rw[st p hp,st q hq];exact e)
 exact⟨λp q=>p<A.n/\q<A.n/\g p=g q,⟨λp q k=>⟨k.1,k.2.1⟩,λp q k x hx=>(hE p q k.1 k.2.1 k.2.2 x hx).1,λp q k x hx=>⟨hA.lt p x k.1 hx,hA.lt q x k.2.1 hx,(hE p q k.1 k.2.1 k.2.2 x hx).2⟩⟩,hu,hv,ny⟩
def MX (A:Fa)(w:List Nat)(x:Nat)(R:List Nat):WH A (Ur (w++x::R)) w.length=A.fr (w.foldl A.nx 0) x:=by
 unfold WH;rw[FK A (w++x::R) _ No,NU No];simp
def Cp {m:Nat}(h:∀z∈L,z<m):∀i,i<(Ur L).length->WL (Ur L) i<m:=λi hi=>by
 rw[VG] at hi;rw[NU hi];exact h _ (adm hi)
def yi.short {a b:Zv}(ha:a.ok)(hb:b.ok)(VK:a.lines=b.lines)(h:yi a b L):L.length<=a.fa.n+b.fa.n:=by
 refine Classical.byContradiction λYA=>?_
 have hA:=ha.UU;have hB:=hb.UU;have iX:b.fa.m=a.fa.m:=by show 2^b.lines.toNat=2^a.lines.toNat;rw[VK]
 have hU:=aec hA hB iX;have hn:(mF a.fa b.fa).n=a.fa.n+b.fa.n:=rfl;have hm:(mF a.fa b.fa).m=a.fa.m:=rfl;have eq:∀(w:List Nat) (x:Nat),(∀z∈w,z<a.fa.m)->((mF a.fa b.fa).fr (w.foldl (mF a.fa b.fa).nx 0) x=a.fa.fr (w.foldl a.fa.nx 0) x)/\((mF a.fa b.fa).fr (w.foldl (mF a.fa b.fa).nx (a.fa.n+0)) x=b.fa.fr (w.foldl b.fa.nx 0) x):=λw x hz=>by
  obtain⟨l1,l2⟩:=ac5 (B:=b.fa) hA w 0 hA.pos hz;obtain⟨r1,r2⟩:=ac6 (A:=a.fa) hB iX w 0 hB.pos hz;rw[l1,r1];refine⟨Of l2,?_⟩;show (if a.fa.n+w.foldl b.fa.nx 0<a.fa.n then _ else b.fa.fr (a.fa.n+w.foldl b.fa.nx 0-a.fa.n) x)=_;rw[O3 J,Nat.add_sub_cancel_left]
 obtain⟨B,ahi,hB0⟩:=mE hU (u:=0) (v:=a.fa.n+0) (by have:=hA.pos;omega) (by have:=hB.pos;omega) λw x hw hz hx=>by
  rw[(eq w x hz).1,(eq w x hz).2];refine Classical.byContradiction λZB=>?_
  have:=h.first (Ur (w++[x])) (Cp λz uJ=>by
   rcases aqm.1 uJ with q|q
   ·exact hz z q
   ·rw[apY.1 q];exact hx) w.length (by rw[VG];simp) (by rw[MX,MX];exact ZB)
  omega
 have Xx:∀(w:List Nat) (u v:Nat),B u v->(∀z∈w,z<a.fa.m)->B (w.foldl (mF a.fa b.fa).nx u) (w.foldl (mF a.fa b.fa).nx v):=by
  intro w
  induction w with
  |nil=>intro u v h _;exact h
  |cons z w ih=>intro u v h hz;exact ih _ _ (ahi.nx u v h z (hz z (aba ..))) λy hy=>hz y (aab _ hy)
 have hp:=h.pos;have aed:L=L.take (L.length-1)++L[L.length-1]::[]:=by
  have:=List.take_append_drop (L.length-1) L;rw[aea J,aqV J] at this;exact this.symm
 have htl:(L.take (L.length-1)).length=L.length-1:=by rw[aqO];omega
 have hz:∀z∈L.take (L.length-1),z<a.fa.m:=λz hz=>h.sym z (List.mem_of_mem_take hz)
 have hl:=h.last;have f1:=MX a.fa (L.take (L.length-1)) L[L.length-1] [];have f2:=MX b.fa (L.take (L.length-1)) L[L.length-1] [];rw[<-aed,htl] at f1 f2;rw[f1,f2] at hl;have:=ahi.fr _ _ (Xx _ _ _ hB0 hz) L[L.length-1] (h.sym _ (adm _));rw[(eq _ _ hz).1,(eq _ _ hz).2] at this;exact hl this
def mD {b:Zv}(hb:b.ok)(hbm:ZS b=b){i:Nat}(hi:i<b.fa.n):∃w,wrd b.fa w i:=by
 obtain⟨fin,h⟩:=adR hb;have iW:=h.n;rw[hbm] at iW;have QD:i<fin.length:=by rw[<-iW];exact hi
 obtain⟨w,s,hw,hs⟩:=h.rch fin[i] (adm QD);have HY:=fX hb.UU hw;have key:i=s:=by
  refine aaT hb (B:=λi s=>Ji b fin s i) ⟨?_,?_,?_⟩ ⟨HY,QD,hs.symm⟩
  ·rintro u v ⟨k1,k2,_⟩;rw[hbm];exact⟨by rw[iW];exact k2,k1⟩
  ·intro u v k x hx;have:=(h.nj hb k hx).1;rw[hbm] at this ⊢;exact this
  ·intro u v k x hx;have:=(h.nj hb k hx).2;rw[hbm] at this ⊢;exact this
 rw[key];exact⟨w,hw⟩
def fW {a b:Zv}(ha:a.ok)(hb:b.ok)(VK:a.lines=b.lines)(Jx:ZS a=a)(hmb:ZS b=b)(h0:(Jt a b).2=none):a=b:=by
 have hA:=PX ha hb VK;have hV:=Vn hA (yA a b);have K':=hV.go h0;have iX:b.fa.m=a.fa.m:=by show 2^b.lines.toNat=2^a.lines.toNat;rw[VK]
 have fV:=hb.UU;have hpn:(Zg a.fa b.fa).n=a.fa.n*b.fa.n:=rfl;obtain⟨V,hVd⟩:∃V:Nat->Nat->Prop,V=λi u=>∃t∈(Jt a b).1,t.1 / b.fa.n=u/\t.1%b.fa.n=i:=⟨_,rfl⟩
 have V0:V 0 0:=by
  obtain⟨R,hR⟩:=hV.pre;rw[hVd];refine⟨(0,0,0),?_,Nat.zero_div _,Nat.zero_mod _⟩;show (0,0,0)∈(Yw _ _).1;rw[hR];simp
 have Vlt:∀i u,V i u->u<a.fa.n/\i<b.fa.n:=λi u h=>by
  rw[hVd] at h;obtain⟨t,ht,rfl,rfl⟩:=h;have:=hV.inv.lt t ht;rw[hpn] at this;exact⟨Nat.div_lt_of_lt_mul (by rw[Nat.mul_comm];exact this),Nat.mod_lt _ fV.pos⟩
 have Vfr:∀i u,V i u->∀x,x<a.fa.m->a.fa.fr u x=b.fa.fr i x:=λi u h x hx=>by
  rw[hVd] at h;obtain⟨t,ht,rfl,rfl⟩:=h;obtain⟨k,hk⟩:=List.getElem?_of_mem ht;have:=(K' k t (apW _) hk x hx).1;unfold yA at this
  simpa using this
 have Vnx:∀i u,V i u->∀x,x<a.fa.m->V (b.fa.nx i x) (a.fa.nx u x):=λi u h x hx=>by
  rw[hVd] at h ⊢;obtain⟨t,ht,rfl,rfl⟩:=h;obtain⟨k,hk⟩:=List.getElem?_of_mem ht;obtain⟨t',qn,e⟩:=ap0.1 (K' k t (apW _) hk x hx).2;have e:t'.1=a.fa.nx (t.1 / b.fa.n) x*b.fa.n+b.fa.nx (t.1%b.fa.n) x:=e;have hl:=fV.lt (t.1%b.fa.n) x (Nat.mod_lt _ fV.pos) (by rw[iX];exact hx);exact⟨t',qn,by rw[e,UW hl],by rw[e,SU hl]⟩
 have Veq:∀i u u',V i u->V i u'->Zb a.fa u=Zb a.fa u':=λi u u' h h'=>by
  refine On (A:=a.fa) (B:=λu u'=>∃i,V i u/\V i u') ⟨?_,?_,?_⟩ u u' ⟨i,h,h'⟩
  ·rintro u v ⟨i,h1,h2⟩;exact⟨(Vlt _ _ h1).1,(Vlt _ _ h2).1⟩
  ·rintro u v ⟨i,h1,h2⟩ x hx;rw[Vfr _ _ h1 x hx,Vfr _ _ h2 x hx]
  ·rintro u v ⟨i,h1,h2⟩ x hx;exact⟨_,Vnx _ _ h1 x hx,Vnx _ _ h2 x hx⟩
 have ahj:∀i,i<b.fa.n->∃u,V i u:=λi hi=>by
  obtain⟨w,hz,hw⟩:=mD hb hmb hi;have:∀(w:List Nat) (i u:Nat),V i u->(∀z∈w,z<a.fa.m)->V (w.foldl b.fa.nx i) (w.foldl a.fa.nx u):=by
   intro w
   induction w with
   |nil=>intro i u h _;exact h
   |cons z w ih=>intro i u h hz;exact ih _ _ (Vnx i u h z (hz z (aba ..))) λy hy=>hz y (aab _ hy)
  have:=this w 0 0 V0 λz uJ=>by rw[<-iX];exact hz z uJ
  rw[hw] at this;exact⟨_,this⟩
 have hch:∃ψ:Nat->Nat,∀i,i<b.fa.n->V i (ψ i):=by
  refine⟨λi=>if h:i<b.fa.n then Classical.choose (ahj i h) else 0,λi hi=>?_⟩;simp only[dif_pos hi];exact Classical.choose_spec (ahj i hi)
 obtain⟨ψ,hψ⟩:=hch;have:=IZ ha hb VK.symm (ψ:=ψ) (Veq 0 _ _ (hψ 0 fV.pos) V0) (λi hi=>(Vlt _ _ (hψ i hi)).1) (λi x hi hx=>Veq (b.fa.nx i x) _ _ (hψ _ (fV.lt i x hi (by rw[iX];exact hx))) (Vnx _ _ (hψ i hi) x hx)) λi x hi hx=>(Vfr _ _ (hψ i hi) x hx).symm
 rw[Jx,hmb] at this;exact this.symm
def Co {a:Zv}(ha:a.ok)(Jx:ZS a=a):(Jt a a).2=none:=by
 obtain⟨fin,h⟩:=yT ha;have:=fU ha h;rw[Jx] at this;exact this
def dO (a b:Zv):Nat->Nat->Bool
 |0,_=>true
 |r+1,i=>SN (a.next.getD i (true,[])).2 (b.next.getD i (true,[])).2&&dO a b r (i+1)
def kY (l k:List Bool):Nat->Nat->Bool
 |0,_=>true
 |r+1,x=>(l.getD x false==k.getD x false)&&kY l k r (x+1)
def kX (a b:Zv):Nat->Nat->Bool
 |0,_=>true
 |r+1,i=>kY (a.ZW.getD i (true,[])).2 (b.ZW.getD i (true,[])).2 (2^a.lines.toNat) 0&&kX a b r (i+1)
def rU (a b:Zv):Bool:=bif ((a.next.length:Int) != b.next.length) then false else dO a b a.next.length 0&&kX a b a.next.length 0
def kV (x y:Bool):Xj U .neq 4 false (.bool x) (.bool y)=some (.bool (!(x==y))):=by cases x <;> cases y <;> kernel_rfl
def ai8 {a b:Zv}(ha:a.ok)(hb:b.ok)(VK:a.lines=b.lines):ZE U 29 [XW a,XW b]=some (.bool (rU a b)):=by
 refine ZP k60 It (by simp[ZT,XC]) ?_;have apH:2^a.lines.toNat<=65536:=by have:=Rj a.lines (by have:=ha.lines;omega);have:=M6 a.lines;unfold zk at this;omega
 have Pm:=ha.few;rw[YH,YH];have nn:=ZV a.Xb (a.next.map ZF);have nf:=ZV a.WG (a.ZW.map ZM);have cn:=ZK a.Xb (a.next.map ZF);have cf:=ZK a.WG (a.ZW.map ZM);have ln:=ZN a.Xb (a.next.map ZF);have lf:=ZN a.WG (a.ZW.map ZM);have nn':=ZV b.Xb (b.next.map ZF);have nf':=ZV b.WG (b.ZW.map ZM);have cn':=ZK b.Xb (b.next.map ZF);have cf':=ZK b.WG (b.ZW.map ZM);have ln':=ZN b.Xb (b.next.map ZF);have lf':=ZN b.WG (b.ZW.map ZM);rw[ala] at ln lf ln' lf';have b1:((b.lines:Int) != b.lines)=false:=by simp
 unfold VI XD rU
 cases h2:((a.next.length:Int) != b.next.length) with
 |true =>
  simp only[go_sem,r60,ln,ln',VK,b1,h2]
 |false =>
 have h2':a.next.length=b.next.length:=by simp at h2;omega
 have h4:a.ZW.length=b.ZW.length:=by rw[ha.fl,hb.fl,h2']
 have b3:((a.ZW.length:Int) != b.ZW.length)=false:=by simp[h4]
 rw[cond_false];simp only[go_sem,r60,ln,lf,ln',lf',VK,b1,h2,b3];refine Yk (σ:=Nat) (λi=>a.next.length-i) (λi=>some (.bool (dO a b (a.next.length-i) i&&kX a b a.next.length 0))) (λi e s=>i<=a.next.length/\e.get 2=.ptr 8 0/\e.get 3=.ptr 9 0/\e.get 5=.int .i64 (i:Nat)/\9<s.next /\
  s.get 8=some (.cells [.int .i64 b.lines,ZU a.Xb (a.next.map ZF),ZU a.WG (a.ZW.map ZM)] 46 false 0 0)/\s.get 9=some (.cells [.int .i64 b.lines,ZU b.Xb (b.next.map ZF),ZU b.WG (b.ZW.map ZM)] 46 false 0 0)) 0 ?_ rfl ?_
 ·rintro L i e s ⟨hi,g2,g3,g5,nx,gs,EG⟩ IH;by_cases hd:i<a.next.length
  ·have hw:=ZI hd J;have Qr:i<b.next.length:=J;have r1:=Ul (nl:=a.Xb) hd;have r2:=Ul (nl:=b.Xb) Qr;have h109:=aik a.next[i].1 b.next[i].1 a.next[i].2 b.next[i].2 (by have:=(ha.row i hd).1;omega);have e:dO a b (a.next.length-i) i=(SN a.next[i].2 b.next[i].2&&dO a b (a.next.length-(i+1)) (i+1)):=by
    have e0:a.next.length-i=(a.next.length-(i+1))+1:=J;rw[e0,dO,Y' hd,Y' Qr]
   rw[e]
   cases hsm:SN a.next[i].2 b.next[i].2 with
   |false =>
    rw[hsm] at h109;simp only[go_sem,Ar,g2,g3,g5,gs,EG,Z9,hd,ln,r1,r2,h109,aqK]
   |true =>
    rw[hsm] at h109;simp only[go_sem,Ar,g2,g3,g5,gs,EG,Z9,hd,ln,r1,r2,h109,hw,aqr];refine IH (i+1) _ _ J ⟨J,?_,?_,?_,O0,by rw[ZR,gs],by rw[ZR,EG]⟩
    all_goals simp only[go_sem,g2,g3]
  ·have G5:i=a.next.length:=J;subst G5;rw[Nat.sub_self,dO,aqr];simp only[go_sem,Ar,g2,g5,gs,Z9,ap5,ln];have Mw:=ha.fl;refine Yk (σ:=Nat) (λi=>a.ZW.length-i) (λi=>some (.bool (kX a b (a.ZW.length-i) i))) (λi e s=>i<=a.ZW.length/\e.get 2=.ptr 8 0/\e.get 3=.ptr 9 0/\e.get 6=.int .i64 (i:Nat)/\9<s.next /\
    s.get 8=some (.cells [.int .i64 b.lines,ZU a.Xb (a.next.map ZF),ZU a.WG (a.ZW.map ZM)] 46 false 0 0)/\s.get 9=some (.cells [.int .i64 b.lines,ZU b.Xb (b.next.map ZF),ZU b.WG (b.ZW.map ZM)] 46 false 0 0)) 0 ?_ (by rw[Nat.sub_zero,ha.fl]) ?_
   ·clear g2 g3 g5 nx gs EG IH;rintro L i e s ⟨hi,g2,g3,g6,nx,gs,EG⟩ IH;by_cases hd:i<a.ZW.length
    ·have hw:=ZI hd J;have Qr:i<b.ZW.length:=J;have r1:=Uj (nl:=a.WG) hd;have r2:=Uj (nl:=b.WG) Qr;have l1:=ZN a.ZW[i].1 (Zt a.ZW[i].2);have l2:=ZN b.ZW[i].1 (Zt b.ZW[i].2);have w1:=ha.Wh i hd;have w2:=hb.Wh i Qr;rw[<-VK] at w2;have e:kX a b (a.ZW.length-i) i=(kY a.ZW[i].2 b.ZW[i].2 (2^a.lines.toNat) 0&&kX a b (a.ZW.length-(i+1)) (i+1)):=by
      have e0:a.ZW.length-i=(a.ZW.length-(i+1))+1:=J;rw[e0,kX,Y' hd,Y' Qr]
     rw[e];rw[WE,w1] at l1;rw[WE,w2] at l2;generalize hW:2^a.lines.toNat=W at *;have b4:((W:Int) != W)=false:=by simp
     simp only[go_sem,tu,g2,g3,g6,gs,EG,Z9,hd,lf,r1,r2,l1,l2,b4];refine Yk (σ:=Nat) (λx=>W-x) (λx=>some (.bool (kY a.ZW[i].2 b.ZW[i].2 (W-x) x&&kX a b (a.ZW.length-(i+1)) (i+1)))) (λx e s=>x<=W/\e.get 2=.ptr 8 0/\e.get 3=.ptr 9 0/\e.get 6=.int .i64 (i:Nat)/\e.get 7=.int .i64 (x:Nat)/\9<s.next /\
      s.get 8=some (.cells [.int .i64 b.lines,ZU a.Xb (a.next.map ZF),ZU a.WG (a.ZW.map ZM)] 46 false 0 0)/\s.get 9=some (.cells [.int .i64 b.lines,ZU b.Xb (b.next.map ZF),ZU b.WG (b.ZW.map ZM)] 46 false 0 0)) 0 ?_ rfl ?_
     ·clear g2 g3 g6 nx gs EG;rintro L' x e s ⟨hx,g2,g3,g6,g7,nx,gs,EG⟩ IH';by_cases mL:x<W
      ·have LO:=ZI mL J;have x1:x<a.ZW[i].2.length:=J;have x2:x<b.ZW[i].2.length:=J;have q1:=MT (nl:=a.ZW[i].1) x1;have q2:=MT (nl:=b.ZW[i].1) x2;have q3:=kV a.ZW[i].2[x] b.ZW[i].2[x];have e:kY a.ZW[i].2 b.ZW[i].2 (W-x) x=((a.ZW[i].2[x]==b.ZW[i].2[x])&&kY a.ZW[i].2 b.ZW[i].2 (W-(x+1)) (x+1)):=by
        have e0:W-x=(W-(x+1))+1:=J;rw[e0,kY,Y' x1,Y' x2]
       rw[e]
       cases hsm:(a.ZW[i].2[x]==b.ZW[i].2[x]) with
       |false =>
        rw[hsm] at q3;simp only[go_sem,Aq,g2,g3,g6,g7,gs,EG,Z9,mL,r1,r2,l1,q1,q2,q3,aqF,aqK]
       |true =>
        rw[hsm] at q3;simp only[go_sem,Aq,g2,g3,g6,g7,gs,EG,Z9,mL,r1,r2,l1,q1,q2,q3,LO,aqB,aqr];refine IH' (x+1) _ _ J ⟨J,?_,?_,?_,?_,O0,by rw[ZR,gs],by rw[ZR,EG]⟩
        all_goals simp only[go_sem,g2,g3,g6]
      ·have hxe:x=W:=J;subst hxe;rw[Nat.sub_self,kY,aqr];simp only[go_sem,Aq,g2,g6,g7,gs,Z9,ap5,r1,l1,hw];refine IH (i+1) _ _ J ⟨J,?_,?_,?_,nx,gs,EG⟩
       all_goals simp only[go_sem,g2,g3]
     ·refine⟨apW _,?_,?_,?_,?_,O0,by simp only[ZR,gs],by simp only[ZR,EG]⟩
      all_goals simp only[go_sem,g2,g3,g6]
      all_goals rfl
    ·have G5:i=a.ZW.length:=J;subst G5;rw[Nat.sub_self,kX];simp only[go_sem,tu,g2,g6,gs,Z9,ap5,lf]
   ·refine⟨apW _,?_,?_,?_,nx,gs,EG⟩
    all_goals simp only[go_sem,g2,g3]
    all_goals rfl
 ·refine⟨apW _,?_,?_,?_,?_,?_,?_⟩
  all_goals try simp only[go_sem]
  all_goals rfl
def wH (a:Zv):∀r i:Nat,dO a a r i=true
 |0,_=>rfl
 |r+1,i=>by rw[dO,Ri,wH a r (i+1)];rfl
def wG (l:List Bool):∀r x:Nat,kY l l r x=true
 |0,_=>rfl
 |r+1,x=>by rw[kY,wG l r (x+1)];simp
def wF (a:Zv):∀r i:Nat,kX a a r i=true
 |0,_=>rfl
 |r+1,i=>by rw[kX,wG,wF a r (i+1)];rfl
def kU (a:Zv):rU a a=true:=by
 have h:((a.next.length:Int) != a.next.length)=false:=by simp
 unfold rU;rw[h,cond_false,wH,wF];rfl
def wE:∀{a b:List Int},SN a b=true->a=b
 |[],[],_=>rfl
 |[],_::_,h=>by simp[SN] at h
 |_::_,[],h=>by simp[SN] at h
 |x::a,y::b,h=>by
  rw[SN] at h
  cases e:x != y with
  |true=>rw[e] at h;cases h
  |false =>
   rw[e,cond_false] at h;have:x=y:=by simpa using e
   rw[this,wE h]
def dN {a b:Zv}:∀(r i:Nat),dO a b r i=true->∀j,i<=j->j<i+r->(a.next.getD j (true,[])).2=(b.next.getD j (true,[])).2
 |0,i,_,j,h1,h2=>J
 |r+1,i,h,j,h1,h2=>by
  rw[dO,ahe] at h;by_cases e:j=i
  ·subst e;exact wE h.1
  ·exact dN r (i+1) h.2 j J J
def dM {l k:List Bool}:∀(r x:Nat),kY l k r x=true->∀j,x<=j->j<x+r->l.getD j false=k.getD j false
 |0,x,_,j,h1,h2=>J
 |r+1,x,h,j,h1,h2=>by
  rw[kY,ahe] at h;by_cases e:j=x
  ·subst e;simpa using h.1
  ·exact dM r (x+1) h.2 j J J
def dL {a b:Zv}:∀(r i:Nat),kX a b r i=true->∀j,i<=j->j<i+r->kY (a.ZW.getD j (true,[])).2 (b.ZW.getD j (true,[])).2 (2^a.lines.toNat) 0=true
 |0,i,_,j,h1,h2=>J
 |r+1,i,h,j,h1,h2=>by
  rw[kX,ahe] at h;by_cases e:j=i
  ·subst e;exact h.1
  ·exact dL r (i+1) h.2 j J J
def abv {a b:Zv}(ha:a.ok)(hb:b.ok)(VK:a.lines=b.lines)(Jx:ZS a=a)(hmb:ZS b=b)(h:rU a b=true):a=b:=by
 unfold rU at h
 cases h2:((a.next.length:Int) != b.next.length) with
 |true=>rw[h2] at h;cases h
 |false =>
  rw[h2,cond_false,ahe] at h;have h2':a.next.length=b.next.length:=by simp at h2;omega
  have hn:∀i (h:i<a.next.length) (h':i<b.next.length),a.next[i].2=b.next[i].2:=λi k k'=>by
   have:=dN _ _ h.1 i (apW _) J
   rwa [Y' k,Y' k'] at this
  have hf:∀i (h:i<a.ZW.length) (h':i<b.ZW.length),a.ZW[i].2=b.ZW[i].2:=λi k k'=>by
   have hia:i<a.next.length:=by rw[<-ha.fl];exact k
   have:=dL _ _ h.2 i (apW _) J;rw[Y' k,Y' k'] at this;have w1:=ha.Wh i k;have w2:=hb.Wh i k';rw[<-VK] at w2;refine List.ext_getElem J λx q q'=>?_
   have:=dM _ _ this x (apW _) J
   rwa [Y' q,Y' q'] at this
  have fa:∀{c:Zv},ZS c=c->c.Xb=true/\c.WG=true/\(∀r∈c.next,r.1=false)/\∀r∈c.ZW,r.1=false:=λ{c} hc=>by
   rw[<-hc];refine⟨rfl,rfl,λr hr=>?_,λr hr=>?_⟩
   ·obtain⟨x,_,rfl⟩:=ap0.1 hr;rfl
   ·obtain⟨x,_,rfl⟩:=ap0.1 hr;rfl
  obtain⟨a1,a2,a3,a4⟩:=fa Jx;obtain⟨b1,b2,b3,b4⟩:=fa hmb;have e1:a.next=b.next:=List.ext_getElem h2' λi k k'=>Prod.ext (by rw[a3 _ (adm k),b3 _ (adm k')]) (hn i k k')
  have e2:a.ZW=b.ZW:=List.ext_getElem (by rw[ha.fl,hb.fl,h2']) λi k k'=>Prod.ext (by rw[a4 _ (adm k),b4 _ (adm k')]) (hf i k k')
  cases a;cases b
  simp only at VK a1 a2 b1 b2 e1 e2;subst VK a1 a2 b1 b2 e1 e2;rfl
end Go.Am
