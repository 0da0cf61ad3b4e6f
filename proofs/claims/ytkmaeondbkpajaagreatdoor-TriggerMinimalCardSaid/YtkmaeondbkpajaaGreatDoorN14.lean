/- A part of the proof of a statement of this seat: the machine on which the program is read, and what it computes; for every input. -/
import Derived.Test.YtkmaeondbkpajaaGreatDoorN06
import Derived.Test.YtkmaeondbkpajaaGreatDoorN12
import Derived.Test.YtkmaeondbkpajaaGreatDoorN13
set_option linter.all false
namespace Go.Am
open Go
def Zn (A B:Fa):Fa where
 n:=A.n*B.n
 m:=A.m
 nx c x:=A.nx (c / B.n) x*B.n+B.nx (c%B.n) x
 fr c x:=A.fr (c / B.n) x
theorem AE {a b n k:Nat}(ha:a<n)(hb:b<k):a*k+b<n*k:=by
 have:(a+1)*k<=n*k:=Nat.mul_le_mul_right k ha;rw[Nat.succ_mul] at this;omega
theorem Rr {a b k:Nat}(hb:b<k):(a*k+b) / k=a:=by
 rw[Nat.mul_comm,Nat.mul_add_div (by omega),Nat.div_eq_of_lt hb,afD]
theorem OG {a b k:Nat}(hb:b<k):(a*k+b)%k=b:=by
 rw[Nat.mul_comm,Nat.mul_add_mod,Nat.mod_eq_of_lt hb]
theorem Ot {A B:Fa}(hA:A.ok)(hB:B.ok)(hm:A.m=B.m):(Zn A B).ok:=by
 refine⟨Nat.mul_pos hA.pos hB.pos,fun c x hc hx=>?_⟩;have hc:c<A.n*B.n:=hc;have hx:x<A.m:=hx;have h1:c / B.n<A.n:=Nat.div_lt_of_lt_mul (by rw[Nat.mul_comm];exact hc);have h2:c%B.n<B.n:=Nat.mod_lt _ hB.pos;exact AE (hA.lt _ _ h1 hx) (hB.lt _ _ h2 (by omega))
abbrev Xs:=Nat×Nat×Nat
def Xx (nx:Nat->Nat)(y:Nat->Bool)(i:Nat):Nat->Nat->List Xs->List Xs×Option Nat
 |0,_,T=>(T,none)
 |r+1,x,T=>bif y x then Xx nx y i r (x+1) (bif decide (nx x∈T.map (·.1)) then T else T++[(nx x,i,x)]) else (T,some x)
def Jl (A:Fa)(y:Nat->Nat->Bool):Nat->Nat->List Xs->List Xs×Option (Nat×Nat)
 |0,_,T=>(T,none)
 |f+1,i,T=>match T[i]? with
  |none=>(T,none)
  |some t=>match Xx (A.nx t.1) (y t.1) i A.m 0 T with
   |(T',some x)=>(T',some (i,x))
   |(T',none)=>Jl A y f (i+1) T'
def Tb (T:List Xs):Nat->Nat->List Nat
 |0,_=>[]
 |f+1,k=>match k with
  |0=>[]
  |k+1=>match T[k+1]? with
   |none=>[]
   |some t=>Tb T f t.2.1++[t.2.2]
structure Qc (A:Fa)(T:List Xs):Prop where
 pos:0<T.length
 nd:(T.map (·.1)).Nodup
 lt:∀t∈T,t.1<A.n
 fr:∀k t,T[k+1]? = some t->t.2.1<=k/\t.2.2<A.m
theorem Qc.len {A:Fa}{T:List Xs}(h:Qc A T):T.length<=A.n:=by
 have:=WE (κ:=id) (st:=T.map (·.1)) (by rw[List.map_id];exact h.nd) (n:=A.n) fun a ha=>by
  obtain⟨t,ht,rfl⟩:=afe.1 ha;exact h.lt t ht
 rwa [ae7] at this
theorem Qc.put {A:Fa}{T:List Xs}(h:Qc A T){c i x:Nat}(hc:c<A.n)(hi:i<T.length)(hx:x<A.m)(hn:c∉T.map (·.1)):Qc A (T++[(c,i,x)]):=by
 refine⟨by simp,?_,fun t ht=>?_,fun k t ht=>?_⟩
 ·rw[afX,afR];refine⟨h.nd,by simp,fun a ha b hb=>?_⟩;simp only[afm,List.map_nil,ae0] at hb;rintro rfl;rw[hb] at ha;exact hn ha
 ·rcases afb.1 ht with h1|h1
  ·exact h.lt t h1
  ·rw[ae0.1 h1];exact hc
 ·by_cases hk:k+1<T.length
  ·rw[afo hk] at ht;exact h.fr k t ht
  ·have zw:k+1=T.length:=by
    have:=(ae6.1 ht).1;simp at this;omega
   rw[zw,afO (aba _),Nat.sub_self] at ht;simp at ht;subst ht;exact⟨by simp only;omega,hx⟩
structure adb (A:Fa)(T T':List Xs):Prop where
 inv:Qc A T'
 pre:∃R,T'=T++R
theorem Q0 {A:Fa}(hA:A.ok){s i:Nat}(hs:s<A.n)(y:Nat->Bool):∀(r x:Nat) {T:List Xs},x+r<=A.m->Qc A T->i<T.length->adb A T (Xx (A.nx s) y i r x T).1 /\
  ((Xx (A.nx s) y i r x T).2=none->∀z,x<=z->z<x+r->y z=true/\A.nx s z∈(Xx (A.nx s) y i r x T).1.map (·.1)) /\
  (∀z,(Xx (A.nx s) y i r x T).2=some z->x<=z/\z<x+r/\y z=false/\∀w,x<=w->w<z->y w=true)
 |0,x,T,_,h,_=>⟨⟨h,[],by simp[Xx]⟩,fun _ z h1 h2=>by omega,fun z hz=>by simp[Xx] at hz⟩
 |r+1,x,T,hx,h,hi=>by
  rw[Xx]
  cases hy:y x with
  |false =>
   refine⟨⟨h,[],by simp⟩,fun e=>by simp at e,fun z hz=>?_⟩;simp at hz;subst hz;exact⟨aba _,by omega,hy,fun w h1 h2=>by omega⟩
  |true =>
   rw[cond_true];have Zm:=hA.lt s x hs (by omega);have h1:Qc A (bif decide (A.nx s x∈T.map (·.1)) then T else T++[(A.nx s x,i,x)])/\(∃R,(bif decide (A.nx s x∈T.map (·.1)) then T else T++[(A.nx s x,i,x)])=T++R)/\A.nx s x∈(bif decide (A.nx s x∈T.map (·.1)) then T else T++[(A.nx s x,i,x)]).map (·.1):=by
    by_cases hm:A.nx s x∈T.map (·.1)
    ·rw[decide_eq_true hm,cond_true];exact⟨h,⟨[],by simp⟩,hm⟩
    ·rw[decide_eq_false hm,cond_false];exact⟨h.put Zm hi (by omega) hm,⟨_,rfl⟩,by simp⟩
   generalize (bif decide (A.nx s x∈T.map (·.1)) then T else T++[(A.nx s x,i,x)])=T1 at *;obtain⟨h1,⟨R,hR⟩,hm⟩:=h1;obtain⟨⟨i1,R',xO⟩,i2,i3⟩:=Q0 (i:=i) hA hs y r (x+1) (T:=T1) (by omega) h1 (by rw[hR];simp;omega);refine⟨⟨i1,R++R',by rw[xO,hR,aft]⟩,fun e z q1 q2=>?_,fun z hz=>?_⟩
   ·by_cases hzx:z=x
    ·subst hzx;refine⟨hy,?_⟩;rw[xO,afX];exact List.mem_append_left _ hm
    ·exact i2 e z (by omega) (by omega)
   ·obtain⟨a1,a2,a3,a4⟩:=i3 z hz;refine⟨by omega,by omega,a3,fun w w1 w2=>?_⟩;by_cases hwx:w=x
    ·subst hwx;exact hy
    ·exact a4 w (by omega) w2
structure iX (A:Fa)(y:Nat->Nat->Bool)(i:Nat)(T:List Xs)(r:List Xs×Option (Nat×Nat)):Prop where
 inv:Qc A r.1
 pre:∃R,r.1=T++R
 go:r.2=none->∀k t,i<=k->r.1[k]? = some t->∀x,x<A.m->y t.1 x=true/\A.nx t.1 x∈r.1.map (·.1)
 stop:∀k x,r.2=some (k,x)->i<=k/\x<A.m/\(∃t,r.1[k]? = some t/\y t.1 x=false)/\(∀j t,i<=j->j<k->r.1[j]? = some t->∀z,z<A.m->y t.1 z=true)/\∀t,r.1[k]? = some t->∀z,z<x->y t.1 z=true
theorem Ia {A:Fa}(hA:A.ok)(y:Nat->Nat->Bool):∀(f i:Nat) {T:List Xs},Qc A T->i<=T.length->A.n+1<=f+i->iX A y i T (Jl A y f i T)
 |0,i,T,h,hi,hf=>by
  have:=h.len;omega
 |f+1,i,T,h,hi,hf=>by
  rw[Jl]
  cases ht:T[i]? with
  |none =>
   refine⟨h,⟨[],by simp⟩,fun _ k t hk hkt=>?_,fun k x e=>by simp at e⟩;rw[List.getElem?_eq_none_iff] at ht;have:=(ae6.1 hkt).1;simp only at this;omega
  |some t =>
   have Gr:=(ae6.1 ht).1;have htm:=afl ht;obtain⟨⟨i1,R,hR⟩,i2,i3⟩:=Q0 hA (h.lt t htm) (y t.1) A.m 0 (T:=T) (i:=i) (by omega) h Gr;simp only;generalize hv:Xx (A.nx t.1) (y t.1) i A.m 0 T=v at *;obtain⟨T1,o⟩:=v;simp only at i1 hR i2 i3;have hTi:T1[i]? = some t:=by rw[hR,afo Gr];exact ht
   cases o with
   |some x =>
    obtain⟨a1,a2,a3,a4⟩:=i3 x rfl;refine⟨i1,⟨R,hR⟩,fun e=>by simp at e,fun k z e=>?_⟩;simp only[Option.some.injEq,Prod.mk.injEq] at e;obtain⟨rfl,rfl⟩:=e;refine⟨aba _,by omega,⟨t,hTi,a3⟩,fun j u q1 q2=>by omega,fun u hu z hz=>?_⟩;rw[hTi] at hu
    cases hu
    exact a4 z (ae5 _) hz
   |none =>
    show iX A y i T (Jl A y f (i+1) T1);have X9:=i2 rfl;have ih:=Ia hA y f (i+1) (T:=T1) i1 (by rw[hR];simp;omega) (by omega);obtain⟨j1,⟨R',xO⟩,j3,j4⟩:=ih;generalize Jl A y f (i+1) T1=r at *;have hri:r.1[i]? = some t:=by rw[xO,afo (by rw[hR];simp;omega)];exact hTi
    refine⟨j1,⟨R++R',by rw[xO,hR,aft]⟩,fun e k u hk hu x hx=>?_,fun k x e=>?_⟩
    ·by_cases NZ:k=i
     ·subst NZ;rw[hri] at hu
      cases hu
      obtain⟨b1,b2⟩:=X9 x (ae5 _) (by omega);refine⟨b1,?_⟩;rw[xO,afX];exact List.mem_append_left _ b2
     ·exact j3 e k u (by omega) hu x hx
    ·obtain⟨b1,b2,b3,b4,b5⟩:=j4 k x e;refine⟨by omega,b2,b3,fun j u q1 q2 hu z hz=>?_,b5⟩;by_cases hji:j=i
     ·subst hji;rw[hri] at hu
      cases hu
      exact (X9 z (ae5 _) (by omega)).1
     ·exact b4 j u (by omega) q2 hu z hz
theorem mY {A:Fa}(hA:A.ok):Qc A [(0,0,0)]:=⟨by simp,by simp,fun t ht=>by rw[ae0.1 ht];exact hA.pos,fun k t ht=>by simp at ht⟩
def Yr (A:Fa)(y:Nat->Nat->Bool):List Xs×Option (Nat×Nat):=Jl A y (A.n+1) 0 [(0,0,0)]
theorem U4 {A:Fa}(hA:A.ok)(y:Nat->Nat->Bool):iX A y 0 [(0,0,0)] (Yr A y):=Ia hA y _ _ (mY hA) (by simp) (by omega)
def TF (r:List Xs×Option (Nat×Nat)):List Nat:=match r.2 with
 |none=>[]
 |some (i,x)=>Tb r.1 i i++[x]
theorem Nh {A:Fa}{T:List Xs}(h:Qc A T):∀(f k:Nat),k<=f->k<T.length->Tb T f k=Tb T k k
 |0,k,hf,hk=>by
  have:k=0:=by omega
  subst this;rfl
 |f+1,0,_,_=>rfl
 |f+1,k+1,hf,hk=>by
  rw[Tb,Tb]
  cases ht:T[k+1]? with
  |none=>rfl
  |some t =>
   have:=(h.fr k t ht).1;simp only;rw[Nh h f t.2.1 (by omega) (by omega),<-Nh h k t.2.1 (by omega) (by omega)]
end Go.Am
namespace Go.Am
open Go
variable [Z3]
set_option maxRecDepth 100000
set_option maxHeartbeats 8000000
def X5 (a b:ZN):Int:=X0 [Jf a,Jf b,br (a.lines != b.lines) 2 0]
theorem kY (a b:ZN)(ha:a.next.length<=2^40)(k_:∀r∈a.next,r.2.length<=2^40)(hb:b.next.length<=2^40)(kZ:∀r∈b.next,r.2.length<=2^40):Zv U 83 [YP a,YP b]=some (.int .i64 (X5 a b)):=by
 refine Za adj (by kernel_rfl) (by simp[ZK,YF]) ?_;have h1:=c58 a ha k_;have h2:=c58 b hb kZ;rw[ZB,ZB b] at *;unfold XK YK at *;have nn:=ZT a.YC (a.next.map ZX);have nf:=ZT a.Yx (a.Z4.map ZY);have cn:=ZS a.YC (a.next.map ZX);have cf:=ZS a.Yx (a.Z4.map ZY);have HC:=ZT b.YC (b.next.map ZX);have HB:=ZT b.Yx (b.Z4.map ZY);have HA:=ZS b.YC (b.next.map ZX);have Hz:=ZS b.Yx (b.Z4.map ZY);simp only[go_sem,aaj,nn,nf,cn,cf,HC,HB,HA,Hz,h1,h2,Jx];have Xg:ZK [AV.sl 20 0 3 (some 3) 1]=false:=rfl;simp only[go_sem,eY Xg,WQ,YI,Wi,Wh,afF,lY,Xj,Yw];rfl
def Zc (k c:Nat):List AV:=[.int .i64 ((c / k:Nat):Int),.int .i64 ((c%k:Nat):Int)]
def VA (k:Nat)(f:Nat->AV):List Nat->Nat->List (AV×AV)
 |[],_=>[]
 |c::l,i=>(.agg (Zc k c),f i)::VA k f l (i+1)
theorem tX {k:Nat}(c d:Nat):Xc (.agg (Zc k c)) (.agg (Zc k d))=some (d==c):=by
 have adk:(c / k=d / k/\c%k=d%k)<->d=c:=by
  constructor
  ·rintro⟨h1,h2⟩;have:=Nat.div_add_mod c k;have h3:=Nat.div_add_mod d k;rw[h1,h2] at this;omega
  ·rintro rfl;exact⟨rfl,rfl⟩
 have hs:XQ (Zc k c) (Zc k d)=(d==c):=by
  rw[Bool.eq_iff_iff];simp only[Zc,XQ,same,beq_iff_eq,aab];rw[<-adk];simp;omega
 simp only[Xc];rw[if_pos (by rfl),hs]
theorem PA (k:Nat)(f:Nat->AV)(c:Nat):∀(ks:List Nat) (i:Nat),Wd (.agg (Zc k c)) (VA k f ks i)=some (bif decide (Ya ks c<ks.length) then some (f (i+Ya ks c)) else none)
 |[],i=>rfl
 |x::l,i=>by
  rw[VA,Wd,tX,Ya]
  cases h:x==c with
  |true=>simp
  |false =>
   simp only[cond_false,afc];rw[PA k f c l (i+1)];have e:decide (Ya l c+1<l.length+1)=decide (Ya l c<l.length):=by congr 1;apply propext;omega
   rw[e,show i+1+Ya l c=i+(Ya l c+1) by omega]
theorem MU (k:Nat)(f:Nat->AV)(c:Nat):∀(ks:List Nat) (i:Nat),c∉ks->LU (.agg (Zc k c)) (f (i+ks.length)) (VA k f ks i)=some (VA k f (ks++[c]) i)
 |[],i,_=>rfl
 |x::l,i,h=>by
  rw[afa,not_or] at h;have ZQ:(x==c)=false:=by simpa using fun e=>h.1 (Eq.symm e)
  have ih:=MU k f c l (i+1) h.2;rw[show i+1+l.length=i+(x::l).length by rw[afc];omega] at ih;rw[VA,LU,tX,ZQ,List.cons_append,VA];simp only[ih]
end Go.Am
