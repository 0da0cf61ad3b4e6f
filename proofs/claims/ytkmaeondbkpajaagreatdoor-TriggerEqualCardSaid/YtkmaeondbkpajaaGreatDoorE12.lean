/- A part of the proof. -/
import Derived.Test.YtkmaeondbkpajaaGreatDoorE10
import Derived.Test.YtkmaeondbkpajaaGreatDoorE11
set_option linter.all false
set_option maxHeartbeats 8000000
set_option maxRecDepth 100000
namespace Go.Am
open Go
def Zg (A B:Fa):Fa where
 n:=A.n*B.n
 m:=A.m
 nx c x:=A.nx (c / B.n) x*B.n+B.nx (c%B.n) x
 fr c x:=A.fr (c / B.n) x
def ot {a b n k:Nat}(ha:a<n)(hb:b<k):a*k+b<n*k:=by
 have:(a+1)*k<=n*k:=aqC k ha;rw[Nat.succ_mul] at this;omega
def UW {a b k:Nat}(hb:b<k):(a*k+b) / k=a:=by
 rw[Nat.mul_comm,Nat.mul_add_div J,Nat.div_eq_of_lt hb,Nat.add_zero]
def SU {a b k:Nat}(hb:b<k):(a*k+b)%k=b:=by
 rw[Nat.mul_comm,Nat.mul_add_mod,Nat.mod_eq_of_lt hb]
def J9 {A B:Fa}(hA:A.ok)(hB:B.ok)(hm:A.m=B.m):(Zg A B).ok:=by
 refine⟨Nat.mul_pos hA.pos hB.pos,λc x hc hx=>?_⟩;have hc:c<A.n*B.n:=hc;have hx:x<A.m:=hx;have h1:c / B.n<A.n:=Nat.div_lt_of_lt_mul (by rw[Nat.mul_comm];exact hc);have h2:c%B.n<B.n:=Nat.mod_lt _ hB.pos;exact ot (hA.lt _ _ h1 hx) (hB.lt _ _ h2 J)
abbrev Yb:=Nat×Nat×Nat
def X6 (nx:Nat->Nat)(y:Nat->Bool)(i:Nat):Nat->Nat->List Yb->List Yb×Option Nat
 |0,_,T=>(T,none)
 |r+1,x,T=>bif y x then X6 nx y i r (x+1) (bif decide (nx x∈T.map (·.1)) then T else T++[(nx x,i,x)]) else (T,some x)
def Sx (A:Fa)(y:Nat->Nat->Bool):Nat->Nat->List Yb->List Yb×Option (Nat×Nat)
 |0,_,T=>(T,none)
 |f+1,i,T=>match T[i]? with
  |none=>(T,none)
  |some t=>match X6 (A.nx t.1) (y t.1) i A.m 0 T with
   |(T',some x)=>(T',some (i,x))
   |(T',none)=>Sx A y f (i+1) T'
def Vv (T:List Yb):Nat->Nat->List Nat
 |0,_=>[]
 |f+1,k=>match k with
  |0=>[]
  |k+1=>match T[k+1]? with
   |none=>[]
   |some t=>Vv T f t.2.1++[t.2.2]
structure QA (A:Fa)(T:List Yb):Prop where
 pos:0<T.length
 nd:(T.map (·.1)).Nodup
 lt:∀t∈T,t.1<A.n
 fr:∀k t,T[k+1]? = some t->t.2.1<=k/\t.2.2<A.m
def QA.len {A:Fa}{T:List Yb}(h:QA A T):T.length<=A.n:=by
 have:=Wj (κ:=id) (st:=T.map (·.1)) (by rw[List.map_id];exact h.nd) (n:=A.n) λa ha=>by
  obtain⟨t,ht,rfl⟩:=ap0.1 ha;exact h.lt t ht
 rwa [ala] at this
def QA.put {A:Fa}{T:List Yb}(h:QA A T){c i x:Nat}(hc:c<A.n)(hi:i<T.length)(hx:x<A.m)(hn:c∉T.map (·.1)):QA A (T++[(c,i,x)]):=by
 refine⟨by simp,?_,λt ht=>?_,λk t ht=>?_⟩
 ·rw[aqf,List.nodup_append];refine⟨h.nd,by simp,λa ha b hb=>?_⟩;simp only[aqe,List.map_nil,apY] at hb;rintro rfl;rw[hb] at ha;exact hn ha
 ·rcases aqm.1 ht with h1|h1
  ·exact h.lt t h1
  ·rw[apY.1 h1];exact hc
 ·by_cases hk:k+1<T.length
  ·rw[aql hk] at ht;exact h.fr k t ht
  ·have xh:k+1=T.length:=by
    have:=(apX.1 ht).1;simp at this;omega
   rw[xh,aqZ (api _),Nat.sub_self] at ht;simp at ht;subst ht;exact⟨by simp only;omega,hx⟩
structure anQ (A:Fa)(T T':List Yb):Prop where
 inv:QA A T'
 pre:∃R,T'=T++R
def SM {A:Fa}(hA:A.ok){s i:Nat}(hs:s<A.n)(y:Nat->Bool):∀(r x:Nat) {T:List Yb},x+r<=A.m->QA A T->i<T.length->anQ A T (X6 (A.nx s) y i r x T).1 /\
  ((X6 (A.nx s) y i r x T).2=none->∀z,x<=z->z<x+r->y z=true/\A.nx s z∈(X6 (A.nx s) y i r x T).1.map (·.1)) /\
  (∀z,(X6 (A.nx s) y i r x T).2=some z->x<=z/\z<x+r/\y z=false/\∀w,x<=w->w<z->y w=true)
 |0,x,T,_,h,_=>⟨⟨h,[],by simp[X6]⟩,λ_ z h1 h2=>J,λz hz=>by simp[X6] at hz⟩
 |r+1,x,T,hx,h,hi=>by
  rw[X6]
  cases hy:y x with
  |false =>
   refine⟨⟨h,[],by simp⟩,λe=>by simp at e,λz hz=>?_⟩;simp at hz;subst hz;exact⟨api _,J,hy,λw h1 h2=>J⟩
  |true =>
   rw[cond_true];have YA:=hA.lt s x hs J;have h1:QA A (bif decide (A.nx s x∈T.map (·.1)) then T else T++[(A.nx s x,i,x)])/\(∃R,(bif decide (A.nx s x∈T.map (·.1)) then T else T++[(A.nx s x,i,x)])=T++R)/\A.nx s x∈(bif decide (A.nx s x∈T.map (·.1)) then T else T++[(A.nx s x,i,x)]).map (·.1):=by
    by_cases hm:A.nx s x∈T.map (·.1)
    ·rw[decide_eq_true hm,cond_true];exact⟨h,⟨[],by simp⟩,hm⟩
    ·rw[decide_eq_false hm,cond_false];exact⟨h.put YA hi J hm,⟨_,rfl⟩,by simp⟩
   generalize (bif decide (A.nx s x∈T.map (·.1)) then T else T++[(A.nx s x,i,x)])=T1 at *;obtain⟨h1,⟨R,hR⟩,hm⟩:=h1;obtain⟨⟨i1,R',iT⟩,i2,i3⟩:=SM (i:=i) hA hs y r (x+1) (T:=T1) J h1 (by rw[hR];simp;omega);refine⟨⟨i1,R++R',by rw[iT,hR,aqs]⟩,λe z q1 q2=>?_,λz hz=>?_⟩
   ·by_cases hzx:z=x
    ·subst hzx;refine⟨hy,?_⟩;rw[iT,aqf];exact List.mem_append_left _ hm
    ·exact i2 e z J J
   ·obtain⟨a1,a2,a3,a4⟩:=i3 z hz;refine⟨J,J,a3,λw w1 w2=>?_⟩;by_cases hwx:w=x
    ·subst hwx;exact hy
    ·exact a4 w J w2
structure afK (A:Fa)(y:Nat->Nat->Bool)(i:Nat)(T:List Yb)(r:List Yb×Option (Nat×Nat)):Prop where
 inv:QA A r.1
 pre:∃R,r.1=T++R
 go:r.2=none->∀k t,i<=k->r.1[k]? = some t->∀x,x<A.m->y t.1 x=true/\A.nx t.1 x∈r.1.map (·.1)
 stop:∀k x,r.2=some (k,x)->i<=k/\x<A.m/\(∃t,r.1[k]? = some t/\y t.1 x=false)/\(∀j t,i<=j->j<k->r.1[j]? = some t->∀z,z<A.m->y t.1 z=true)/\∀t,r.1[k]? = some t->∀z,z<x->y t.1 z=true
def BE {A:Fa}(hA:A.ok)(y:Nat->Nat->Bool):∀(f i:Nat) {T:List Yb},QA A T->i<=T.length->A.n+1<=f+i->afK A y i T (Sx A y f i T)
 |0,i,T,h,hi,hf=>by
  have:=h.len;omega
 |f+1,i,T,h,hi,hf=>by
  rw[Sx]
  cases ht:T[i]? with
  |none =>
   refine⟨h,⟨[],by simp⟩,λ_ k t hk hkt=>?_,λk x e=>by simp at e⟩;rw[List.getElem?_eq_none_iff] at ht;have:=(apX.1 hkt).1;simp only at this;omega
  |some t =>
   have DR:=(apX.1 ht).1;have htm:=aqn ht;obtain⟨⟨i1,R,hR⟩,i2,i3⟩:=SM hA (h.lt t htm) (y t.1) A.m 0 (T:=T) (i:=i) J h DR;simp only;generalize hv:X6 (A.nx t.1) (y t.1) i A.m 0 T=v at *;obtain⟨T1,o⟩:=v;simp only at i1 hR i2 i3;have hTi:T1[i]? = some t:=by rw[hR,aql DR];exact ht
   cases o with
   |some x =>
    obtain⟨a1,a2,a3,a4⟩:=i3 x rfl;refine⟨i1,⟨R,hR⟩,λe=>by simp at e,λk z e=>?_⟩;simp only[Option.some.injEq,Prod.mk.injEq] at e;obtain⟨rfl,rfl⟩:=e;refine⟨api _,J,⟨t,hTi,a3⟩,λj u q1 q2=>J,λu hu z hz=>?_⟩;rw[hTi] at hu
    cases hu
    exact a4 z (apW _) hz
   |none =>
    show afK A y i T (Sx A y f (i+1) T1);have Xx:=i2 rfl;have ih:=BE hA y f (i+1) (T:=T1) i1 (by rw[hR];simp;omega) J;obtain⟨j1,⟨R',iT⟩,j3,j4⟩:=ih;generalize Sx A y f (i+1) T1=r at *;have hri:r.1[i]? = some t:=by rw[iT,aql (by rw[hR];simp;omega)];exact hTi
    refine⟨j1,⟨R++R',by rw[iT,hR,aqs]⟩,λe k u hk hu x hx=>?_,λk x e=>?_⟩
    ·by_cases G':k=i
     ·subst G';rw[hri] at hu
      cases hu
      obtain⟨b1,b2⟩:=Xx x (apW _) J;refine⟨b1,?_⟩;rw[iT,aqf];exact List.mem_append_left _ b2
     ·exact j3 e k u J hu x hx
    ·obtain⟨b1,b2,b3,b4,b5⟩:=j4 k x e;refine⟨J,b2,b3,λj u q1 q2 hu z hz=>?_,b5⟩;by_cases hji:j=i
     ·subst hji;rw[hri] at hu
      cases hu
      exact (Xx z (apW _) J).1
     ·exact b4 j u J q2 hu z hz
def ox {A:Fa}(hA:A.ok):QA A [(0,0,0)]:=⟨by simp,by simp,λt ht=>by rw[apY.1 ht];exact hA.pos,λk t ht=>by simp at ht⟩
def Yw (A:Fa)(y:Nat->Nat->Bool):List Yb×Option (Nat×Nat):=Sx A y (A.n+1) 0 [(0,0,0)]
def Vn {A:Fa}(hA:A.ok)(y:Nat->Nat->Bool):afK A y 0 [(0,0,0)] (Yw A y):=BE hA y _ _ (ox hA) No J
def SS (r:List Yb×Option (Nat×Nat)):List Nat:=match r.2 with
 |none=>[]
 |some (i,x)=>Vv r.1 i i++[x]
def MS {A:Fa}{T:List Yb}(h:QA A T):∀(f k:Nat),k<=f->k<T.length->Vv T f k=Vv T k k
 |0,k,hf,hk=>by
  have:k=0:=J;subst this;rfl
 |f+1,0,_,_=>rfl
 |f+1,k+1,hf,hk=>by
  rw[Vv,Vv]
  cases ht:T[k+1]? with
  |none=>rfl
  |some t =>
   have:=(h.fr k t ht).1;simp only;rw[MS h f t.2.1 J J,<-MS h k t.2.1 J J]
end Go.Am
namespace Go.Am
open Go
variable [Z8]
def Wz (a b:Zv):Int:=YD [tT a,tT b,br (a.lines != b.lines) 2 0]
def aem (a b:Zv)(ha:a.next.length<=2^40)(hra:∀r∈a.next,r.2.length<=2^40)(hb:b.next.length<=2^40)(hrb:∀r∈b.next,r.2.length<=2^40):ZE U 83 [XW a,XW b]=some (.int .i64 (Wz a b)):=by
 refine ZP anW It (by simp[ZT,XC]) ?_;have h1:=c58 a ha hra;have h2:=c58 b hb hrb;rw[YH,YH b] at *;unfold VI XD at *;have nn:=ZV a.Xb (a.next.map ZF);have nf:=ZV a.WG (a.ZW.map ZM);have cn:=ZK a.Xb (a.next.map ZF);have cf:=ZK a.WG (a.ZW.map ZM);have nn':=ZV b.Xb (b.next.map ZF);have nf':=ZV b.WG (b.ZW.map ZM);have cn':=ZK b.Xb (b.next.map ZF);have cf':=ZK b.WG (b.ZW.map ZM);simp only[go_sem,ajA,h1,h2,LX];have W_:ZT [AV.sl 20 0 3 (some 3) 1]=false:=rfl;simp only[go_sem,z89 W_,Uw,Xo,UI,UH,aqG,hZ,U0];rfl
def alT (a:Zv)(h:a.next.length<=256):ZE U 62 [XW a]=some (.XQ [XW a,.int .i64 0]):=by
 refine ZP ahD It (by simp[ZT,XC]) ?_;rw[YH a];unfold VI XD;have nn:=ZV a.Xb (a.next.map ZF);have nf:=ZV a.WG (a.ZW.map ZM);have cn:=ZK a.Xb (a.next.map ZF);have cf:=ZK a.WG (a.ZW.map ZM);have ln:=ZN a.Xb (a.next.map ZF);rw[ala] at ln;have hd:decide ((a.next.length:Int)>256)=false:=F_;simp only[go_sem,aeo,nn,nf,ln,hd,Vg]
def Yr (k c:Nat):List AV:=[.int .i64 ((c / k:Nat):Int),.int .i64 ((c%k:Nat):Int)]
def Ty (k:Nat)(f:Nat->AV):List Nat->Nat->List (AV×AV)
 |[],_=>[]
 |c::l,i=>(.agg (Yr k c),f i)::Ty k f l (i+1)
def cr {k:Nat}(c d:Nat):VP (.agg (Yr k c)) (.agg (Yr k d))=some (d==c):=by
 have afN:(c / k=d / k/\c%k=d%k)<->d=c:=by
  constructor
  ·rintro⟨h1,h2⟩;have:=Nat.div_add_mod c k;have h3:=Nat.div_add_mod d k;rw[h1,h2] at this;omega
  ·rintro rfl;exact⟨rfl,rfl⟩
 have hs:V_ (Yr k c) (Yr k d)=(d==c):=by
  rw[aqI];simp only[Yr,V_,same,beq_iff_eq,ahe];rw[<-afN];simp;omega
 simp only[VP];rw[Of (by rfl),hs]
def Lo (k:Nat)(f:Nat->AV)(c:Nat):∀(ks:List Nat) (i:Nat),UY (.agg (Yr k c)) (Ty k f ks i)=some (bif decide (WR ks c<ks.length) then some (f (i+WR ks c)) else none)
 |[],i=>rfl
 |x::l,i=>by
  rw[Ty,UY,cr,WR]
  cases h:x==c with
  |true=>simp
  |false =>
   simp only[cond_false,ap1];rw[Lo k f c l (i+1)];have e:decide (WR l c+1<l.length+1)=decide (WR l c<l.length):=by congr 1;apply propext;omega
   rw[e,show i+1+WR l c=i+(WR l c+1) by omega]
def IA (k:Nat)(f:Nat->AV)(c:Nat):∀(ks:List Nat) (i:Nat),c∉ks->Km (.agg (Yr k c)) (f (i+ks.length)) (Ty k f ks i)=some (Ty k f (ks++[c]) i)
 |[],i,_=>rfl
 |x::l,i,h=>by
  rw[ap9,not_or] at h;have ZB:(x==c)=false:=by simpa using λe=>h.1 (Eq.symm e)
  have ih:=IA k f c l (i+1) h.2;rw[show i+1+l.length=i+(x::l).length by rw[ap1];omega] at ih;rw[Ty,Km,cr,ZB,aqk,Ty];simp only[ih]
end Go.Am
