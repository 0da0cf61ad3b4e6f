/- A part of the proof of a statement of this seat: the machine on which the program is read, and what it computes; for every input. -/
import Derived.Test.YtkmaeondbkpajaaGreatDoorN16
import Derived.Test.YtkmaeondbkpajaaGreatDoorN06
import Derived.Test.YtkmaeondbkpajaaGreatDoorN08
import Derived.Test.YtkmaeondbkpajaaGreatDoorN12
import Derived.Test.YtkmaeondbkpajaaGreatDoorN15
set_option linter.all false
namespace Go.Am
open Go
variable [Z3]
theorem A_:∀{l:List Nat} {c:Nat},c∈l->l[Ya l c]? = some c
 |x::l,c,h=>by
  rw[Ya]
  cases hx:x==c with
  |true =>
   have:x=c:=by simpa using hx
   simp[this]
  |false =>
   have ZQ:¬x=c:=by simpa using hx
   simp only[cond_false,afr];refine A_ ?_;rcases afa.1 h with h|h
   ·exact absurd h.symm ZQ
   ·exact h
theorem Nf:∀(cs st:List Nat),(st.map id).Nodup->∀x,x<cs.length->(Zl id cs st).1[(Zl id cs st).2.getD x 0]? = cs[x]?
 |[],_,_,_,hx=>by simp at hx
 |c::cs,st,h,x,hx=>by
  have h2:=WV (c::cs) st h;rw[Zl]
  cases hd:decide (Ya (st.map id) (id c)<st.length) with
  |true =>
   have Wy:Ya (st.map id) (id c)<st.length:=by simpa using hd
   simp only[cond_true];obtain⟨n1,n2,n3,n4,n5⟩:=WV cs st h
   cases x with
   |zero =>
    simp only[List.getD_cons_zero,List.getElem?_cons_zero];rw[n3 _ Wy];have hm:c∈st:=by
     have:=(Tt (st.map id) (id c)).1 (by rw[ae7];exact Wy)
     rwa [List.map_id] at this
    rw[List.map_id];exact A_ hm
   |succ x =>
    simp only[List.getD_cons_succ,afr];exact Nf cs st h x (by rw[afc] at hx;omega)
  |false =>
   have Wy:¬Ya (st.map id) (id c)<(st.map id).length:=by rw[ae7];simpa using hd
   rw[Tt,List.map_id] at Wy;have LX:((st++[c]).map id).Nodup:=by
    rw[List.map_id,afR];rw[List.map_id] at h;refine⟨h,by simp,fun a ha b hb=>?_⟩;rw[ae0] at hb;rintro rfl;rw[hb] at ha;exact Wy ha
   simp only[cond_false];obtain⟨n1,n2,n3,n4,n5⟩:=WV cs (st++[c]) LX
   cases x with
   |zero =>
    simp only[List.getD_cons_zero,List.getElem?_cons_zero];rw[n3 _ (by rw[aeW];simp)];simp
   |succ x =>
    simp only[List.getD_cons_succ,afr];exact Nf cs (st++[c]) LX x (by rw[afc] at hx;omega)
theorem SM {n:Nat}:∀(cs st:List Nat),(∀a∈cs,a<n)->(∀a∈st,a<n)->∀a∈(Zl id cs st).1,a<n
 |[],st,_,h=>h
 |c::cs,st,h1,h2=>by
  rw[Zl]
  cases decide (Ya (st.map id) (id c)<st.length) with
  |true=>exact SM cs st (fun a ha=>h1 a (abc _ ha)) h2
  |false =>
   exact SM cs (st++[c]) (fun a ha=>h1 a (abc _ ha)) fun a ha=>by
    rcases afb.1 ha with h|h
    ·exact h2 a h
    ·rw[ae0.1 h];exact h1 c (aeZ ..)
theorem Iz {row:Nat->List Nat}{n:Nat}(U8:∀a,a<n->∀b∈row a,b<n):∀(f i:Nat) (st:List Nat),(st.map id).Nodup->(∀a∈st,a<n)->i<=st.length->n+1<=f+i ->
  ∃fin:List Nat,(∀j,j<st.length->fin[j]? = st[j]?)/\st.length<=fin.length/\fin.length<=n/\(∀a∈fin,a<n)/\(Xe id row f i st).map (·.1)=fin.drop i/\∀e∈Xe id row f i st,e.2.length=(row e.1).length/\∀x,x<(row e.1).length->fin[e.2.getD x 0]? = (row e.1)[x]?
 |0,i,st,h,hn,hi,hf=>by
  have:=WE h hn;omega
 |f+1,i,st,h,hn,hi,hf=>by
  rw[Xe]
  cases hs:st[i]? with
  |none =>
   have:st.length<=i:=List.getElem?_eq_none_iff.1 hs;exact⟨st,fun _ _=>rfl,aba _,WE h hn,hn,by rw[afT this];rfl,fun e he=>by simp at he⟩
  |some s =>
   have Gr:i<st.length:=(ae6.1 hs).1;have dT:=hn s (afl hs);obtain⟨n1,n2,n3,n4,n5⟩:=WV (row s) st h;have D1:=Nf (row s) st h;obtain⟨fin,p1,p2,p3,p4,p5,p6⟩:=Iz U8 f (i+1) (Zl id (row s) st).1 n1 (SM _ _ (U8 s dT) hn) (by omega) (by omega);have e1:∀j,j<st.length->fin[j]? = st[j]? := fun j hj=>(p1 j (by omega)).trans (n3 j hj)
   refine⟨fin,e1,by omega,p3,p4,?_,fun e he=>?_⟩
   ·rw[afm,p5];have re:i<fin.length:=by omega
    rw[aeY re];have:=e1 i Gr;rw[hs,aaa re] at this;rw[Option.some.inj this]
   ·rcases afa.1 he with rfl|he
    ·refine⟨n4,fun x hx=>?_⟩;simp only at hx ⊢;rw[<-D1 x hx];refine p1 _ ?_;rw[ae4,aaa (by rw[n4];exact hx)];exact n5 _ (ae2 _)
    ·exact p6 e he
structure Qe (a:ZN)(fin:List Nat):Prop where
 le:fin.length<=a.fa.n
 pos:0<fin.length
 lt:∀c∈fin,c<a.fa.n
 can:∀c∈fin,Zy a.fa c=c
 z:fin[0]? = some (Zy a.fa 0)
 len:(Xd a.fa).length=fin.length
 key:∀i (h:i<(Xd a.fa).length),fin[i]? = some (Xd a.fa)[i].1
 row:∀i (h:i<(Xd a.fa).length),(Xd a.fa)[i].2.length=a.fa.m/\∀x,x<a.fa.m->fin[(Xd a.fa)[i].2.getD x 0]? = some (Zy a.fa (a.fa.nx (Xd a.fa)[i].1 x))
theorem Nk {Q:Nat->Prop}{row:Nat->List Nat}(hr:∀s,Q s->∀a∈row s,Q a):∀(f i:Nat) (st:List Nat),(∀a∈st,Q a)->∀x∈Xe id row f i st,Q x.1
 |0,_,_,_,x,hx=>by simp[Xe] at hx
 |f+1,i,st,h,x,hx=>by
  rw[Xe] at hx
  cases hs:st[i]? with
  |none=>rw[hs] at hx;simp at hx
  |some s =>
   rw[hs] at hx;have hq:=h s (afl hs);rcases afa.1 hx with rfl|hx
   ·exact hq
   ·refine Nk hr f (i+1) _ ?_ x hx;have:=(Ua (κ:=id) (ρ:=id) (Q:=Q) (fun _ _ _ _=>Iff.rfl) (row s) st (hr s hq) h).2;exact this
theorem zQ {a:ZN}(ha:a.ok):∃fin,Qe a fin:=by
 have hA:=ha.VK;have Zm:∀s,s<a.fa.n->Zy a.fa s<a.fa.n:=fun s hs=>afA ((Y2 a.fa).le s) hs
 have U8:∀s,s<a.fa.n->∀b∈(YU a.fa s).map (Zy a.fa),b<a.fa.n:=fun s hs b hb=>by
  obtain⟨c,hc,rfl⟩:=afe.1 hb;obtain⟨x,hx,rfl⟩:=afe.1 hc;exact Zm _ (hA.lt s x hs (afh.1 hx))
 have xT:∀s,((YU a.fa s).map (Zy a.fa)).length=a.fa.m:=fun s=>by simp[YU]
 obtain⟨fin,p1,p2,p3,p4,p5,p6⟩:=Iz (row:=fun c=>(YU a.fa c).map (Zy a.fa)) (n:=a.fa.n) U8 (a.fa.n+1) 0 [Zy a.fa 0] (by simp) (fun c hc=>by rw[ae0.1 hc];exact Zm 0 hA.pos) (by simp) (by omega);rw[afJ] at p5;have hL:Xd a.fa=Xe id (fun c=>(YU a.fa c).map (Zy a.fa)) (a.fa.n+1) 0 [Zy a.fa 0]:=rfl;rw[<-hL] at p5 p6;have hlen:(Xd a.fa).length=fin.length:=by rw[<-p5,ae7]
 have FI:=Nk (Q:=fun c=>Zy a.fa c=c) (row:=fun c=>(YU a.fa c).map (Zy a.fa)) (fun s _ b hb=>by
  obtain⟨c,hc,rfl⟩:=afe.1 hb;exact (Y2 a.fa).fix c) (a.fa.n+1) 0 [Zy a.fa 0] (fun c hc=>by rw[ae0.1 hc];exact (Y2 a.fa).fix 0)
 rw[<-hL] at FI;refine⟨fin,p3,by simp only[aff] at p2;omega,p4,fun c hc=>?_,p1 0 (by simp),hlen,fun i hi=>?_,fun i hi=>?_⟩
 ·rw[<-p5] at hc;obtain⟨e,he,rfl⟩:=afe.1 hc;exact FI e he
 ·rw[<-p5,afs,aaa hi];rfl
 ·obtain⟨q1,q2⟩:=p6 _ (ae2 hi);rw[xT] at q1 q2;refine⟨q1,fun x hx=>?_⟩;rw[q2 x hx];simp[YU,hx]
theorem Qe.nx {a:ZN}{fin:List Nat}(h:Qe a fin){i x:Nat}(hi:i<fin.length)(hx:x<a.fa.m):(Z2 a).fa.nx i x=((Xd a.fa)[i]'(by rw[h.len];exact hi)).2.getD x 0:=by
 have Uz:i<(Xd a.fa).length:=by rw[h.len];exact hi
 have PH:x<(Xd a.fa)[i].2.length:=by rw[(h.row i Uz).1];exact hx
 show ((((Xd a.fa).map fun x=>(false,Mv x.2)).getD i (true,[])).2.getD x 0).toNat=_;have e:((Xd a.fa).map fun x=>(false,Mv x.2)).getD i (true,[])=(false,Mv (Xd a.fa)[i].2):=by
  rw[YL (by rw[ae7];exact Uz),List.getElem_map]
 rw[e];show ((Mv (Xd a.fa)[i].2).getD x 0).toNat=_;rw[YL (by rw[Sh];exact PH),YL PH];simp[Mv]
theorem Qe.fr {a:ZN}{fin:List Nat}(h:Qe a fin){i x:Nat}(hi:i<fin.length)(hx:x<a.fa.m):(Z2 a).fa.fr i x=a.fa.fr (fin[i]) x:=by
 have Uz:i<(Xd a.fa).length:=by rw[h.len];exact hi
 have hk:=h.key i Uz;rw[aaa hi] at hk;show (((Xd a.fa).map fun x=>(false,XJ a.fa x.1)).getD i (true,[])).2.getD x false=_;have e:((Xd a.fa).map fun x=>(false,XJ a.fa x.1)).getD i (true,[])=(false,XJ a.fa (Xd a.fa)[i].1):=by
  rw[YL (by rw[ae7];exact Uz),List.getElem_map]
 rw[e,Option.some.inj hk];show (XJ a.fa (Xd a.fa)[i].1).getD x false=_;rw[YL (by rw[TT];exact hx),AN _ _ hx]
theorem XO {a:ZN}(ha:a.ok):(Z2 a).ok:=by
 obtain⟨fin,h⟩:=zQ ha;have Te:=ha.few;have hle:=h.le;have hlen:=h.len;have KP:=h.pos;have hn:a.fa.n=a.next.length:=rfl;have hln:(Z2 a).next.length=(Xd a.fa).length:=by simp[Z2]
 refine⟨ha.lines,by omega,by omega,by simp[Z2],fun i hi=>?_,fun i hi=>?_⟩
 ·have Uz:i<(Xd a.fa).length:=by omega
  obtain⟨r1,r2⟩:=h.row i Uz;rw[hln];simp only[Z2,List.getElem_map];refine⟨by rw[Sh,r1];rfl,fun y hy=>?_⟩;simp only[Mv] at hy;obtain⟨k,hk,rfl⟩:=afe.1 hy;obtain⟨x,hx,rfl⟩:=ae8.1 hk;have:=r2 x (by rw[<-r1];exact hx);rw[YL hx] at this;have:=(ae6.1 this).1;omega
 ·simp only[Z2,List.getElem_map];rw[TT];rfl
def Jm (a:ZN)(fin:List Nat)(s i:Nat):Prop:=s<a.fa.n/\∃h:i<fin.length,fin[i]=Zy a.fa s
theorem Qe.qY {a:ZN}(ha:a.ok){fin:List Nat}(h:Qe a fin){s i x:Nat}(hs:Jm a fin s i)(hx:x<a.fa.m):(Z2 a).fa.fr i x=a.fa.fr s x/\Jm a fin (a.fa.nx s x) ((Z2 a).fa.nx i x):=by
 have hA:=ha.VK;obtain⟨Ur,hi,he⟩:=hs;have Uz:i<(Xd a.fa).length:=by rw[h.len];exact hi
 refine⟨by rw[h.fr hi hx,he,Hi hA Ur hx],hA.lt s x Ur hx,?_⟩;have Zm:Zy a.fa s<a.fa.n:=afA ((Y2 a.fa).le s) Ur;have hE:=((Yd hA Zm Ur).1 ((Y2 a.fa).fix s) x hx).2;have hk:=h.key i Uz;rw[aaa hi,he] at hk;have hr:=(h.row i Uz).2 x hx;rw[<-Option.some.inj hk,hE] at hr;rw[h.nx hi hx];obtain⟨q1,q2⟩:=ae6.1 hr;exact⟨q1,q2⟩
section
variable {a b:ZN}{f:Bool->Bool->Bool}{i x:Nat}
end
theorem MS {row:Nat->List Nat}{n:Nat}(U8:∀a,a<n->∀b∈row a,b<n):∀(f f' i:Nat) (st:List Nat),(st.map id).Nodup->(∀a∈st,a<n)->i<=st.length->n+1<=f+i->n+1<=f'+i->Xe id row f i st=Xe id row f' i st
 |0,_,i,st,h,hn,hi,hf,_=>by
  have:=WE h hn;omega
 |_+1,0,i,st,h,hn,hi,_,hf=>by
  have:=WE h hn;omega
 |f+1,f'+1,i,st,h,hn,hi,hf,Fy=>by
  rw[Xe,Xe]
  cases hs:st[i]? with
  |none=>rfl
  |some s =>
   have Gr:i<st.length:=(ae6.1 hs).1;have dT:=hn s (afl hs);obtain⟨n1,n2,_⟩:=WV (row s) st h;simp only;rw[MS U8 f f' (i+1) _ n1 (SM _ _ (U8 s dT) hn) (by omega) (by omega) (by omega)]
theorem zP {a q:ZN}(ha:a.ok)(hq:q.ok)(hl:q.lines=a.lines){ψ:Nat->Nat}(h0:Zy a.fa (ψ 0)=Zy a.fa 0)(Zm:∀i,i<q.fa.n->ψ i<a.fa.n)
  (XY:∀i x,i<q.fa.n->x<a.fa.m->Zy a.fa (ψ (q.fa.nx i x))=Zy a.fa (a.fa.nx (ψ i) x))(MZ:∀i x,i<q.fa.n->x<a.fa.m->q.fa.fr i x=a.fa.fr (ψ i) x):Z2 q=Z2 a:=by
 have hA:=ha.VK;have hQ:=hq.VK;have hm:q.fa.m=a.fa.m:=by show 2^q.lines.toNat=2^a.lines.toNat;rw[hl]
 have adt:∀i j,i<q.fa.n->j<q.fa.n->(Zy q.fa i=Zy q.fa j<->Zy a.fa (ψ i)=Zy a.fa (ψ j)):=fun i j hi hj=>by
  constructor
  ·intro h;refine Pa (A:=a.fa) (B:=fun u v=>u<a.fa.n/\v<a.fa.n/\∃i j,i<q.fa.n/\j<q.fa.n/\Zy q.fa i=Zy q.fa j/\Zy a.fa u=Zy a.fa (ψ i)/\Zy a.fa v=Zy a.fa (ψ j)) ⟨?_,?_,?_⟩ _ _ ⟨Zm i hi,Zm j hj,i,j,hi,hj,h,rfl,rfl⟩
   ·rintro u v ⟨h1,h2,_⟩;exact⟨h1,h2⟩
   ·rintro u v ⟨h1,h2,i,j,hi,hj,h,e1,e2⟩ x hx;rw[((Yd hA h1 (Zm i hi)).1 e1 x hx).1,((Yd hA h2 (Zm j hj)).1 e2 x hx).1,<-MZ i x hi hx,<-MZ j x hj hx];exact ((Yd hQ hi hj).1 h x (by rw[hm];exact hx)).1
   ·rintro u v ⟨h1,h2,i,j,hi,hj,h,e1,e2⟩ x hx;have PH:x<q.fa.m:=by rw[hm];exact hx
    exact⟨hA.lt u x h1 hx,hA.lt v x h2 hx,_,_,hQ.lt i x hi PH,hQ.lt j x hj PH,((Yd hQ hi hj).1 h x PH).2,by rw[((Yd hA h1 (Zm i hi)).1 e1 x hx).2,XY i x hi hx],by rw[((Yd hA h2 (Zm j hj)).1 e2 x hx).2,XY j x hj hx]⟩
  ·intro h;refine Pa (A:=q.fa) (B:=fun u v=>u<q.fa.n/\v<q.fa.n/\Zy a.fa (ψ u)=Zy a.fa (ψ v)) ⟨fun u v k=>⟨k.1,k.2.1⟩,?_,?_⟩ _ _ ⟨hi,hj,h⟩
   ·rintro u v ⟨hu,hv,h⟩ x hx;have PH:x<a.fa.m:=by rw[<-hm];exact hx
    rw[MZ u x hu PH,MZ v x hv PH];exact ((Yd hA (Zm u hu) (Zm v hv)).1 h x PH).1
   ·rintro u v ⟨hu,hv,h⟩ x hx;have PH:x<a.fa.m:=by rw[<-hm];exact hx
    refine⟨hQ.lt u x hu hx,hQ.lt v x hv hx,?_⟩;rw[XY u x hu PH,XY v x hv PH];exact ((Yd hA (Zm u hu) (Zm v hv)).1 h x PH).2
 obtain⟨e1,k1⟩:=min_eq hQ (cl:=Zy q.fa) fun _ _ _ _=>Iff.rfl
 have hr:∀s,s<q.fa.n->(fun c=>(YU a.fa c).map (Zy a.fa)) (Zy a.fa (ψ s))=(YU q.fa s).map (fun i=>Zy a.fa (ψ i))/\∀b∈YU q.fa s,b<q.fa.n:=fun s hs=>by
  have Hc:=Zm s hs;refine⟨?_,fun b hb=>?_⟩
  ·have oZ:Zy a.fa (ψ s)<a.fa.n:=afA ((Y2 a.fa).le _) Hc;have he:=(Yd hA oZ Hc).1 ((Y2 a.fa).fix (ψ s));simp only[YU,List.map_map];rw[hm];refine afx fun x hx=>?_
   have hx:=afh.1 hx;show Zy a.fa (a.fa.nx (Zy a.fa (ψ s)) x)=Zy a.fa (ψ (q.fa.nx s x));rw[(he x hx).2,XY s x hs hx]
  ·obtain⟨x,hx,rfl⟩:=afe.1 hb;exact hQ.lt s x hs (afh.1 hx)
 obtain⟨e2,_⟩:=OR (κ:=Zy q.fa) (ρ:=fun i=>Zy a.fa (ψ i)) (Q:=fun i=>i<q.fa.n) adt (row:=YU q.fa) (w8:=fun c=>(YU a.fa c).map (Zy a.fa)) hr (q.fa.n+1+(a.fa.n+1)) 0 [0] fun b hb=>by rw[ae0.1 hb];exact hQ.pos
 obtain⟨e3,k3⟩:=OR (κ:=Zy q.fa) (ρ:=Zy q.fa) (Q:=fun i=>i<q.fa.n) (fun _ _ _ _=>Iff.rfl) (row:=YU q.fa) (w8:=fun c=>(YU q.fa c).map (Zy q.fa)) (fun s hs=>by
  refine⟨?_,fun b hb=>?_⟩
  ·have oZ:Zy q.fa s<q.fa.n:=afA ((Y2 q.fa).le _) hs;have he:=(Yd hQ oZ hs).1 ((Y2 q.fa).fix s);simp only[YU,List.map_map];refine afx fun x hx=>?_
   exact (he x (afh.1 hx)).2
  ·obtain⟨x,hx,rfl⟩:=afe.1 hb;exact hQ.lt s x hs (afh.1 hx)) (q.fa.n+1+(a.fa.n+1)) 0 [0] fun b hb=>by rw[ae0.1 hb];exact hQ.pos
 have aan:∀s,s<a.fa.n->∀b∈(YU a.fa s).map (Zy a.fa),b<a.fa.n:=fun s hs b hb=>by
  obtain⟨c,hc,rfl⟩:=afe.1 hb;obtain⟨x,hx,rfl⟩:=afe.1 hc;exact afA ((Y2 a.fa).le _) (hA.lt s x hs (afh.1 hx))
 have aao:∀s,s<q.fa.n->∀b∈(YU q.fa s).map (Zy q.fa),b<q.fa.n:=fun s hs b hb=>by
  obtain⟨c,hc,rfl⟩:=afe.1 hb;obtain⟨x,hx,rfl⟩:=afe.1 hc;exact afA ((Y2 q.fa).le _) (hQ.lt s x hs (afh.1 hx))
 have m1:Xd a.fa=(Xe (Zy q.fa) (YU q.fa) (q.fa.n+1+(a.fa.n+1)) 0 [0]).map fun x=>(Zy a.fa (ψ x.1),x.2):=by
  rw[<-e2];show Xe id (fun c=>(YU a.fa c).map (Zy a.fa)) (a.fa.n+1) 0 [Zy a.fa 0]=Xe id (fun c=>(YU a.fa c).map (Zy a.fa)) (q.fa.n+1+(a.fa.n+1)) 0 [Zy a.fa (ψ 0)];rw[h0];exact MS aan _ _ 0 _ (by simp) (fun c hc=>by rw[ae0.1 hc];exact afA ((Y2 a.fa).le _) hA.pos) (by simp) (by omega) (by omega)
 have m2:Xd q.fa=(Xe (Zy q.fa) (YU q.fa) (q.fa.n+1+(a.fa.n+1)) 0 [0]).map fun x=>(Zy q.fa x.1,x.2):=by
  rw[<-e3];show Xe id (fun c=>(YU q.fa c).map (Zy q.fa)) (q.fa.n+1) 0 [Zy q.fa 0]=Xe id (fun c=>(YU q.fa c).map (Zy q.fa)) (q.fa.n+1+(a.fa.n+1)) 0 [Zy q.fa 0];exact MS aao _ _ 0 _ (by simp) (fun c hc=>by rw[ae0.1 hc];exact afA ((Y2 q.fa).le _) hQ.pos) (by simp) (by omega) (by omega)
 unfold Z2;rw[m1,m2,hl];simp only[List.map_map,Function.comp_def];have adu:∀x∈Xe (Zy q.fa) (YU q.fa) (q.fa.n+1+(a.fa.n+1)) 0 [0],XJ q.fa (Zy q.fa x.1)=XJ a.fa (Zy a.fa (ψ x.1)):=fun x hx=>by
  have az:=k3 x hx;unfold XJ;rw[hm];refine afx fun y hy=>?_
  have hy:=afh.1 hy;rw[Hi hQ az (by rw[hm];exact hy),Hi hA (Zm _ az) hy,MZ _ y az hy]
 congr 1
 exact afx fun x hx=>by rw[adu x hx]
end Go.Am
namespace Go.Am
open Go
variable [Z3]
set_option maxRecDepth 100000
set_option maxHeartbeats 8000000
theorem Em {s:St}{b d n:Nat}{cap:Option Nat}{t:TypeId}{l r:List AV}(hn:n=l.length)(hg:s.get b=some (.cells l t false 0 0))(Jc:YZ U t=some false)(WU:size U t=some 1)(LP:l.all Zw=true)(hf:Zg (Xv U s d) l=some r) :
  Xv U s (d+1) (.sl b 0 n cap 1)=some (.fz r):=by
 subst hn;simp only[Xv,hg,ae3,XG,Jc,WU];rw[if_pos ⟨trivial,by omega,fun _=>⟨trivial,LP⟩⟩,Yw,hf]
theorem Ce (s:St)(d:Nat)(l:List Int):Zg (Xv U s (d+1)) (ints l)=some (ints l):=Vv fun x hx=>by
 obtain⟨b,_,rfl⟩:=afe.1 hx;rfl
theorem El (s:St)(d:Nat)(l:List Bool):Zg (Xv U s (d+1)) (ZH l)=some (ZH l):=Vv fun x hx=>by
 obtain⟨b,_,rfl⟩:=afe.1 hx;rfl
theorem QQ.Xv {s:St}{b d:Nat}{c:AV}{l:List AV}{t:TypeId}(h:QQ s b t c l)(Jc:YZ U t=some false)(WU:size U t=some 1)(LP:l.all Zw=true)(hf:Zg (Go.Am.Xv U s d) l=some l):Go.Am.Xv U s (d+1) c=some (.fz l):=by
 obtain⟨j,cap,rfl,_,_,_,h5⟩:=h;exact Em rfl h5 Jc WU LP hf
theorem Zi.Ek {s:St}{B:Nat}{t:TypeId}{l:List AV}{v:AV}(h:Zi s B t 1 l.length l v)(Jc:YZ U t=some false)(WU:size U t=some 1)(LP:l.all Go.Am.Zw=true)
  {d:Nat}{r:List AV}(hf:Zg (Go.Am.Xv U s d) l=some r):Go.Am.Xv U s (d+1) v=some (ZP true r):=by
 rcases h with⟨h0,rfl,_⟩|⟨h0,h1,b,_,_,rfl,hg⟩
 ·have:l=[]:=afq.1 h0;subst this
  cases hf
  rfl
 ·rw[Em rfl hg Jc WU LP hf]
  cases r with
  |nil =>
   cases l with
   |nil=>simp at h0
   |cons x l =>
    rw[Zg] at hf
    cases h1:Go.Am.Xv U s d x with
    |none=>rw[h1] at hf;cases hf
    |some y =>
     rw[h1] at hf
     cases h2:Zg (Go.Am.Xv U s d) l with
     |none=>rw[h2] at hf;cases hf
     |some z=>rw[h2] at hf;cases hf
  |cons x r=>rfl
theorem Vg.Xv {s:St}{b:Nat}{a:ZN}{cN cF:List AV}{v w:AV}(h:Vg s b a cN cF v w)(d:Nat):Go.Am.Xv U s (d+3) v=some (ZP true ((PK a.fa (YN a)).map fun x=>AV.fz (ZO x.2)))/\Go.Am.Xv U s (d+3) w=some (ZP true ((PK a.fa (YN a)).map fun x=>AV.fz (ZH (XJ a.fa x.1)))) :=
 ⟨h.v.Ek AZ AY h.na.1 (d:=d+2) (TS h.ln fun j h1 h'=>(h.bn j h' h1).Xv De Dd (Vr _) (Ce _ _ _)),h.w.Ek AX AW h.na.2 (d:=d+2) (TS h.lf fun j h1 h'=>(h.bf j h' h1).Xv vR vQ (Tl _) (El _ _ _))⟩
theorem Ni {a b:ZN}(h:X5 a b=0):a.ok/\b.ok/\a.lines=b.lines:=by
 have e:∀l:List Int,X0 l=0->∀x∈l,x=0:=by
  intro l
  induction l with
  |nil=>intro _ x hx;cases hx
  |cons y l ih =>
   intro h x hx;rw[X0] at h;by_cases hy:y=0
   ·subst hy;rcases afa.1 hx with rfl|hx
    ·rfl
    ·exact ih (by simpa[br] using h) x hx
   ·have:(y != 0)=true:=by simpa using hy
    rw[this] at h;simp[br] at h;exact absurd h hy
 have h':=e _ h;refine⟨ZN.Bl (h' _ (by simp)),ZN.Bl (h' _ (by simp)),?_⟩;have:=h' (br (a.lines != b.lines) 2 0) (by simp);by_cases hl:a.lines=b.lines
 ·exact hl
 ·have hb:(a.lines != b.lines)=true:=by simpa using hl
  rw[hb] at this;simp[br] at this
theorem Dh.YG {s:St}{N:Nat}{L:List Nat}{v:AV}(h:Dh s N L v)(d:Nat):Go.Am.YG U s (d+2) v=some (ZP true (ZO L)):=by
 rcases h with⟨rfl,rfl⟩|⟨w,cap,rfl,h2,h3,h4,h5⟩
 ·rfl
 ·rw[WQ,h2,YI,ae3,<-Xb L,XG,De,Dd,Xj];unfold ZO;rw[if_pos (Vr _),Yw,SH s d (Mv L),VT]
  cases L with
  |nil=>exact absurd rfl h5
  |cons x l=>rfl
theorem Dh.len {s:St}{N:Nat}{L:List Nat}{v:AV}(h:Dh s N L v):U7 v=some (.int .i64 (L.length:Nat)):=by
 rcases h with⟨rfl,rfl⟩|⟨w,cap,rfl,_⟩ <;> rfl
theorem Dh.na {s:St}{N:Nat}{L:List Nat}{v:AV}(h:Dh s N L v):Zw v=true:=by
 rcases h with⟨rfl,rfl⟩|⟨w,cap,rfl,_⟩ <;> rfl
end Go.Am
namespace Go.Am
open Go
def sx (l:List Bool)(t:Nat):Prop:=l.getD t false=true
structure Cq (n:Nat)(z z':List Bool×List Nat)(P:Nat->Prop):Prop where
 len:z'.1.length=n
 seen:∀t,sx z'.1 t<->sx z.1 t\/P t
 lay:∀t,t∈z'.2<->t∈z.2\/(P t/\¬sx z.1 t)
theorem Cq.trans {n:Nat}{z z1 z2:List Bool×List Nat}{P Q:Nat->Prop}(h:Cq n z z1 P)(h':Cq n z1 z2 Q):Cq n z z2 fun t=>P t\/Q t:=by
 refine⟨h'.len,fun t=>?_,fun t=>?_⟩
 ·rw[h'.seen,h.seen,or_assoc]
 ·rw[h'.lay,h.lay,h.seen];by_cases h1:P t <;> by_cases h2:Q t <;> by_cases h3:sx z.1 t <;> simp[h1,h2,h3]
theorem Cq.congr {n:Nat}{z z':List Bool×List Nat}{P Q:Nat->Prop}(h:Cq n z z' P)(e:∀t,P t<->Q t):Cq n z z' Q:=by
 have:P=Q:=funext fun t=>propext (e t)
 rw[<-this];exact h
end Go.Am
namespace Go.Am
open Go
variable [Z3]
end Go.Am
namespace Go.Am
open Go
variable [Z3]
set_option maxRecDepth 100000
set_option maxHeartbeats 8000000
theorem LW.RW {s:St}{N:Nat}{L:List Nat}{v:AV}(h:LW s N L v){j:Nat}(hj:Yn v j):j<s.next/\s.get j=some (.cells (ZO L) 3 false 0 0):=by
 rcases h with⟨rfl,_⟩|⟨b,rfl,h2,h3,h4⟩
 ·exact absurd hj (XH j)
 ·rw[Y6] at hj;subst hj;exact⟨h4,h2⟩
structure SpI (s:St)(b5 b6 sb n:Nat)(z:List Bool×List Nat)(lv:AV):Prop where
 g5:s.get b5=some (.cells [.sl sb 0 n (some n) 1] 72 false 0 0)
 gs:s.get sb=some (.cells (ZH z.1) 4 false 0 0)
 g6:s.get b6=some (.cells [lv] 48 false 0 0)
 gl:LW s 0 z.2 lv
 lt:b5<s.next/\b6<s.next/\sb<s.next
 len:z.1.length=n
 cnt:z.2.length+z.1.count false<=n
theorem count_set {l:List Bool}{q:Nat}(hq:q<l.length)(h:l.getD q false=false):(l.set q true).count false+1=l.count false:=by
 rw[ae4,aaa hq] at h;simp only[afZ] at h;rw[List.count_set hq,h];have:0<l.count false:=List.count_pos_iff.2 (h ▸ ae2 hq);simp;omega
theorem SpI.keep {s s':St}{b5 b6 sb n:Nat}{z:List Bool×List Nat}{lv:AV}(h:SpI s b5 b6 sb n z lv)(hn:s.next<=s'.next)(hg:∀j,j<s.next->j=b5\/j=b6\/j=sb\/Yn lv j->s'.get j=s.get j):SpI s' b5 b6 sb n z lv:=by
 obtain⟨g5,gs,g6,gl,⟨l1,l2,l3⟩,len,cnt⟩:=h;exact⟨(hg _ l1 (by simp)).trans g5,(hg _ l3 (by simp)).trans gs,(hg _ l2 (by simp)).trans g6,gl.keep hn fun j h1 _ h3=>hg j h1 (by simp[h3]),by omega,len,cnt⟩
theorem Rv.map {G H:Type}{TA:G->Nat->Nat->G->Prop}{eb:H->Nat->Nat->H->Prop}{φ:G->H}(h:∀g c x g',TA g c x g'->eb (φ g) c x (φ g')){g g':G}{l:List (Nat×Nat)}(hs:Rv TA g l g'):Rv eb (φ g) l (φ g'):=by
 induction hs with
 |nil=>exact .nil _
 |snoc h1 h2 ih=>exact .snoc ih (h _ _ _ _ h2)
def ecs (k:Nat)(E:List (Nat×AV)):List AV:=E.flatMap fun p=>[.int .i64 ((p.1 / k:Nat):Int),.int .i64 ((p.1%k:Nat):Int),p.2]
def Pr3 (s:St)(N:Nat)(t:TypeId)(n:Nat)(cs:List AV)(v:AV):Prop:=∃b cap,v=.sl b 0 n cap 3/\(cap=none\/cap=some n)/\s.get b=some (.cells cs t false 0 0)/\cs.length=n*3/\N<=b/\b<s.next
def rY (s:St)(N:Nat)(L:List Nat)(v:AV):Prop:=(v=.ZR/\L=[])\/(L≠[]/\∃b,v=.sl b 0 L.length none 1/\s.get b=some (.cells (ZO L) 3 false 0 0)/\N<=b/\b<s.next)
theorem rY.sl {s:St}{N:Nat}{L:List Nat}{v:AV}(h:rY s N L v):LW s N L v:=by
 rcases h with h|⟨_,h⟩
 ·exact .inl h
 ·exact .inr h
theorem rY.keep {s s':St}{N:Nat}{L:List Nat}{v:AV}(h:rY s N L v)(hn:s.next<=s'.next)(hg:∀j c,s.get j=some (.cells c 3 false 0 0)->j<s.next->s'.get j=some (.cells c 3 false 0 0)):rY s' N L v:=by
 rcases h with h|⟨h0,b,h1,h2,h3,h4⟩
 ·exact .inl h
 ·exact .inr ⟨h0,b,h1,hg b _ h2 h4,h3,by omega⟩
theorem rY.na {s:St}{N:Nat}{L:List Nat}{v:AV}(h:rY s N L v):Zw v=true:=by
 rcases h with⟨rfl,_⟩|⟨_,b,rfl,_⟩ <;> rfl
theorem rY.YG {s:St}{N:Nat}{L:List Nat}{v:AV}(h:rY s N L v)(d:Nat):Go.Am.YG U s (d+2) v=some (ZP true (ZO L)):=by
 rcases h with⟨rfl,rfl⟩|⟨h5,w,rfl,h2,h3,h4⟩
 ·rfl
 ·rw[AI rfl h2]
  cases L with
  |nil=>exact absurd rfl h5
  |cons x l=>rfl
structure aD (s:St)(N k:Nat)(T:List Xs)(E:List (Nat×AV))(pv:AV):Prop where
 row:Pr3 s N 195 E.length (ecs k E) pv
 cd:E.map (·.1)=Yt T
 sg:∀j (h:j<E.length),rY s N (Tb T j j) E[j].2
theorem aD.len {s:St}{N k:Nat}{T:List Xs}{E:List (Nat×AV)}{pv:AV}(h:aD s N k T E pv):E.length=T.length:=by
 have:=congrArg List.length h.cd
 rwa [ae7,Vo] at this
theorem aD.keep {s s':St}{N k:Nat}{T:List Xs}{E:List (Nat×AV)}{pv:AV}(h:aD s N k T E pv)(hn:s.next<=s'.next)(hg:∀j c t,(t=3\/t=195)->s.get j=some (.cells c t false 0 0)->j<s.next->s'.get j=some (.cells c t false 0 0)):aD s' N k T E pv:=by
 obtain⟨⟨b,cap,h1,h2,h3,h4,h5,h6⟩,h7,h8⟩:=h;exact⟨⟨b,cap,h1,h2,hg b _ _ (.inr rfl) h3 h6,h4,h5,by omega⟩,h7,fun j hj=>(h8 j hj).keep hn fun i c h9 h10=>hg i c 3 (.inl rfl) h9 h10⟩
def rC (a b:ZN)(c x:Nat):Bool:=a.fa.fr (c / b.fa.n) x==b.fa.fr (c%b.fa.n) x
def IJ (a b:ZN):List Xs×Option (Nat×Nat):=Yr (Zn a.fa b.fa) (rC a b)
end Go.Am
