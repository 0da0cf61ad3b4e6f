/- A part of the proof of a statement of this seat: the machine on which the program is read, and what it computes; for every input. -/
import Derived.Test.YtkmaeondbkpajaaGreatDoorG26
import Derived.Test.YtkmaeondbkpajaaGreatDoorG05
import Derived.Test.YtkmaeondbkpajaaGreatDoorG07
import Derived.Test.YtkmaeondbkpajaaGreatDoorG25
import Derived.Test.YtkmaeondbkpajaaGreatDoorG24
import Derived.Test.YtkmaeondbkpajaaGreatDoorG17
import Derived.Test.YtkmaeondbkpajaaGreatDoorG16
import Derived.Test.YtkmaeondbkpajaaGreatDoorG20
set_option linter.all false
namespace Go.Am
open Go
variable [ZZ]
def gU (A:Fa)(l:List Int):Nat->Nat->Nat->Nat
 |0,_,s=>s
 |r+1,t,s=>gU A l r (t+1) (A.nx s (XH l t))
def aad (A:Fa)(l:List Int)(i:Nat):Bool:=A.fr (gU A l i 0 0) (XH l i)
theorem Ky (A:Fa)(l:List Int):∀(r t s:Nat),(Yb A l r t s).1=((List.range r).filter fun i=>A.fr (gU A l i t s) (XH l (t+i))).map fun i=>((t+i:Nat):Int)
 |0,_,_=>rfl
 |r+1,t,s=>by
  have hp:((fun i=>A.fr (gU A l i t s) (XH l (t+i)))∘Nat.succ)=fun i=>A.fr (gU A l i (t+1) (A.nx s (XH l t))) (XH l (t+1+i)):=funext fun i=>by
   show A.fr (gU A l i (t+1) (A.nx s (XH l t))) (XH l (t+(i+1)))=_;rw[show t+(i+1)=t+1+i by omega]
  have hg:((fun i=>((t+i:Nat):Int))∘Nat.succ)=fun i=>((t+1+i:Nat):Int):=funext fun i=>by
   show ((t+(i+1):Nat):Int)=_;rw[show t+(i+1)=t+1+i by omega]
  rw[Yb,Ky A l r (t+1),List.range_succ_eq_map,List.filter_cons,List.filter_map,hp];have e3:A.fr (gU A l 0 t s) (XH l (t+0))=A.fr s (XH l t):=rfl;simp only[e3]
  cases A.fr s (XH l t) with
  |true =>
   simp only[cond_true,if_true,aju,List.map_map,hg];rfl
  |false =>
   simp only[cond_false,ajn,if_false,List.map_map,hg]
theorem Bj (A:Fa)(l:List Int):(Yb A l l.length 0 0).1=((List.range l.length).filter (aad A l)).map fun i=>((i:Nat):Int):=by
 rw[Ky];simp only[ajr];rfl
theorem u0 {A Q:Fa}{m:Nat}{R:Nat->Nat->Prop}{l:List Int}(h:∀s q x,R s q->x<m->R (A.nx s x) (Q.nx q x)):∀(r t s q:Nat),(∀i,i<r->XH l (t+i)<m)->R s q->R (gU A l r t s) (gU Q l r t q)
 |0,_,_,_,_,h0=>h0
 |r+1,t,s,q,hl,h0=>u0 h r (t+1) _ _ (fun i hi=>by have:=hl (i+1) (by omega);rwa [show t+(i+1)=t+1+i by omega] at this) (h _ _ _ h0 (by have:=hl 0 (by omega);rwa [Nat.add_zero] at this))
theorem uZ:∀{l:List Nat} {c:Nat},c∈l->l[Vo l c]? = some c
 |x::l,c,h=>by
  rw[Vo]
  cases hx:x==c with
  |true =>
   have:x=c:=by simpa using hx
   simp[this]
  |false =>
   have Zv:¬x=c:=by simpa using hx
   simp only[cond_false,ajO];refine uZ ?_;rcases ajo.1 h with h|h
   ·exact absurd h.symm Zv
   ·exact h
theorem Lb:∀(cs st:List Nat),(st.map id).Nodup->∀x,x<cs.length->(YV id cs st).1[(YV id cs st).2.getD x 0]? = cs[x]?
 |[],_,_,_,hx=>by simp at hx
 |c::cs,st,h,x,hx=>by
  have h2:=Vn (c::cs) st h;rw[YV]
  cases hd:decide (Vo (st.map id) (id c)<st.length) with
  |true =>
   have MO:Vo (st.map id) (id c)<st.length:=by simpa using hd
   simp only[cond_true];obtain⟨n1,n2,n3,n4,n5⟩:=Vn cs st h
   cases x with
   |zero =>
    simp only[List.getD_cons_zero,List.getElem?_cons_zero];rw[n3 _ MO];have hm:c∈st:=by
     have:=(ML (st.map id) (id c)).1 (by rw[aje];exact MO)
     rwa [List.map_id] at this
    rw[List.map_id];exact uZ hm
   |succ x =>
    simp only[List.getD_cons_succ,ajO];exact Lb cs st h x (by rw[ajk] at hx;omega)
  |false =>
   have MO:¬Vo (st.map id) (id c)<(st.map id).length:=by rw[aje];simpa using hd
   rw[ML,List.map_id] at MO;have BL:((st++[c]).map id).Nodup:=by
    rw[List.map_id,List.nodup_append];rw[List.map_id] at h;refine⟨h,by simp,fun a ha b hb=>?_⟩;rw[ajm] at hb;rintro rfl;rw[hb] at ha;exact MO ha
   simp only[cond_false];obtain⟨n1,n2,n3,n4,n5⟩:=Vn cs (st++[c]) BL
   cases x with
   |zero =>
    simp only[List.getD_cons_zero,List.getElem?_cons_zero];rw[n3 _ (by rw[ajh];simp)];simp
   |succ x =>
    simp only[List.getD_cons_succ,ajO];exact Lb cs (st++[c]) BL x (by rw[ajk] at hx;omega)
theorem OD {n:Nat}:∀(cs st:List Nat),(∀a∈cs,a<n)->(∀a∈st,a<n)->∀a∈(YV id cs st).1,a<n
 |[],st,_,h=>h
 |c::cs,st,h1,h2=>by
  rw[YV]
  cases decide (Vo (st.map id) (id c)<st.length) with
  |true=>exact OD cs st (fun a ha=>h1 a (aab _ ha)) h2
  |false =>
   exact OD cs (st++[c]) (fun a ha=>h1 a (aab _ ha)) fun a ha=>by
    rcases ajX.1 ha with h|h
    ·exact h2 a h
    ·rw[ajm.1 h];exact h1 c (aba ..)
theorem E4 {row:Nat->List Nat}{n:Nat}(Sb:∀a,a<n->∀b∈row a,b<n):∀(f i:Nat) (st:List Nat),(st.map id).Nodup->(∀a∈st,a<n)->i<=st.length->n+1<=f+i ->
  ∃fin:List Nat,(∀j,j<st.length->fin[j]? = st[j]?)/\st.length<=fin.length/\fin.length<=n/\(∀a∈fin,a<n)/\(UT id row f i st).map (·.1)=fin.drop i/\∀e∈UT id row f i st,e.2.length=(row e.1).length/\∀x,x<(row e.1).length->fin[e.2.getD x 0]? = (row e.1)[x]?
 |0,i,st,h,hn,hi,hf=>by
  have:=Vm h hn;omega
 |f+1,i,st,h,hn,hi,hf=>by
  rw[UT]
  cases hs:st[i]? with
  |none =>
   have:st.length<=i:=List.getElem?_eq_none_iff.1 hs;exact⟨st,fun _ _=>rfl,ajg _,Vm h hn,hn,by rw[List.drop_eq_nil_of_le this];rfl,fun e he=>by simp at he⟩
  |some s =>
   have dC:i<st.length:=(ajt.1 hs).1;have hsn:=hn s (aj1 hs);obtain⟨n1,n2,n3,n4,n5⟩:=Vn (row s) st h;have Cu:=Lb (row s) st h;obtain⟨fin,p1,p2,p3,p4,p5,p6⟩:=E4 Sb f (i+1) (YV id (row s) st).1 n1 (OD _ _ (Sb s hsn) hn) (by omega) (by omega);have e1:∀j,j<st.length->fin[j]? = st[j]? := fun j hj=>(p1 j (by omega)).trans (n3 j hj)
   refine⟨fin,e1,by omega,p3,p4,?_,fun e he=>?_⟩
   ·rw[aju,p5];have hif:i<fin.length:=by omega
    rw[abc hif];have:=e1 i dC;rw[hs,aaa hif] at this;rw[Option.some.inj this]
   ·rcases ajo.1 he with rfl|he
    ·refine⟨n4,fun x hx=>?_⟩;simp only at hx ⊢;rw[<-Cu x hx];refine p1 _ ?_;rw[ajl,aaa (by rw[n4];exact hx)];exact n5 _ (ajc _)
    ·exact p6 e he
structure xu (a:YY)(fin:List Nat):Prop where
 le:fin.length<=a.fa.n
 pos:0<fin.length
 lt:∀c∈fin,c<a.fa.n
 can:∀c∈fin,YP a.fa c=c
 z:fin[0]? = some (YP a.fa 0)
 len:(Vx a.fa).length=fin.length
 key:∀i (h:i<(Vx a.fa).length),fin[i]? = some (Vx a.fa)[i].1
 row:∀i (h:i<(Vx a.fa).length),(Vx a.fa)[i].2.length=a.fa.m/\∀x,x<a.fa.m->fin[(Vx a.fa)[i].2.getD x 0]? = some (YP a.fa (a.fa.nx (Vx a.fa)[i].1 x))
theorem Ew {Q:Nat->Prop}{row:Nat->List Nat}(hr:∀s,Q s->∀a∈row s,Q a):∀(f i:Nat) (st:List Nat),(∀a∈st,Q a)->∀x∈UT id row f i st,Q x.1
 |0,_,_,_,x,hx=>by simp[UT] at hx
 |f+1,i,st,h,x,hx=>by
  rw[UT] at hx
  cases hs:st[i]? with
  |none=>rw[hs] at hx;simp at hx
  |some s =>
   rw[hs] at hx;have hq:=h s (aj1 hs);rcases ajo.1 hx with rfl|hx
   ·exact hq
   ·refine Ew hr f (i+1) _ ?_ x hx;have:=(SY (κ:=id) (ρ:=id) (Q:=Q) (fun _ _ _ _=>Iff.rfl) (row s) st (hr s hq) h).2;exact this
theorem aaJ {a:YY}(ha:a.ok):∃fin,xu a fin:=by
 have hA:=ha.Ob;have YH:∀s,s<a.fa.n->YP a.fa s<a.fa.n:=fun s hs=>akg ((XA a.fa).le s) hs
 have Sb:∀s,s<a.fa.n->∀b∈(X0 a.fa s).map (YP a.fa),b<a.fa.n:=fun s hs b hb=>by
  obtain⟨c,hc,rfl⟩:=ajs.1 hb;obtain⟨x,hx,rfl⟩:=ajs.1 hc;exact YH _ (hA.lt s x hs (ajE.1 hx))
 have vQ:∀s,((X0 a.fa s).map (YP a.fa)).length=a.fa.m:=fun s=>by simp[X0]
 obtain⟨fin,p1,p2,p3,p4,p5,p6⟩:=E4 (row:=fun c=>(X0 a.fa c).map (YP a.fa)) (n:=a.fa.n) Sb (a.fa.n+1) 0 [YP a.fa 0] (by simp) (fun c hc=>by rw[ajm.1 hc];exact YH 0 hA.pos) (by simp) (by omega);rw[ajS] at p5;have hL:Vx a.fa=UT id (fun c=>(X0 a.fa c).map (YP a.fa)) (a.fa.n+1) 0 [YP a.fa 0]:=rfl;rw[<-hL] at p5 p6;have hlen:(Vx a.fa).length=fin.length:=by rw[<-p5,aje]
 have cX:=Ew (Q:=fun c=>YP a.fa c=c) (row:=fun c=>(X0 a.fa c).map (YP a.fa)) (fun s _ b hb=>by
  obtain⟨c,hc,rfl⟩:=ajs.1 hb;exact (XA a.fa).fix c) (a.fa.n+1) 0 [YP a.fa 0] (fun c hc=>by rw[ajm.1 hc];exact (XA a.fa).fix 0)
 rw[<-hL] at cX;refine⟨fin,p3,by simp only[ajR] at p2;omega,p4,fun c hc=>?_,p1 0 (by simp),hlen,fun i hi=>?_,fun i hi=>?_⟩
 ·rw[<-p5] at hc;obtain⟨e,he,rfl⟩:=ajs.1 hc;exact cX e he
 ·rw[<-p5,ajv,aaa hi];rfl
 ·obtain⟨q1,q2⟩:=p6 _ (ajc hi);rw[vQ] at q1 q2;refine⟨q1,fun x hx=>?_⟩;rw[q2 x hx];simp[X0,hx]
theorem xu.nx {a:YY}{fin:List Nat}(h:xu a fin){i x:Nat}(hi:i<fin.length)(hx:x<a.fa.m):(YW a).fa.nx i x=((Vx a.fa)[i]'(by rw[h.len];exact hi)).2.getD x 0:=by
 have OL:i<(Vx a.fa).length:=by rw[h.len];exact hi
 have Ms:x<(Vx a.fa)[i].2.length:=by rw[(h.row i OL).1];exact hx
 show ((((Vx a.fa).map fun x=>(false,NU x.2)).getD i (true,[])).2.getD x 0).toNat=_;have e:((Vx a.fa).map fun x=>(false,NU x.2)).getD i (true,[])=(false,NU (Vx a.fa)[i].2):=by
  rw[XT (by rw[aje];exact OL),List.getElem_map]
 rw[e];show ((NU (Vx a.fa)[i].2).getD x 0).toNat=_;rw[XT (by rw[Oq];exact Ms),XT Ms];simp[NU]
theorem xu.fr {a:YY}{fin:List Nat}(h:xu a fin){i x:Nat}(hi:i<fin.length)(hx:x<a.fa.m):(YW a).fa.fr i x=a.fa.fr (fin[i]) x:=by
 have OL:i<(Vx a.fa).length:=by rw[h.len];exact hi
 have hk:=h.key i OL;rw[aaa hi] at hk;show (((Vx a.fa).map fun x=>(false,Wg a.fa x.1)).getD i (true,[])).2.getD x false=_;have e:((Vx a.fa).map fun x=>(false,Wg a.fa x.1)).getD i (true,[])=(false,Wg a.fa (Vx a.fa)[i].1):=by
  rw[XT (by rw[aje];exact OL),List.getElem_map]
 rw[e,Option.some.inj hk];show (Wg a.fa (Vx a.fa)[i].1).getD x false=_;rw[XT (by rw[Rb];exact hx),uv _ _ hx]
theorem rM (a:YY):(YW a).fa.n=(Vx a.fa).length:=by
 show ((Vx a.fa).map fun x=>(false,NU x.2)).length=_;rw[aje]
theorem xt {a:YY}(ha:a.ok):(YW a).ok:=by
 obtain⟨fin,h⟩:=aaJ ha;have Qg:=ha.few;have hle:=h.le;have hlen:=h.len;have Dr:=h.pos;have hn:a.fa.n=a.next.length:=rfl;have hln:(YW a).next.length=(Vx a.fa).length:=by simp[YW]
 refine⟨ha.lines,by omega,by omega,by simp[YW],fun i hi=>?_,fun i hi=>?_⟩
 ·have OL:i<(Vx a.fa).length:=by omega
  obtain⟨r1,r2⟩:=h.row i OL;rw[hln];simp only[YW,List.getElem_map];refine⟨by rw[Oq,r1];rfl,fun y hy=>?_⟩;simp only[NU] at hy;obtain⟨k,hk,rfl⟩:=ajs.1 hy;obtain⟨x,hx,rfl⟩:=ajw.1 hk;have:=r2 x (by rw[<-r1];exact hx);rw[XT hx] at this;have:=(ajt.1 this).1;omega
 ·simp only[YW,List.getElem_map];rw[Rb];rfl
def gi (a:YY)(fin:List Nat)(s i:Nat):Prop:=s<a.fa.n/\∃h:i<fin.length,fin[i]=YP a.fa s
theorem xu.sim {a:YY}(ha:a.ok){fin:List Nat}(h:xu a fin){s i x:Nat}(hs:gi a fin s i)(hx:x<a.fa.m):(YW a).fa.fr i x=a.fa.fr s x/\gi a fin (a.fa.nx s x) ((YW a).fa.nx i x):=by
 have hA:=ha.Ob;obtain⟨Sq,hi,he⟩:=hs;have OL:i<(Vx a.fa).length:=by rw[h.len];exact hi
 refine⟨by rw[h.fr hi hx,he,Dp hA Sq hx],hA.lt s x Sq hx,?_⟩;have YH:YP a.fa s<a.fa.n:=akg ((XA a.fa).le s) Sq;have hE:=((Vw hA YH Sq).1 ((XA a.fa).fix s) x hx).2;have hk:=h.key i OL;rw[aaa hi,he] at hk;have hr:=(h.row i OL).2 x hx;rw[<-Option.some.inj hk,hE] at hr;rw[h.nx hi hx];obtain⟨q1,q2⟩:=ajt.1 hr;exact⟨q1,q2⟩
theorem rL {a:YY}(ha:a.ok){l:List Int}(hl:∀i,i<l.length->XH l i<a.fa.m):(Yb (YW a).fa l l.length 0 0).1=(Yb a.fa l l.length 0 0).1:=by
 obtain⟨fin,h⟩:=aaJ ha;rw[Bj,Bj]
 congr 1
 refine List.filter_congr fun i hi=>?_
 have hi:=ajE.1 hi;have h0:gi a fin 0 0:=⟨ha.Ob.pos,h.pos,by have:=h.z;rw[aaa h.pos] at this;exact Option.some.inj this⟩;have hs:=u0 (A:=a.fa) (Q:=(YW a).fa) (m:=a.fa.m) (R:=gi a fin) (l:=l) (fun s q x hq hx=>(h.sim ha hq hx).2) i 0 0 0 (fun j hj=>by rw[ajr];exact hl j (by omega)) h0;exact (h.sim ha hs (hl i hi)).1
section
variable {a b:YY}{f:Bool->Bool->Bool}{i x:Nat}
end
theorem KX {row:Nat->List Nat}{n:Nat}(Sb:∀a,a<n->∀b∈row a,b<n):∀(f f' i:Nat) (st:List Nat),(st.map id).Nodup->(∀a∈st,a<n)->i<=st.length->n+1<=f+i->n+1<=f'+i->UT id row f i st=UT id row f' i st
 |0,_,i,st,h,hn,hi,hf,_=>by
  have:=Vm h hn;omega
 |_+1,0,i,st,h,hn,hi,_,hf=>by
  have:=Vm h hn;omega
 |f+1,f'+1,i,st,h,hn,hi,hf,EC=>by
  rw[UT,UT]
  cases hs:st[i]? with
  |none=>rfl
  |some s =>
   have dC:i<st.length:=(ajt.1 hs).1;have hsn:=hn s (aj1 hs);obtain⟨n1,n2,_⟩:=Vn (row s) st h;simp only;rw[KX Sb f f' (i+1) _ n1 (OD _ _ (Sb s hsn) hn) (by omega) (by omega) (by omega)]
theorem lz {a q:YY}(ha:a.ok)(hq:q.ok)(hl:q.lines=a.lines){ψ:Nat->Nat}(h0:ψ 0=0)(YH:∀i,i<q.fa.n->ψ i<a.fa.n)
  (UL:∀i x,i<q.fa.n->x<a.fa.m->ψ (q.fa.nx i x)=a.fa.nx (ψ i) x)(SA:∀i x,i<q.fa.n->x<a.fa.m->q.fa.fr i x=a.fa.fr (ψ i) x):YW q=YW a:=by
 have hA:=ha.Ob;have hQ:=hq.Ob;have hm:q.fa.m=a.fa.m:=by show 2^q.lines.toNat=2^a.lines.toNat;rw[hl]
 have ahB:∀i j,i<q.fa.n->j<q.fa.n->(YP q.fa i=YP q.fa j<->YP a.fa (ψ i)=YP a.fa (ψ j)):=fun i j hi hj=>by
  constructor
  ·intro h;refine Jb (A:=a.fa) (B:=fun u v=>∃i j,i<q.fa.n/\j<q.fa.n/\YP q.fa i=YP q.fa j/\u=ψ i/\v=ψ j) ⟨?_,?_,?_⟩ _ _ ⟨i,j,hi,hj,h,rfl,rfl⟩
   ·rintro u v ⟨i,j,hi,hj,_,rfl,rfl⟩;exact⟨YH i hi,YH j hj⟩
   ·rintro u v ⟨i,j,hi,hj,h,rfl,rfl⟩ x hx;rw[<-SA i x hi hx,<-SA j x hj hx];exact ((Vw hQ hi hj).1 h x (by rw[hm];exact hx)).1
   ·rintro u v ⟨i,j,hi,hj,h,rfl,rfl⟩ x hx;have Ms:x<q.fa.m:=by rw[hm];exact hx
    exact⟨_,_,hQ.lt i x hi Ms,hQ.lt j x hj Ms,((Vw hQ hi hj).1 h x Ms).2,(UL i x hi hx).symm,(UL j x hj hx).symm⟩
  ·intro h;refine Jb (A:=q.fa) (B:=fun u v=>u<q.fa.n/\v<q.fa.n/\YP a.fa (ψ u)=YP a.fa (ψ v)) ⟨fun u v k=>⟨k.1,k.2.1⟩,?_,?_⟩ _ _ ⟨hi,hj,h⟩
   ·rintro u v ⟨hu,hv,h⟩ x hx;have Ms:x<a.fa.m:=by rw[<-hm];exact hx
    rw[SA u x hu Ms,SA v x hv Ms];exact ((Vw hA (YH u hu) (YH v hv)).1 h x Ms).1
   ·rintro u v ⟨hu,hv,h⟩ x hx;have Ms:x<a.fa.m:=by rw[<-hm];exact hx
    refine⟨hQ.lt u x hu hx,hQ.lt v x hv hx,?_⟩;rw[UL u x hu Ms,UL v x hv Ms];exact ((Vw hA (YH u hu) (YH v hv)).1 h x Ms).2
 obtain⟨e1,k1⟩:=min_eq hQ (cl:=YP q.fa) fun _ _ _ _=>Iff.rfl
 have hr:∀s,s<q.fa.n->(fun c=>(X0 a.fa c).map (YP a.fa)) (YP a.fa (ψ s))=(X0 q.fa s).map (fun i=>YP a.fa (ψ i))/\∀b∈X0 q.fa s,b<q.fa.n:=fun s hs=>by
  have CY:=YH s hs;refine⟨?_,fun b hb=>?_⟩
  ·have D3:YP a.fa (ψ s)<a.fa.n:=akg ((XA a.fa).le _) CY;have he:=(Vw hA D3 CY).1 ((XA a.fa).fix (ψ s));simp only[X0,List.map_map];rw[hm];refine ajV fun x hx=>?_
   have hx:=ajE.1 hx;show YP a.fa (a.fa.nx (YP a.fa (ψ s)) x)=YP a.fa (ψ (q.fa.nx s x));rw[(he x hx).2,UL s x hs hx]
  ·obtain⟨x,hx,rfl⟩:=ajs.1 hb;exact hQ.lt s x hs (ajE.1 hx)
 obtain⟨e2,_⟩:=MJ (κ:=YP q.fa) (ρ:=fun i=>YP a.fa (ψ i)) (Q:=fun i=>i<q.fa.n) ahB (row:=X0 q.fa) (oQ:=fun c=>(X0 a.fa c).map (YP a.fa)) hr (q.fa.n+1+(a.fa.n+1)) 0 [0] fun b hb=>by rw[ajm.1 hb];exact hQ.pos
 obtain⟨e3,k3⟩:=MJ (κ:=YP q.fa) (ρ:=YP q.fa) (Q:=fun i=>i<q.fa.n) (fun _ _ _ _=>Iff.rfl) (row:=X0 q.fa) (oQ:=fun c=>(X0 q.fa c).map (YP q.fa)) (fun s hs=>by
  refine⟨?_,fun b hb=>?_⟩
  ·have D3:YP q.fa s<q.fa.n:=akg ((XA q.fa).le _) hs;have he:=(Vw hQ D3 hs).1 ((XA q.fa).fix s);simp only[X0,List.map_map];refine ajV fun x hx=>?_
   exact (he x (ajE.1 hx)).2
  ·obtain⟨x,hx,rfl⟩:=ajs.1 hb;exact hQ.lt s x hs (ajE.1 hx)) (q.fa.n+1+(a.fa.n+1)) 0 [0] fun b hb=>by rw[ajm.1 hb];exact hQ.pos
 have aeF:∀s,s<a.fa.n->∀b∈(X0 a.fa s).map (YP a.fa),b<a.fa.n:=fun s hs b hb=>by
  obtain⟨c,hc,rfl⟩:=ajs.1 hb;obtain⟨x,hx,rfl⟩:=ajs.1 hc;exact akg ((XA a.fa).le _) (hA.lt s x hs (ajE.1 hx))
 have aeG:∀s,s<q.fa.n->∀b∈(X0 q.fa s).map (YP q.fa),b<q.fa.n:=fun s hs b hb=>by
  obtain⟨c,hc,rfl⟩:=ajs.1 hb;obtain⟨x,hx,rfl⟩:=ajs.1 hc;exact akg ((XA q.fa).le _) (hQ.lt s x hs (ajE.1 hx))
 have m1:Vx a.fa=(UT (YP q.fa) (X0 q.fa) (q.fa.n+1+(a.fa.n+1)) 0 [0]).map fun x=>(YP a.fa (ψ x.1),x.2):=by
  rw[<-e2];show UT id (fun c=>(X0 a.fa c).map (YP a.fa)) (a.fa.n+1) 0 [YP a.fa 0]=UT id (fun c=>(X0 a.fa c).map (YP a.fa)) (q.fa.n+1+(a.fa.n+1)) 0 [YP a.fa (ψ 0)];rw[h0];exact KX aeF _ _ 0 _ (by simp) (fun c hc=>by rw[ajm.1 hc];exact akg ((XA a.fa).le _) hA.pos) (by simp) (by omega) (by omega)
 have m2:Vx q.fa=(UT (YP q.fa) (X0 q.fa) (q.fa.n+1+(a.fa.n+1)) 0 [0]).map fun x=>(YP q.fa x.1,x.2):=by
  rw[<-e3];show UT id (fun c=>(X0 q.fa c).map (YP q.fa)) (q.fa.n+1) 0 [YP q.fa 0]=UT id (fun c=>(X0 q.fa c).map (YP q.fa)) (q.fa.n+1+(a.fa.n+1)) 0 [YP q.fa 0];exact KX aeG _ _ 0 _ (by simp) (fun c hc=>by rw[ajm.1 hc];exact akg ((XA q.fa).le _) hQ.pos) (by simp) (by omega) (by omega)
 unfold YW;rw[m1,m2,hl];simp only[List.map_map,Function.comp_def];have ahC:∀x∈UT (YP q.fa) (X0 q.fa) (q.fa.n+1+(a.fa.n+1)) 0 [0],Wg q.fa (YP q.fa x.1)=Wg a.fa (YP a.fa (ψ x.1)):=fun x hx=>by
  have hxn:=k3 x hx;unfold Wg;rw[hm];refine ajV fun y hy=>?_
  have hy:=ajE.1 hy;rw[Dp hQ hxn (by rw[hm];exact hy),Dp hA (YH _ hxn) hy,SA _ y hxn hy]
 congr 1
 exact ajV fun x hx=>by rw[ahC x hx]
end Go.Am
namespace Go.Am
open Go
variable [ZZ]
set_option maxRecDepth 100000
set_option maxHeartbeats 4000000
section
variable {S:Type} [DecidableEq S]
def Xq (nx:S->Nat->S×Bool)(L:List S)(m:Nat)(x:S):List Nat:=(List.range m).map fun y=>WN L (nx x y).1
def Xf (nx:S->Nat->S×Bool)(m:Nat)(x:S):List Bool:=(List.range m).map fun y=>(nx x y).2
def PR (lines:Int)(nx:S->Nat->S×Bool)(L:List S):YY :=
 ⟨lines,true,L.map fun x=>(false,NU (Xq nx L (2^lines.toNat) x)),true,L.map fun x=>(false,Xf nx (2^lines.toNat) x)⟩
variable {lines:Int}{nx:S->Nat->S×Bool}{L:List S}{Inv:S->Prop}
theorem tZ:(PR lines nx L).fa.n=L.length:=by
 show (L.map _).length=_;rw[aje]
theorem wN {i x:Nat}(hi:i<L.length)(hx:x<2^lines.toNat):(PR lines nx L).fa.nx i x=WN L (nx L[i] x).1:=by
 have e:(L.map fun z=>(false,NU (Xq nx L (2^lines.toNat) z))).getD i (true,[])=(false,NU (Xq nx L (2^lines.toNat) L[i])):=by
  rw[XT (by rw[aje];exact hi),List.getElem_map]
 show ((((L.map fun z=>(false,NU (Xq nx L (2^lines.toNat) z))).getD i (true,[])).2.getD x 0).toNat)=_;rw[e];show ((NU (Xq nx L (2^lines.toNat) L[i])).getD x 0).toNat=_;have hl:x<(NU (Xq nx L (2^lines.toNat) L[i])).length:=by rw[Oq];simp[Xq];exact hx
 rw[XT hl];simp[NU,Xq]
theorem wM {i x:Nat}(hi:i<L.length)(hx:x<2^lines.toNat):(PR lines nx L).fa.fr i x=(nx L[i] x).2:=by
 have e:(L.map fun z=>(false,Xf nx (2^lines.toNat) z)).getD i (true,[])=(false,Xf nx (2^lines.toNat) L[i]):=by
  rw[XT (by rw[aje];exact hi),List.getElem_map]
 show (((L.map fun z=>(false,Xf nx (2^lines.toNat) z)).getD i (true,[])).2.getD x false)=_;rw[e];show (Xf nx (2^lines.toNat) L[i]).getD x false=_;have hl:x<(Xf nx (2^lines.toNat) L[i]).length:=by simp[Xf];exact hx
 rw[XT hl];simp[Xf]
theorem Dv (hl:1<=lines/\lines<=4)(h:Cw (fun x y=>(nx x y).1) (2^lines.toNat) Inv L.length L)(h0:0<L.length)(hf:L.length<=512):(PR lines nx L).ok:=by
 refine⟨hl,by simp only[PR,aje];exact h0,by simp only[PR,aje];exact hf,by simp only[PR,aje],fun i hi=>?_,fun i hi=>?_⟩
 ·have OL:i<L.length:=by simpa only[PR,aje] using hi
  simp only[PR,List.getElem_map,aje];refine⟨by simp[NU,Xq],fun x hx=>?_⟩;simp only[NU,Xq,List.map_map,ajs,ajE,Function.comp] at hx;obtain⟨z,hz,rfl⟩:=hx;have:=(Oo _ _).2 (h.cl i OL OL z hz);omega
 ·have OL:i<L.length:=by simpa only[PR,aje] using hi
  simp[PR,Xf]
end
theorem aP {S S':Type} [DecidableEq S] [DecidableEq S'] {lines:Int}{nx:S->Nat->S×Bool}{nx':S'->Nat->S'×Bool}{L:List S}{L':List S'}{Inv:S->Prop}{aO:S'->Prop}{ψ:S'->S}(hl:1<=lines/\lines<=4)
  (h:Cw (fun x y=>(nx x y).1) (2^lines.toNat) Inv L.length L)(h':Cw (fun x y=>(nx' x y).1) (2^lines.toNat) aO L'.length L'){x0:S}{x0':S'}(e0:L[0]? = some x0)(e0':L'[0]? = some x0')(ahH:ψ x0'=x0)
  (hψ:∀x,aO x->∀y,y<2^lines.toNat->ψ (nx' x y).1=(nx (ψ x) y).1/\(nx' x y).2=(nx (ψ x) y).2)(hm:∀x∈L',ψ x∈L)(hf:L.length<=512)(EC:L'.length<=512):YW (PR lines nx' L')=YW (PR lines nx L):=by
 obtain⟨p0,_⟩:=ajt.1 e0;obtain⟨p0',_⟩:=ajt.1 e0';have aeL:∀i,i<L'.length->∃z,L'[i]? = some z/\ψ z∈L:=fun i hi=>⟨L'[i],aaa hi,hm _ (ajc hi)⟩
 obtain⟨φ,hφ⟩:∃φ:Nat->Nat,φ=fun i=>match L'[i]? with|some z=>WN L (ψ z)|none=>0:=⟨_,rfl⟩
 have abF:∀i (hi:i<L'.length),φ i=WN L (ψ L'[i]):=fun i hi=>by rw[hφ];simp only[aaa hi]
 have tY:∀i,i<L'.length->φ i<L.length:=fun i hi=>by rw[abF i hi];exact (Oo _ _).2 (hm _ (ajc hi))
 have abG:∀i (hi:i<L'.length),L[φ i]? = some (ψ L'[i]):=fun i hi=>by rw[abF i hi];exact Jm (hm _ (ajc hi))
 refine lz (Dv hl h p0 hf) (Dv hl h' p0' EC) rfl (ψ:=φ) ?_ ?_ ?_ ?_
 ·have h1:=abG 0 p0';have h2:L'[0]=x0':=by rw[aaa p0'] at e0';exact Option.some.inj e0'
  rw[h2,ahH] at h1;have zf:=tY 0 p0';rw[aaa zf] at h1;rw[aaa p0] at e0;exact (List.getElem_inj h.nd).1 (by rw[Option.some.inj h1,Option.some.inj e0])
 ·intro i hi;rw[tZ] at hi ⊢;exact tY i hi
 ·intro i x hi hx;rw[tZ] at hi;have hx:x<2^lines.toNat:=hx;have hc:=h'.cl i hi hi x hx;have YH:WN L' (nx' L'[i] x).1<L'.length:=(Oo _ _).2 hc;have h1:=abG i hi;have zf:=tY i hi;rw[aaa zf] at h1;have h1:=Option.some.inj h1;rw[wN hi hx,wN zf hx,h1];have h3:=Jm hc;rw[aaa YH] at h3;rw[abF _ YH,Option.some.inj h3,(hψ _ (h'.inv _ (ajc hi)) x hx).1]
 ·intro i x hi hx;rw[tZ] at hi;have hx:x<2^lines.toNat:=hx;have h1:=abG i hi;have zf:=tY i hi;rw[aaa zf] at h1;have h1:=Option.some.inj h1;rw[wM hi hx,wM zf hx,h1,(hψ _ (h'.inv _ (ajc hi)) x hx).2]
end Go.Am
namespace Go.Am
open Go
variable [ZZ]
set_option maxRecDepth 100000
set_option maxHeartbeats 8000000
section
variable {S:Type} [DecidableEq S]
theorem Fj (g:Nat->S):∀(r y:Nat) (L:List S),∃R,Uz g r y L=L++R
 |0,y,L=>⟨[],by rw[Uz,ajG]⟩
 |r+1,y,L=>by
  obtain⟨R0,e0⟩:=Iw L (g y);obtain⟨R,e⟩:=Fj g r (y+1) (SX L (g y));exact⟨R0++R,by rw[Uz,e,e0,ajQ]⟩
theorem yN (nx:S->Nat->S×Bool)(L:List S)(m:Nat)(x:S):(Xq nx L m x).length=m:=by simp[Xq]
theorem yM (nx:S->Nat->S×Bool)(m:Nat)(x:S):(Xf nx m x).length=m:=by simp[Xf]
end
end Go.Am
namespace Go.Am
open Go
variable [ZZ]
set_option maxRecDepth 100000
set_option maxHeartbeats 8000000
def PS (S:List Step)(m:Nat):List RN:=PZ (fun x y=>(U7 S x y).1) m (Wu S m+1) 0 [qa S]
theorem rI0 {S:List Step}(h:YN S){m:Nat}:Cw (fun x y=>(U7 S x y).1) m (Nd S m) 0 [qa S] :=
 ⟨by simp,fun x hx=>by rw[ajm.1 hx];exact (Ry h).2,aji _,fun j hj=>by omega⟩
theorem rIn {S:List Step}(h:YN S){m:Nat}:∀x,Nd S m x->∀y,y<m->Nd S m (U7 S x y).1:=fun x hx y hy=>(Rz h hx hy).2.2
theorem Fs {S:List Step}(h:YN S)(m:Nat):Cw (fun x y=>(U7 S x y).1) m (Nd S m) (PS S m).length (PS S m)/\(PS S m).length<=Wu S m/\∃R,PS S m=qa S::R:=by
 obtain⟨a,b,R,e⟩:=QU (n:=Wu S m) (κ:=pO S m) (rIn h) (fun x=>vY h) (fun x y=>Ck h) (Wu S m+1) 0 [qa S] (rI0 h) (by omega);exact⟨a,b,R,e⟩
theorem kY (lines:Int){S:Type} [DecidableEq S] (nx:S->Nat->S×Bool)(L:List S):VQ (PR lines nx L)=.agg [.int .i64 lines,ZG true (L.map fun x=>AV.fz (ZA (Xq nx L (2^lines.toNat) x))),ZG true (L.map fun x=>AV.fz (ZB (Xf nx (2^lines.toNat) x)))]:=by
 rw[WT,U6,Xd,PR];simp only[List.map_map];have e1:∀x:S,(Zi∘fun x:S=>(false,NU (Xq nx L (2^lines.toNat) x))) x=AV.fz (ZA (Xq nx L (2^lines.toNat) x)):=fun x=>by simp only[Function.comp,Zi,QD];try rfl
 have e2:∀x:S,(Zq∘fun x:S=>(false,Xf nx (2^lines.toNat) x)) x=AV.fz (ZB (Xf nx (2^lines.toNat) x)):=fun x=>by simp only[Function.comp,Zq,QD];try rfl
 rw[ajV (fun x _=>e1 x),ajV (fun x _=>e2 x)]
end Go.Am
namespace Go.Am
open Go
variable [ZZ]
set_option maxRecDepth 100000
set_option maxHeartbeats 4000000
def RX (n:Nat):Nat:=min n 65537
theorem nH {X Y:Nat}(hX:1<=X)(hY:1<=Y):Iq (RX X:Nat) (RX Y:Nat)=((RX (X*Y):Nat):Int):=by
 have h1:RX X<=65537:=Nat.min_le_right _ _;have h2:RX Y<=65537:=Nat.min_le_right _ _;have h3:RX X*RX Y<=65537*65537:=Nat.mul_le_mul h1 h2;have h4:((RX X:Nat):Int)*((RX Y:Nat):Int)=((RX X*RX Y:Nat):Int):=by push_cast;rfl
 unfold Iq;rw[h4,wrap_i64 (by omega) (by omega)];have h5:min ((RX X*RX Y:Nat):Int) 65537=((min (RX X*RX Y) 65537:Nat):Int):=by omega
 rw[h5]
 congr 1
 by_cases hx:X<=65537
 ·by_cases hy:Y<=65537
  ·have e1:RX X=X:=Nat.min_eq_left hx;have e2:RX Y=Y:=Nat.min_eq_left hy;rw[e1,e2];rfl
  ·have e2:RX Y=65537:=Nat.min_eq_right (by omega);have k1:1<=RX X:=by unfold RX;omega
   have k2:1*65537<=RX X*65537:=aj7 _ k1;have k3:1*65537<=X*Y:=Nat.mul_le_mul hX (by omega);rw[e2];unfold RX at *;omega
 ·have e1:RX X=65537:=Nat.min_eq_right (by omega);have k1:1<=RX Y:=by unfold RX;omega
  have k2:65537*1<=65537*RX Y:=Nat.mul_le_mul_left _ k1;have k3:65537*1<=X*Y:=Nat.mul_le_mul (by omega) hY;rw[e1];unfold RX at *;omega
theorem rU {k:X6}{a b mi ma:Int}{p:X6}{nl:Bool}{kids:List ZX}(h:(ZX.mk k a b mi ma p nl kids).wf):(Zy k).leaf=!XJ k:=by
 rw[QV h];rw[ZX.wf] at h;have hk:=h.2.2.2.2.2.2.1;generalize Zy k=d at *
 cases d <;> first|rfl|(simp[Kd.known] at hk)
theorem HG {c:ZX}(h:c.wf):1<=WG c/\WG c<=65537/\WZ (Zy c.kind) c=(WG c:Int):=by
 have e:=v9 h;have h1:=h.Cz.mi;have h2:=h.Cz.ma;have e2:WZ (Zy c.kind) c=(WG c:Int):=by
  unfold WG WZ
  cases Zy c.kind <;> simp only
  all_goals try rw[wrap_i64 (by omega) (by omega)]
  all_goals omega
 generalize WG c=z at *;refine⟨?_,?_,e2⟩
 all_goals
  cases hd:Zy c.kind <;> rw[hd] at e <;> simp only at e <;> omega
theorem K6:∀(l:List Nat),(∀x∈l,1<=x)->1<=Yv l
 |[],_=>ajg 1
 |x::l,h=>by
  rw[Yv];exact Nat.mul_pos (h x (aba ..)) (K6 l fun y hy=>h y (aab _ hy))
theorem uA {c:ZX}(h:c.wf):1<=Yv ((Wd c).map WG):=K6 _ fun x hx=>by
 obtain⟨y,hy,rfl⟩:=ajs.1 hx;exact (HG (PF c h y hy).1).1
theorem uz:∀(l:List ZX),(∀c∈l,c.wf)->(∀c∈l,F8 c=((RX (Yv ((Wd c).map WG)):Nat):Int))->∀X,1<=X->Oa l (RX X:Nat)=((RX (X*Yv ((ZQ l).map WG)):Nat):Int)
 |[],_,_,X,_=>by rw[Oa,ZQ,List.map_nil,Yv,ajj]
 |c::l,hw,h,X,hX=>by
  have h1:=uA (hw c (aba ..));rw[Oa,h c (aba ..),nH hX h1,uz l (fun x hx=>hw x (aab _ hx)) (fun x hx=>h x (aab _ hx)) _ (Nat.mul_pos hX h1),ZQ,ajA,RR,Nat.mul_assoc]
theorem aax:∀c:ZX,c.wf->F8 c=((RX (Yv ((Wd c).map WG)):Nat):Int):=by
 intro c
 induction c using ZX.ind with
 |h k a b mi ma p nl kids ih =>
  intro QZ;have Qa:=rU QZ;have uN:=HG QZ;have Kb:=QZ;rw[ZX.wf] at Kb;have RT:∀x∈kids,x.wf:=Kb.2.2.2.2.2.2.2.2.2.2.2.2;rw[F8,Wd,Qa]
  cases hk:XJ k with
  |true =>
   have:=uz kids RT (fun c hc=>ih c hc (RT c hc)) 1 (ajg 1);rw[ajB] at this;exact this
  |false =>
   obtain⟨h1,h2,h3⟩:=uN;show WZ (Zy k) _=_;rw[show WZ (Zy k) (.mk k a b mi ma p nl kids)=(WG (.mk k a b mi ma p nl kids):Int) from h3];simp only[cond_false,aju,List.map_nil,Yv,ajj];unfold RX;omega
theorem EG:∀(l:List Step),(∀s∈l,s.cond.wf)->(∀s∈l,1<=s.times/\s.times<=64)->(∀s∈l,0<=s.within/\s.within<=255)->∀(X x:Nat),1<=X->x+l.length*16384<=2^40 ->
  WX l (RX X:Nat) (x:Nat)=(((RX (X*Yv ((ZQ (l.map Step.cond)).map WG)):Nat):Int),((x+VC l:Nat):Int))/\VC l<=l.length*16384
 |[],_,_,_,X,x,_,_=>⟨by rw[WX,List.map_nil,ZQ,List.map_nil,Yv,ajj,VC,Nat.add_zero],aji _⟩
 |s::l,hw,ht,hi,X,x,hX,hx=>by
  have h1:=uA (hw s (aba ..));obtain⟨t1,t2⟩:=ht s (aba ..);obtain⟨w1,w2⟩:=hi s (aba ..);have e1:((s.times.toNat:Nat):Int)=s.times:=by omega
  have e2:((s.within.toNat:Nat):Int)=s.within:=by omega
  have m1:s.times.toNat*(s.within.toNat+1)<=64*256:=Nat.mul_le_mul (by omega) (by omega);have e3:s.times*(s.within+1)=((s.times.toNat*(s.within.toNat+1):Nat):Int):=by rw[<-e1,<-e2];push_cast;simp only[ajD]
  rw[ajk] at hx;have e4:IntKind.i64.wrap ((x:Int)+IntKind.i64.wrap (s.times*IntKind.i64.wrap (s.within+1)))=((x+s.times.toNat*(s.within.toNat+1):Nat):Int):=by
   rw[wrap_i64 (n:=s.within+1) (by omega) (by omega),e3,wrap_i64 (n:=((s.times.toNat*(s.within.toNat+1):Nat):Int)) (by omega) (by omega),wrap_i64 (by omega) (by omega)];push_cast;rfl
  obtain⟨k1,k2⟩:=EG l (fun y hy=>hw y (aab _ hy)) (fun y hy=>ht y (aab _ hy)) (fun y hy=>hi y (aab _ hy)) (X*Yv ((Wd s.cond).map WG)) (x+s.times.toNat*(s.within.toNat+1)) (Nat.mul_pos hX h1) (by omega);refine⟨?_,by rw[VC,ajk];omega⟩;rw[WX,aax s.cond (hw s (aba ..)),nH hX h1,e4,k1,aju,ZQ,ajA,RR,Nat.mul_assoc,VC,ajf]
theorem uy {p:Prog}(h:p.ok)(QZ:∀s∈p.steps,s.cond.wf)(hl:p.lines<=4){n:Nat}(hn:n<=400)(hz:Rt p<=n):Wu p.steps (2^p.lines.toNat)<=n:=by
 have zf:=h.lines.1;have jG:IntKind.i64.wrap ((2:Int)^p.lines.toNat+1)=((RX (2^p.lines.toNat+1):Nat):Int):=by
  have:p.lines.toNat=1\/p.lines.toNat=2\/p.lines.toNat=3\/p.lines.toNat=4:=by omega
  rcases this with h|h|h|h <;> rw[h] <;> decide
 have hm:1<=2^p.lines.toNat+1:=Nat.succ_le_succ (aji _);have Qg:=h.few;obtain⟨k1,k2⟩:=EG p.steps QZ h.tm h.wi (2^p.lines.toNat+1) 0 hm (by omega);have hP:1<=Yv ((ZQ (p.steps.map Step.cond)).map WG):=K6 _ fun x hx=>by
  obtain⟨y,hy,rfl⟩:=ajs.1 hx;have hC:∀c∈p.steps.map Step.cond,c.wf:=fun c hc=>by
   obtain⟨s,hs,rfl⟩:=ajs.1 hc;exact QZ s hs
  obtain⟨c,hc,hy⟩:=PG hy;exact (HG (PF c (hC c hc) y hy).1).1
 have hT:1<=VC p.steps:=by
  cases hs:p.steps with
  |nil=>exact absurd hs h.ne
  |cons s l =>
   have h1:=h.tm s (by rw[hs];exact aba ..);rw[VC];have:1*1<=s.times.toNat*(s.within.toNat+1):=Nat.mul_le_mul (by omega) (by omega);omega
 unfold Rt at hz;rw[jG,show (0:Int)=((0:Nat):Int) from rfl,k1] at hz;simp only[ajr] at hz;have hQ:1<=(2^p.lines.toNat+1)*Yv ((ZQ (p.steps.map Step.cond)).map WG):=Nat.mul_pos hm hP;unfold Wu;rw[show (2^p.lines.toNat+1)*(VC p.steps*Yv ((ZQ (p.steps.map Step.cond)).map WG))=((2^p.lines.toNat+1)*Yv ((ZQ (p.steps.map Step.cond)).map WG))*VC p.steps by rw[Nat.mul_comm (VC _),Nat.mul_assoc]];generalize (2^p.lines.toNat+1)*Yv ((ZQ (p.steps.map Step.cond)).map WG)=Q at *;generalize VC p.steps=T at *;have e5:T<=131072:=by omega
 have h3:RX Q*T<=65537*131072:=Nat.mul_le_mul (Nat.min_le_right _ _) e5;have h4:((RX Q:Nat):Int)*((T:Nat):Int)=((RX Q*T:Nat):Int):=by push_cast;rfl
 unfold Iq at hz;rw[h4,wrap_i64 (by omega) (by omega)] at hz;have h5:RX Q*T<=n:=by omega
 have h6:RX Q*1<=RX Q*T:=Nat.mul_le_mul_left _ hT;have h7:RX Q=Q:=by unfold RX at *;omega
 rw[h7] at h5;exact h5
theorem oX (d:Kd)(c:ZX)(m last sym:Int):IG d c.norm m last sym=IG d c m last sym:=by
 have ha:c.norm.a=c.a:=by cases c;rw[ZX.norm];rfl
 have hb:c.norm.b=c.b:=by cases c;rw[ZX.norm];rfl
 have hi:c.norm.mi=c.mi:=by cases c;rw[ZX.norm];rfl
 have hx:c.norm.ma=c.ma:=by cases c;rw[ZX.norm];rfl
 have hr:=fun l t=>BP l t c
 unfold IG iw yC;rw[ha,hb,hi,hx]
 cases d <;> simp only[hr]
theorem Lj (last sym:Int):∀l:List ZX,(∀c∈l,∀ms,MS last sym c.norm ms=MS last sym c ms)->∀ms,Od last sym (Wy l) ms=Od last sym l ms
 |[],_,ms=>by rw[Wy]
 |c::l,h,ms=>by
  have ih:=Lj last sym l fun x hx=>h x (aab _ hx)
  rw[Wy,Od,Od,h c (aba ..),ih]
theorem sW (last sym:Int):∀(c:ZX) (ms:List Int),MS last sym c.norm ms=MS last sym c ms:=by
 intro c
 induction c using ZX.ind with
 |h k a b mi ma p nl kids ih =>
  intro ms;have h1:=Lj last sym kids fun x hx=>ih x hx
  have h2:=oX (Zy k) (.mk k a b mi ma p nl kids) (ms.headD 0) last sym;rw[ZX.norm] at h2 ⊢;rw[MS,MS,h1,h2]
theorem NI (S:List Step):(S.map Step.norm).map Step.cond=Wy (S.map Step.cond):=by
 rw[Te,List.map_map,List.map_map];rfl
theorem vA (S:List Step):Wn (S.map Step.norm)=Wn S:=by
 funext i
 unfold Wn;rw[ajv]
 cases S[i]? <;> rfl
theorem iu (S:List Step):Tm (S.map Step.norm)=Tm S:=by
 funext i
 unfold Tm;rw[ajv]
 cases S[i]? <;> rfl
theorem IF (S:List Step):U7 (S.map Step.norm)=U7 S:=by
 funext x y
 unfold U7;rw[vA,iu,aje,NI,Lj _ _ _ fun c _=>sW _ _ c]
theorem MQ:∀l:List ZX,Zs (Wy l)=Zs l
 |[]=>by rw[Wy]
 |c::l=>by rw[Wy,Zs,Zs,MP,MQ l]
theorem oW (S:List Step):qa (S.map Step.norm)=qa S:=by
 unfold qa;rw[NI,MQ]
theorem oV (c:ZX):WG c.norm=WG c:=by
 cases c
 rw[ZX.norm];unfold WG WZ;rfl
theorem IE:∀l:List ZX,(∀c∈l,(Wd c.norm).map WG=(Wd c).map WG)->(ZQ (Wy l)).map WG=(ZQ l).map WG
 |[],_=>by rw[Wy]
 |c::l,h=>by rw[Wy,ZQ,ZQ,ajA,ajA,h c (aba ..),IE l fun x hx=>h x (aab _ hx)]
theorem iq:∀c:ZX,(Wd c.norm).map WG=(Wd c).map WG:=by
 intro c
 induction c using ZX.ind with
 |h k a b mi ma p nl kids ih =>
  have h1:=IE kids fun x hx=>ih x hx
  have h2:=oV (.mk k a b mi ma p nl kids);rw[ZX.norm] at h2 ⊢;rw[Wd,Wd]
  cases XJ k with
  |true=>exact h1
  |false=>simp only[cond_false,aju,List.map_nil,h2]
theorem Fu:∀S:List Step,VC (S.map Step.norm)=VC S
 |[]=>rfl
 |s::S=>by rw[aju,VC,VC,Fu S];rfl
theorem Ft (S:List Step)(m:Nat):Wu (S.map Step.norm) m=Wu S m:=by
 unfold Wu;rw[Fu,NI,IE _ fun c _=>iq c]
theorem sV (S:List Step)(m:Nat):PS (S.map Step.norm) m=PS S m:=by
 unfold PS;rw[IF,oW,Ft]
theorem S4 {p:Prog}(h:p.ok):YN p.steps:=by
 refine⟨List.length_pos_iff.2 h.ne,h.wf,h.tm,h.wi,?_⟩;unfold Wn
 cases hs:p.steps[0]? with
 |none=>rfl
 |some s=>exact h.first s hs
theorem Dx {S:List Step}(h:YN S):YN (S.map Step.norm):=by
 refine⟨by rw[aje];exact h.ne,fun s hs=>?_,fun s hs=>?_,fun s hs=>?_,by rw[vA];exact h.w0⟩
 all_goals
  obtain⟨y,hy,rfl⟩:=ajs.1 hs
 ·exact vz _ (h.wf y hy)
 ·exact h.tm y hy
 ·exact h.wi y hy
theorem IC {S:List Step}(h:YN S){lines:Int}(hl:1<=lines/\lines<=4)(hz:Wu S (2^lines.toNat)<=512):YW (PR lines (U7 S) (PS S (2^lines.toNat)))=YW (PR lines (YX S) (S_ S (2^lines.toNat))):=by
 obtain⟨p1,p2,Rp,p3⟩:=RI h (2^lines.toNat);obtain⟨r1,r2,Rr,r3⟩:=Fs h (2^lines.toNat);have WY:=Ry h (m:=2^lines.toNat);have Sh:∀x∈PS S (2^lines.toNat),Nd S (2^lines.toNat) x/\Gr S x∈S_ S (2^lines.toNat):=by
  obtain⟨a,_,_⟩:=QU (nx:=fun x y=>(U7 S x y).1) (m:=2^lines.toNat) (n:=Wu S (2^lines.toNat)) (Inv:=fun x=>Nd S (2^lines.toNat) x/\Gr S x∈S_ S (2^lines.toNat)) (κ:=pO S (2^lines.toNat)) (fun x hx y hy=>by
   obtain⟨k1,k2,k3⟩:=Rz h hx.1 hy;refine⟨k3,?_⟩;rw[k1];obtain⟨j,hj,e⟩:=ajw.1 hx.2;rw[<-e];exact p1.cl j hj hj y hy) (fun x hx=>vY h hx.1) (fun x y hx hy=>Ck h hx.1 hy.1) (Wu S (2^lines.toNat)+1) 0 [qa S]
   ⟨by simp,fun x hx=>by rw[ajm.1 hx];exact⟨WY.2,by rw[WY.1,p3];exact aba ..⟩,aji _,fun j hj=>by omega⟩ (by omega)
  exact a.inv
 exact aP (Inv:=Si S (2^lines.toNat)) (aO:=Nd S (2^lines.toNat)) (ψ:=Gr S) (x0:=DS S) (x0':=qa S) hl p1 r1 (by rw[p3];rfl) (by rw[r3];rfl) WY.1 (fun x hx y hy=>⟨(Rz h hx hy).1,(Rz h hx hy).2.1⟩) (fun x hx=>(Sh x hx).2) (by omega) (by omega)
theorem Dw {S:List Step}(h:YN S){lines:Int}(hl:1<=lines/\lines<=4)(hz:Wu S (2^lines.toNat)<=512):(PR lines (YX S) (S_ S (2^lines.toNat))).ok:=by
 obtain⟨p1,p2,Rp,p3⟩:=RI h (2^lines.toNat);exact Dv hl p1 (by rw[p3];simp) (by omega)
theorem il {S:List Step}(h:YN S){lines:Int}(hl:1<=lines/\lines<=4)(hz:Wu S (2^lines.toNat)<=512):(PR lines (U7 S) (PS S (2^lines.toNat))).ok:=by
 obtain⟨p1,p2,Rp,p3⟩:=Fs h (2^lines.toNat);exact Dv hl p1 (by rw[p3];simp) (by omega)
end Go.Am
