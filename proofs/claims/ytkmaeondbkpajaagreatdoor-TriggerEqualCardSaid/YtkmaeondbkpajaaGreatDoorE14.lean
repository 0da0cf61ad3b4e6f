/- A part of the proof. -/
import Derived.Test.YtkmaeondbkpajaaGreatDoorE13
set_option linter.all false
set_option maxHeartbeats 8000000
set_option maxRecDepth 100000
namespace Go.Am
open Go
variable [Z8]
def Jy (A:Fa)(l:List Int):Nat->Nat->Nat->Nat
 |0,_,s=>s
 |r+1,t,s=>Jy A l r (t+1) (A.nx s (WL l t))
def WH (A:Fa)(l:List Int)(i:Nat):Bool:=A.fr (Jy A l i 0 0) (WL l i)
def HU (A:Fa)(l:List Int):∀(r t s:Nat),(IS A l r t s).1=((List.range r).filter λi=>A.fr (Jy A l i t s) (WL l (t+i))).map λi=>((t+i:Nat):Int)
 |0,_,_=>rfl
 |r+1,t,s=>by
  have hp:((λi=>A.fr (Jy A l i t s) (WL l (t+i)))∘Nat.succ)=λi=>A.fr (Jy A l i (t+1) (A.nx s (WL l t))) (WL l (t+1+i)):=funext λi=>by
   show A.fr (Jy A l i (t+1) (A.nx s (WL l t))) (WL l (t+(i+1)))=_;rw[show t+(i+1)=t+1+i by omega]
  have hg:((λi=>((t+i:Nat):Int))∘Nat.succ)=λi=>((t+1+i:Nat):Int):=funext λi=>by
   show ((t+(i+1):Nat):Int)=_;rw[show t+(i+1)=t+1+i by omega]
  rw[IS,HU A l r (t+1),List.range_succ_eq_map,List.filter_cons,List.filter_map,hp];have e3:A.fr (Jy A l 0 t s) (WL l (t+0))=A.fr s (WL l t):=rfl;simp only[e3]
  cases A.fr s (WL l t) with
  |true =>
   simp only[cond_true,if_true,aqe,aqY,hg];rfl
  |false =>
   simp only[cond_false,aqa,if_false,aqY,hg]
def PR (A:Fa)(l:List Int):(IS A l l.length 0 0).1=((List.range l.length).filter (WH A l)).map λi=>((i:Nat):Int):=by
 rw[HU];simp only[ap4];rfl
def pj {A Q:Fa}{m:Nat}{R:Nat->Nat->Prop}{l:List Int}(h:∀s q x,R s q->x<m->R (A.nx s x) (Q.nx q x)):∀(r t s q:Nat),(∀i,i<r->WL l (t+i)<m)->R s q->R (Jy A l r t s) (Jy Q l r t q)
 |0,_,_,_,_,h0=>h0
 |r+1,t,s,q,hl,h0=>pj h r (t+1) _ _ (λi hi=>by have:=hl (i+1) J;rwa [show t+(i+1)=t+1+i by omega] at this) (h _ _ _ h0 (by have:=hl 0 J;rwa [Nat.add_zero] at this))
def ph:∀{l:List Nat} {c:Nat},c∈l->l[WR l c]? = some c
 |x::l,c,h=>by
  rw[WR]
  cases hx:x==c with
  |true =>
   have:x=c:=by simpa using hx
   simp[this]
  |false =>
   have ZB:¬x=c:=by simpa using hx
   simp only[cond_false,aqv];refine ph ?_;rcases ap9.1 h with h|h
   ·exact absurd h.symm ZB
   ·exact h
def IQ:∀(cs st:List Nat),(st.map id).Nodup->∀x,x<cs.length->(YW id cs st).1[(YW id cs st).2.getD x 0]? = cs[x]?
 |[],_,_,_,hx=>by simp at hx
 |c::cs,st,h,x,hx=>by
  have h2:=U9 (c::cs) st h;rw[YW]
  cases hd:decide (WR (st.map id) (id c)<st.length) with
  |true =>
   have Qr:WR (st.map id) (id c)<st.length:=by simpa using hd
   simp only[cond_true];obtain⟨n1,n2,n3,n4,n5⟩:=U9 cs st h
   cases x with
   |zero =>
    simp only[List.getD_cons_zero,List.getElem?_cons_zero];rw[n3 _ Qr];have hm:c∈st:=by
     have:=(QW (st.map id) (id c)).1 (by rw[ala];exact Qr)
     rwa [List.map_id] at this
    rw[List.map_id];exact ph hm
   |succ x =>
    simp only[List.getD_cons_succ,aqv];exact IQ cs st h x (by rw[ap1] at hx;omega)
  |false =>
   have Qr:¬WR (st.map id) (id c)<(st.map id).length:=by rw[ala];simpa using hd
   rw[QW,List.map_id] at Qr;have Ax:((st++[c]).map id).Nodup:=by
    rw[List.map_id,List.nodup_append];rw[List.map_id] at h;refine⟨h,by simp,λa ha b hb=>?_⟩;rw[apY] at hb;rintro rfl;rw[hb] at ha;exact Qr ha
   simp only[cond_false];obtain⟨n1,n2,n3,n4,n5⟩:=U9 cs (st++[c]) Ax
   cases x with
   |zero =>
    simp only[List.getD_cons_zero,List.getElem?_cons_zero];rw[n3 _ (by rw[ann];simp)];simp
   |succ x =>
    simp only[List.getD_cons_succ,aqv];exact IQ cs (st++[c]) Ax x (by rw[ap1] at hx;omega)
def PW {n:Nat}:∀(cs st:List Nat),(∀a∈cs,a<n)->(∀a∈st,a<n)->∀a∈(YW id cs st).1,a<n
 |[],st,_,h=>h
 |c::cs,st,h1,h2=>by
  rw[YW]
  cases decide (WR (st.map id) (id c)<st.length) with
  |true=>exact PW cs st (λa ha=>h1 a (aab _ ha)) h2
  |false =>
   exact PW cs (st++[c]) (λa ha=>h1 a (aab _ ha)) λa ha=>by
    rcases aqm.1 ha with h|h
    ·exact h2 a h
    ·rw[apY.1 h];exact h1 c (aba ..)
def Cd {row:Nat->List Nat}{n:Nat}(TK:∀a,a<n->∀b∈row a,b<n):∀(f i:Nat) (st:List Nat),(st.map id).Nodup->(∀a∈st,a<n)->i<=st.length->n+1<=f+i ->
  ∃fin:List Nat,(∀j,j<st.length->fin[j]? = st[j]?)/\st.length<=fin.length/\fin.length<=n/\(∀a∈fin,a<n)/\(Vs id row f i st).map (·.1)=fin.drop i/\∀e∈Vs id row f i st,e.2.length=(row e.1).length/\∀x,x<(row e.1).length->fin[e.2.getD x 0]? = (row e.1)[x]?
 |0,i,st,h,hn,hi,hf=>by
  have:=Wj h hn;omega
 |f+1,i,st,h,hn,hi,hf=>by
  rw[Vs]
  cases hs:st[i]? with
  |none =>
   have:st.length<=i:=List.getElem?_eq_none_iff.1 hs;exact⟨st,λ_ _=>rfl,api _,Wj h hn,hn,by rw[aqV this];rfl,λe he=>by simp at he⟩
  |some s =>
   have DR:i<st.length:=(apX.1 hs).1;have hsn:=hn s (aqn hs);obtain⟨n1,n2,n3,n4,n5⟩:=U9 (row s) st h;have CH:=IQ (row s) st h;obtain⟨fin,p1,p2,p3,p4,p5,p6⟩:=Cd TK f (i+1) (YW id (row s) st).1 n1 (PW _ _ (TK s hsn) hn) J J;have e1:∀j,j<st.length->fin[j]? = st[j]? := λj hj=>(p1 j J).trans (n3 j hj)
   refine⟨fin,e1,J,p3,p4,?_,λe he=>?_⟩
   ·rw[aqe,p5];have hif:i<fin.length:=J;rw[aea hif];have:=e1 i DR;rw[hs,aaa hif] at this;rw[aqb this]
   ·rcases ap9.1 he with rfl|he
    ·refine⟨n4,λx hx=>?_⟩;simp only at hx ⊢;rw[<-CH x hx];refine p1 _ ?_;rw[ap6,aaa (by rw[n4];exact hx)];exact n5 _ (adm _)
    ·exact p6 e he
structure Mv (a:Zv)(fin:List Nat):Prop where
 le:fin.length<=a.fa.n
 pos:0<fin.length
 lt:∀c∈fin,c<a.fa.n
 can:∀c∈fin,Zb a.fa c=c
 z:fin[0]? = some (Zb a.fa 0)
 len:(VJ a.fa).length=fin.length
 key:∀i (h:i<(VJ a.fa).length),fin[i]? = some (VJ a.fa)[i].1
 row:∀i (h:i<(VJ a.fa).length),(VJ a.fa)[i].2.length=a.fa.m/\∀x,x<a.fa.m->fin[(VJ a.fa)[i].2.getD x 0]? = some (Zb a.fa (a.fa.nx (VJ a.fa)[i].1 x))
def IW {Q:Nat->Prop}{row:Nat->List Nat}(hr:∀s,Q s->∀a∈row s,Q a):∀(f i:Nat) (st:List Nat),(∀a∈st,Q a)->∀x∈Vs id row f i st,Q x.1
 |0,_,_,_,x,hx=>by simp[Vs] at hx
 |f+1,i,st,h,x,hx=>by
  rw[Vs] at hx
  cases hs:st[i]? with
  |none=>rw[hs] at hx;simp at hx
  |some s =>
   rw[hs] at hx;have hq:=h s (aqn hs);rcases ap9.1 hx with rfl|hx
   ·exact hq
   ·refine IW hr f (i+1) _ ?_ x hx;have:=(RA (κ:=id) (ρ:=id) (Q:=Q) (λ_ _ _ _=>Iff.rfl) (row s) st (hr s hq) h).2;exact this
def yT {a:Zv}(ha:a.ok):∃fin,Mv a fin:=by
 have hA:=ha.UU;have YA:∀s,s<a.fa.n->Zb a.fa s<a.fa.n:=λs hs=>aqJ ((X8 a.fa).le s) hs
 have TK:∀s,s<a.fa.n->∀b∈(XR a.fa s).map (Zb a.fa),b<a.fa.n:=λs hs b hb=>by
  obtain⟨c,hc,rfl⟩:=ap0.1 hb;obtain⟨x,hx,rfl⟩:=ap0.1 hc;exact YA _ (hA.lt s x hs (aqg.1 hx))
 have qg:∀s,((XR a.fa s).map (Zb a.fa)).length=a.fa.m:=λs=>by simp[XR]
 obtain⟨fin,p1,p2,p3,p4,p5,p6⟩:=Cd (row:=λc=>(XR a.fa c).map (Zb a.fa)) (n:=a.fa.n) TK (a.fa.n+1) 0 [Zb a.fa 0] No (λc hc=>by rw[apY.1 hc];exact YA 0 hA.pos) No J;rw[aqy] at p5;have hL:VJ a.fa=Vs id (λc=>(XR a.fa c).map (Zb a.fa)) (a.fa.n+1) 0 [Zb a.fa 0]:=rfl;rw[<-hL] at p5 p6;have hlen:(VJ a.fa).length=fin.length:=by rw[<-p5,ala]
 have ya:=IW (Q:=λc=>Zb a.fa c=c) (row:=λc=>(XR a.fa c).map (Zb a.fa)) (λs _ b hb=>by
  obtain⟨c,hc,rfl⟩:=ap0.1 hb;exact (X8 a.fa).fix c) (a.fa.n+1) 0 [Zb a.fa 0] (λc hc=>by rw[apY.1 hc];exact (X8 a.fa).fix 0)
 rw[<-hL] at ya;refine⟨fin,p3,by simp only[aqh] at p2;omega,p4,λc hc=>?_,p1 0 No,hlen,λi hi=>?_,λi hi=>?_⟩
 ·rw[<-p5] at hc;obtain⟨e,he,rfl⟩:=ap0.1 hc;exact ya e he
 ·rw[<-p5,aqc,aaa hi];rfl
 ·obtain⟨q1,q2⟩:=p6 _ (adm hi);rw[qg] at q1 q2;refine⟨q1,λx hx=>?_⟩;rw[q2 x hx];simp[XR,hx]
def Mv.nx {a:Zv}{fin:List Nat}(h:Mv a fin){i x:Nat}(hi:i<fin.length)(hx:x<a.fa.m):(ZS a).fa.nx i x=((VJ a.fa)[i]'(by rw[h.len];exact hi)).2.getD x 0:=by
 have QD:i<(VJ a.fa).length:=by rw[h.len];exact hi
 have L7:x<(VJ a.fa)[i].2.length:=by rw[(h.row i QD).1];exact hx
 show ((((VJ a.fa).map λx=>(false,Ur x.2)).getD i (true,[])).2.getD x 0).toNat=_;have e:((VJ a.fa).map λx=>(false,Ur x.2)).getD i (true,[])=(false,Ur (VJ a.fa)[i].2):=by
  rw[Y' (by rw[ala];exact QD),List.getElem_map]
 rw[e];show ((Ur (VJ a.fa)[i].2).getD x 0).toNat=_;rw[Y' (by rw[VG];exact L7),Y' L7];simp[Ur]
def Mv.fr {a:Zv}{fin:List Nat}(h:Mv a fin){i x:Nat}(hi:i<fin.length)(hx:x<a.fa.m):(ZS a).fa.fr i x=a.fa.fr (fin[i]) x:=by
 have QD:i<(VJ a.fa).length:=by rw[h.len];exact hi
 have hk:=h.key i QD;rw[aaa hi] at hk;show (((VJ a.fa).map λx=>(false,Wh a.fa x.1)).getD i (true,[])).2.getD x false=_;have e:((VJ a.fa).map λx=>(false,Wh a.fa x.1)).getD i (true,[])=(false,Wh a.fa (VJ a.fa)[i].1):=by
  rw[Y' (by rw[ala];exact QD),List.getElem_map]
 rw[e,aqb hk];show (Wh a.fa (VJ a.fa)[i].1).getD x false=_;rw[Y' (by rw[PC];exact hx),oD _ _ hx]
def lu (a:Zv):(ZS a).fa.n=(VJ a.fa).length:=by
 show ((VJ a.fa).map λx=>(false,Ur x.2)).length=_;rw[ala]
def VW {a:Zv}(ha:a.ok):(ZS a).ok:=by
 obtain⟨fin,h⟩:=yT ha;have Pm:=ha.few;have hle:=h.le;have hlen:=h.len;have Hk:=h.pos;have hn:a.fa.n=a.next.length:=rfl;have hln:(ZS a).next.length=(VJ a.fa).length:=by simp[ZS]
 refine⟨ha.lines,J,J,by simp[ZS],λi hi=>?_,λi hi=>?_⟩
 ·have QD:i<(VJ a.fa).length:=J;obtain⟨r1,r2⟩:=h.row i QD;rw[hln];simp only[ZS,List.getElem_map];refine⟨by rw[VG,r1];rfl,λy hy=>?_⟩;simp only[Ur] at hy;obtain⟨k,hk,rfl⟩:=ap0.1 hy;obtain⟨x,hx,rfl⟩:=aqd.1 hk;have:=r2 x (by rw[<-r1];exact hx);rw[Y' hx] at this;have:=(apX.1 this).1;omega
 ·simp only[ZS,List.getElem_map];rw[PC];rfl
def Ji (a:Zv)(fin:List Nat)(s i:Nat):Prop:=s<a.fa.n/\∃h:i<fin.length,fin[i]=Zb a.fa s
def Mv.nj {a:Zv}(ha:a.ok){fin:List Nat}(h:Mv a fin){s i x:Nat}(hs:Ji a fin s i)(hx:x<a.fa.m):(ZS a).fa.fr i x=a.fa.fr s x/\Ji a fin (a.fa.nx s x) ((ZS a).fa.nx i x):=by
 have hA:=ha.UU;obtain⟨RX,hi,he⟩:=hs;have QD:i<(VJ a.fa).length:=by rw[h.len];exact hi
 refine⟨by rw[h.fr hi hx,he,Aw hA RX hx],hA.lt s x RX hx,?_⟩;have YA:Zb a.fa s<a.fa.n:=aqJ ((X8 a.fa).le s) RX;have hE:=((WQ hA YA RX).1 ((X8 a.fa).fix s) x hx).2;have hk:=h.key i QD;rw[aaa hi,he] at hk;have hr:=(h.row i QD).2 x hx;rw[<-aqb hk,hE] at hr;rw[h.nx hi hx];obtain⟨q1,q2⟩:=apX.1 hr;exact⟨q1,q2⟩
def lr {a:Zv}(ha:a.ok){l:List Int}(hl:∀i,i<l.length->WL l i<a.fa.m):(IS (ZS a).fa l l.length 0 0).1=(IS a.fa l l.length 0 0).1:=by
 obtain⟨fin,h⟩:=yT ha;rw[PR,PR]
 congr 1
 refine List.filter_congr λi hi=>?_
 have hi:=aqg.1 hi;have h0:Ji a fin 0 0:=⟨ha.UU.pos,h.pos,by have:=h.z;rw[aaa h.pos] at this;exact aqb this⟩;have hs:=pj (A:=a.fa) (Q:=(ZS a).fa) (m:=a.fa.m) (R:=Ji a fin) (l:=l) (λs q x hq hx=>(h.nj ha hq hx).2) i 0 0 0 (λj hj=>by rw[ap4];exact hl j J) h0;exact (h.nj ha hs (hl i hi)).1
section
variable {a b:Zv}{f:Bool->Bool->Bool}{i x:Nat}
end
def Iy {row:Nat->List Nat}{n:Nat}(TK:∀a,a<n->∀b∈row a,b<n):∀(f f' i:Nat) (st:List Nat),(st.map id).Nodup->(∀a∈st,a<n)->i<=st.length->n+1<=f+i->n+1<=f'+i->Vs id row f i st=Vs id row f' i st
 |0,_,i,st,h,hn,hi,hf,_=>by
  have:=Wj h hn;omega
 |_+1,0,i,st,h,hn,hi,_,hf=>by
  have:=Wj h hn;omega
 |f+1,f'+1,i,st,h,hn,hi,hf,EL=>by
  rw[Vs,Vs]
  cases hs:st[i]? with
  |none=>rfl
  |some s =>
   have DR:i<st.length:=(apX.1 hs).1;have hsn:=hn s (aqn hs);obtain⟨n1,n2,_⟩:=U9 (row s) st h;simp only;rw[Iy TK f f' (i+1) _ n1 (PW _ _ (TK s hsn) hn) J J J]
def IZ {a q:Zv}(ha:a.ok)(hq:q.ok)(hl:q.lines=a.lines){ψ:Nat->Nat}(h0:Zb a.fa (ψ 0)=Zb a.fa 0)(YA:∀i,i<q.fa.n->ψ i<a.fa.n)
  (Vq:∀i x,i<q.fa.n->x<a.fa.m->Zb a.fa (ψ (q.fa.nx i x))=Zb a.fa (a.fa.nx (ψ i) x))(Qs:∀i x,i<q.fa.n->x<a.fa.m->q.fa.fr i x=a.fa.fr (ψ i) x):ZS q=ZS a:=by
 have hA:=ha.UU;have hQ:=hq.UU;have hm:q.fa.m=a.fa.m:=by show 2^q.lines.toNat=2^a.lines.toNat;rw[hl]
 have an4:∀i j,i<q.fa.n->j<q.fa.n->(Zb q.fa i=Zb q.fa j<->Zb a.fa (ψ i)=Zb a.fa (ψ j)):=λi j hi hj=>by
  constructor
  ·intro h;refine On (A:=a.fa) (B:=λu v=>u<a.fa.n/\v<a.fa.n/\∃i j,i<q.fa.n/\j<q.fa.n/\Zb q.fa i=Zb q.fa j/\Zb a.fa u=Zb a.fa (ψ i)/\Zb a.fa v=Zb a.fa (ψ j)) ⟨?_,?_,?_⟩ _ _ ⟨YA i hi,YA j hj,i,j,hi,hj,h,rfl,rfl⟩
   ·rintro u v ⟨h1,h2,_⟩;exact⟨h1,h2⟩
   ·rintro u v ⟨h1,h2,i,j,hi,hj,h,e1,e2⟩ x hx;rw[((WQ hA h1 (YA i hi)).1 e1 x hx).1,((WQ hA h2 (YA j hj)).1 e2 x hx).1,<-Qs i x hi hx,<-Qs j x hj hx];exact ((WQ hQ hi hj).1 h x (by rw[hm];exact hx)).1
   ·rintro u v ⟨h1,h2,i,j,hi,hj,h,e1,e2⟩ x hx;have L7:x<q.fa.m:=by rw[hm];exact hx
    exact⟨hA.lt u x h1 hx,hA.lt v x h2 hx,_,_,hQ.lt i x hi L7,hQ.lt j x hj L7,((WQ hQ hi hj).1 h x L7).2,by rw[((WQ hA h1 (YA i hi)).1 e1 x hx).2,Vq i x hi hx],by rw[((WQ hA h2 (YA j hj)).1 e2 x hx).2,Vq j x hj hx]⟩
  ·intro h;refine On (A:=q.fa) (B:=λu v=>u<q.fa.n/\v<q.fa.n/\Zb a.fa (ψ u)=Zb a.fa (ψ v)) ⟨λu v k=>⟨k.1,k.2.1⟩,?_,?_⟩ _ _ ⟨hi,hj,h⟩
   ·rintro u v ⟨hu,hv,h⟩ x hx;have L7:x<a.fa.m:=by rw[<-hm];exact hx
    rw[Qs u x hu L7,Qs v x hv L7];exact ((WQ hA (YA u hu) (YA v hv)).1 h x L7).1
   ·rintro u v ⟨hu,hv,h⟩ x hx;have L7:x<a.fa.m:=by rw[<-hm];exact hx
    refine⟨hQ.lt u x hu hx,hQ.lt v x hv hx,?_⟩;rw[Vq u x hu L7,Vq v x hv L7];exact ((WQ hA (YA u hu) (YA v hv)).1 h x L7).2
 obtain⟨e1,k1⟩:=min_eq hQ (cl:=Zb q.fa) λ_ _ _ _=>Iff.rfl
 have hr:∀s,s<q.fa.n->(λc=>(XR a.fa c).map (Zb a.fa)) (Zb a.fa (ψ s))=(XR q.fa s).map (λi=>Zb a.fa (ψ i))/\∀b∈XR q.fa s,b<q.fa.n:=λs hs=>by
  have LP:=YA s hs;refine⟨?_,λb hb=>?_⟩
  ·have DY:Zb a.fa (ψ s)<a.fa.n:=aqJ ((X8 a.fa).le _) LP;have he:=(WQ hA DY LP).1 ((X8 a.fa).fix (ψ s));simp only[XR,aqY];rw[hm];refine aqD λx hx=>?_
   have hx:=aqg.1 hx;show Zb a.fa (a.fa.nx (Zb a.fa (ψ s)) x)=Zb a.fa (ψ (q.fa.nx s x));rw[(he x hx).2,Vq s x hs hx]
  ·obtain⟨x,hx,rfl⟩:=ap0.1 hb;exact hQ.lt s x hs (aqg.1 hx)
 obtain⟨e2,_⟩:=Kw (κ:=Zb q.fa) (ρ:=λi=>Zb a.fa (ψ i)) (Q:=λi=>i<q.fa.n) an4 (row:=XR q.fa) (gk:=λc=>(XR a.fa c).map (Zb a.fa)) hr (q.fa.n+1+(a.fa.n+1)) 0 [0] λb hb=>by rw[apY.1 hb];exact hQ.pos
 obtain⟨e3,k3⟩:=Kw (κ:=Zb q.fa) (ρ:=Zb q.fa) (Q:=λi=>i<q.fa.n) (λ_ _ _ _=>Iff.rfl) (row:=XR q.fa) (gk:=λc=>(XR q.fa c).map (Zb q.fa)) (λs hs=>by
  refine⟨?_,λb hb=>?_⟩
  ·have DY:Zb q.fa s<q.fa.n:=aqJ ((X8 q.fa).le _) hs;have he:=(WQ hQ DY hs).1 ((X8 q.fa).fix s);simp only[XR,aqY];refine aqD λx hx=>?_
   exact (he x (aqg.1 hx)).2
  ·obtain⟨x,hx,rfl⟩:=ap0.1 hb;exact hQ.lt s x hs (aqg.1 hx)) (q.fa.n+1+(a.fa.n+1)) 0 [0] λb hb=>by rw[apY.1 hb];exact hQ.pos
 have ajD:∀s,s<a.fa.n->∀b∈(XR a.fa s).map (Zb a.fa),b<a.fa.n:=λs hs b hb=>by
  obtain⟨c,hc,rfl⟩:=ap0.1 hb;obtain⟨x,hx,rfl⟩:=ap0.1 hc;exact aqJ ((X8 a.fa).le _) (hA.lt s x hs (aqg.1 hx))
 have ajE:∀s,s<q.fa.n->∀b∈(XR q.fa s).map (Zb q.fa),b<q.fa.n:=λs hs b hb=>by
  obtain⟨c,hc,rfl⟩:=ap0.1 hb;obtain⟨x,hx,rfl⟩:=ap0.1 hc;exact aqJ ((X8 q.fa).le _) (hQ.lt s x hs (aqg.1 hx))
 have m1:VJ a.fa=(Vs (Zb q.fa) (XR q.fa) (q.fa.n+1+(a.fa.n+1)) 0 [0]).map λx=>(Zb a.fa (ψ x.1),x.2):=by
  rw[<-e2];show Vs id (λc=>(XR a.fa c).map (Zb a.fa)) (a.fa.n+1) 0 [Zb a.fa 0]=Vs id (λc=>(XR a.fa c).map (Zb a.fa)) (q.fa.n+1+(a.fa.n+1)) 0 [Zb a.fa (ψ 0)];rw[h0];exact Iy ajD _ _ 0 _ No (λc hc=>by rw[apY.1 hc];exact aqJ ((X8 a.fa).le _) hA.pos) No J J
 have m2:VJ q.fa=(Vs (Zb q.fa) (XR q.fa) (q.fa.n+1+(a.fa.n+1)) 0 [0]).map λx=>(Zb q.fa x.1,x.2):=by
  rw[<-e3];show Vs id (λc=>(XR q.fa c).map (Zb q.fa)) (q.fa.n+1) 0 [Zb q.fa 0]=Vs id (λc=>(XR q.fa c).map (Zb q.fa)) (q.fa.n+1+(a.fa.n+1)) 0 [Zb q.fa 0];exact Iy ajE _ _ 0 _ No (λc hc=>by rw[apY.1 hc];exact aqJ ((X8 q.fa).le _) hQ.pos) No J J
 unfold ZS;rw[m1,m2,hl];simp only[aqY,Function.comp_def];have an5:∀x∈Vs (Zb q.fa) (XR q.fa) (q.fa.n+1+(a.fa.n+1)) 0 [0],Wh q.fa (Zb q.fa x.1)=Wh a.fa (Zb a.fa (ψ x.1)):=λx hx=>by
  have hxn:=k3 x hx;unfold Wh;rw[hm];refine aqD λy hy=>?_
  have hy:=aqg.1 hy;rw[Aw hQ hxn (by rw[hm];exact hy),Aw hA (YA _ hxn) hy,Qs _ y hxn hy]
 congr 1
 exact aqD λx hx=>by rw[an5 x hx]
def bY {a q:Zv}(ha:a.ok)(hq:q.ok)(hl:q.lines=a.lines){ψ:Nat->Nat}(h0:ψ 0=0)(YA:∀i,i<q.fa.n->ψ i<a.fa.n)
  (Vq:∀i x,i<q.fa.n->x<a.fa.m->ψ (q.fa.nx i x)=a.fa.nx (ψ i) x)(Qs:∀i x,i<q.fa.n->x<a.fa.m->q.fa.fr i x=a.fa.fr (ψ i) x):ZS q=ZS a :=
 IZ ha hq hl (by rw[h0]) YA (λi x hi hx=>by rw[Vq i x hi hx]) Qs
end Go.Am
