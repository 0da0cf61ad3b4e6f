/- A part of the proof of a statement of this seat: the machine on which the program is read, and what it computes; for every input. -/
import Derived.Test.YtikiipfbkfgmbaaGreatDoorZ35
import Derived.Test.YtikiipfbkfgmbaaGreatDoorZ07
import Derived.Test.YtikiipfbkfgmbaaGreatDoorZ34
import Derived.Test.YtikiipfbkfgmbaaGreatDoorZ29
import Derived.Test.YtikiipfbkfgmbaaGreatDoorZ17
import Derived.Test.YtikiipfbkfgmbaaGreatDoorZ33
set_option linter.all false
namespace Go.Am
open Go
variable [Z4]
def stF (A:Fa)(l:List Int):Nat->Nat->Nat->Nat
 |0,_,s=>s
 |r+1,t,s=>stF A l r (t+1) (A.nx s (KM l t))
def anj (A:Fa)(l:List Int)(i:Nat):Bool:=A.fr (stF A l i 0 0) (KM l i)
theorem nc (A:Fa)(l:List Int):∀(r t s:Nat),(zb A l r t s).1=((List.range r).filter fun i=>A.fr (stF A l i t s) (KM l (t+i))).map fun i=>((t+i:Nat):Int)
 |0,_,_=>rfl
 |r+1,t,s=>by
  have hp:((fun i=>A.fr (stF A l i t s) (KM l (t+i)))∘Nat.succ)=fun i=>A.fr (stF A l i (t+1) (A.nx s (KM l t))) (KM l (t+1+i)):=funext fun i=>by
   show A.fr (stF A l i (t+1) (A.nx s (KM l t))) (KM l (t+(i+1)))=_;rw[show t+(i+1)=t+1+i by omega]
  have hg:((fun i=>((t+i:Nat):Int))∘Nat.succ)=fun i=>((t+1+i:Nat):Int):=funext fun i=>by
   show ((t+(i+1):Nat):Int)=_;rw[show t+(i+1)=t+1+i by omega]
  rw[zb,nc A l r (t+1),List.range_succ_eq_map,List.filter_cons,List.filter_map,hp];have e3:A.fr (stF A l 0 t s) (KM l (t+0))=A.fr s (KM l t):=rfl;simp only[e3]
  cases A.fr s (KM l t) with
  |true =>
   simp only[cond_true,if_true,alT,List.map_map,hg];rfl
  |false =>
   simp only[cond_false,ali,if_false,List.map_map,hg]
theorem aoF (A:Fa)(l:List Int):(zb A l l.length 0 0).1=((List.range l.length).filter (anj A l)).map fun i=>((i:Nat):Int):=by
 rw[nc];simp only[ald];rfl
theorem aoX {A Q:Fa}{m:Nat}{R:Nat->Nat->Prop}{l:List Int}(h:∀s q x,R s q->x<m->R (A.nx s x) (Q.nx q x)):∀(r t s q:Nat),(∀i,i<r->KM l (t+i)<m)->R s q->R (stF A l r t s) (stF Q l r t q)
 |0,_,_,_,_,h0=>h0
 |r+1,t,s,q,hl,h0=>aoX h r (t+1) _ _ (fun i hi=>by have:=hl (i+1) (by omega);rwa [show t+(i+1)=t+1+i by omega] at this) (h _ _ _ h0 (by have:=hl 0 (by omega);rwa [Nat.add_zero] at this))
theorem aoY:∀{l:List Nat} {c:Nat},c∈l->l[Xq l c]? = some c
 |x::l,c,h=>by
  rw[Xq]
  cases hx:x==c with
  |true =>
   have:x=c:=by simpa using hx
   simp[this]
  |false =>
   have ZC:¬x=c:=by simpa using hx
   simp only[cond_false,aml];refine aoY ?_;rcases alL.1 h with h|h
   ·exact absurd h.symm ZC
   ·exact h
theorem qf:∀(cs st:List Nat),(st.map id).Nodup->∀x,x<cs.length->(Zs id cs st).1[(Zs id cs st).2.getD x 0]? = cs[x]?
 |[],_,_,_,hx=>by simp at hx
 |c::cs,st,h,x,hx=>by
  have h2:=TF (c::cs) st h;rw[Zs]
  cases hd:decide (Xq (st.map id) (id c)<st.length) with
  |true =>
   have LR:Xq (st.map id) (id c)<st.length:=by simpa using hd
   simp only[cond_true];obtain⟨n1,n2,n3,n4,n5⟩:=TF cs st h
   cases x with
   |zero =>
    simp only[List.getD_cons_zero,List.getElem?_cons_zero];rw[n3 _ LR];have hm:c∈st:=by
     have:=(HT (st.map id) (id c)).1 (by rw[agC];exact LR)
     rwa [List.map_id] at this
    rw[List.map_id];exact aoY hm
   |succ x =>
    simp only[List.getD_cons_succ,aml];exact qf cs st h x (by rw[akd] at hx;omega)
  |false =>
   have LR:¬Xq (st.map id) (id c)<(st.map id).length:=by rw[agC];simpa using hd
   rw[HT,List.map_id] at LR;have EG:((st++[c]).map id).Nodup:=by
    rw[List.map_id,List.nodup_append];rw[List.map_id] at h;refine⟨h,by simp,fun a ha b hb=>?_⟩;rw[ake] at hb;rintro rfl;rw[hb] at ha;exact LR ha
   simp only[cond_false];obtain⟨n1,n2,n3,n4,n5⟩:=TF cs (st++[c]) EG
   cases x with
   |zero =>
    simp only[List.getD_cons_zero,List.getElem?_cons_zero];rw[n3 _ (by rw[agy];simp)];simp
   |succ x =>
    simp only[List.getD_cons_succ,aml];exact qf cs (st++[c]) EG x (by rw[akd] at hx;omega)
theorem JO {n:Nat}:∀(cs st:List Nat),(∀a∈cs,a<n)->(∀a∈st,a<n)->∀a∈(Zs id cs st).1,a<n
 |[],st,_,h=>h
 |c::cs,st,h1,h2=>by
  rw[Zs]
  cases decide (Xq (st.map id) (id c)<st.length) with
  |true=>exact JO cs st (fun a ha=>h1 a (aab _ ha)) h2
  |false =>
   exact JO cs (st++[c]) (fun a ha=>h1 a (aab _ ha)) fun a ha=>by
    rcases amb.1 ha with h|h
    ·exact h2 a h
    ·rw[ake.1 h];exact h1 c (aba ..)
theorem aos {row:Nat->List Nat}{n:Nat}(M_:∀a,a<n->∀b∈row a,b<n):∀(f i:Nat) (st:List Nat),(st.map id).Nodup->(∀a∈st,a<n)->i<=st.length->n+1<=f+i ->
  ∃fin:List Nat,(∀j,j<st.length->fin[j]? = st[j]?)/\st.length<=fin.length/\fin.length<=n/\(∀a∈fin,a<n)/\(UE id row f i st).map (·.1)=fin.drop i/\∀e∈UE id row f i st,e.2.length=(row e.1).length/\∀x,x<(row e.1).length->fin[e.2.getD x 0]? = (row e.1)[x]?
 |0,i,st,h,hn,hi,hf=>by
  have:=Vn h hn;omega
 |f+1,i,st,h,hn,hi,hf=>by
  rw[UE]
  cases hs:st[i]? with
  |none =>
   have:st.length<=i:=List.getElem?_eq_none_iff.1 hs;exact⟨st,fun _ _=>rfl,agB _,Vn h hn,hn,by rw[List.drop_eq_nil_of_le this];rfl,fun e he=>by simp at he⟩
  |some s =>
   have ra:i<st.length:=(alQ.1 hs).1;have hsn:=hn s (amu hs);obtain⟨n1,n2,n3,n4,n5⟩:=TF (row s) st h;have xH:=qf (row s) st h;obtain⟨fin,p1,p2,p3,p4,p5,p6⟩:=aos M_ f (i+1) (Zs id (row s) st).1 n1 (JO _ _ (M_ s hsn) hn) (by omega) (by omega);have e1:∀j,j<st.length->fin[j]? = st[j]? := fun j hj=>(p1 j (by omega)).trans (n3 j hj)
   refine⟨fin,e1,by omega,p3,p4,?_,fun e he=>?_⟩
   ·rw[alT,p5];have hif:i<fin.length:=by omega
    rw[abc hif];have:=e1 i ra;rw[hs,aaa hif] at this;rw[Option.some.inj this]
   ·rcases alL.1 he with rfl|he
    ·refine⟨n4,fun x hx=>?_⟩;simp only at hx ⊢;rw[<-xH x hx];refine p1 _ ?_;rw[alM,aaa (by rw[n4];exact hx)];exact n5 _ (adm _)
    ·exact p6 e he
structure dM (a:Yi)(fin:List Nat):Prop where
 le:fin.length<=a.fa.n
 pos:0<fin.length
 lt:∀c∈fin,c<a.fa.n
 can:∀c∈fin,YM a.fa c=c
 z:fin[0]? = some (YM a.fa 0)
 len:(U7 a.fa).length=fin.length
 key:∀i (h:i<(U7 a.fa).length),fin[i]? = some (U7 a.fa)[i].1
 row:∀i (h:i<(U7 a.fa).length),(U7 a.fa)[i].2.length=a.fa.m/\∀x,x<a.fa.m->fin[(U7 a.fa)[i].2.getD x 0]? = some (YM a.fa (a.fa.nx (U7 a.fa)[i].1 x))
theorem aou {Q:Nat->Prop}{row:Nat->List Nat}(hr:∀s,Q s->∀a∈row s,Q a):∀(f i:Nat) (st:List Nat),(∀a∈st,Q a)->∀x∈UE id row f i st,Q x.1
 |0,_,_,_,x,hx=>by simp[UE] at hx
 |f+1,i,st,h,x,hx=>by
  rw[UE] at hx
  cases hs:st[i]? with
  |none=>rw[hs] at hx;simp at hx
  |some s =>
   rw[hs] at hx;have hq:=h s (amu hs);rcases alL.1 hx with rfl|hx
   ·exact hq
   ·refine aou hr f (i+1) _ ?_ x hx;have:=(RT (κ:=id) (ρ:=id) (Q:=Q) (fun _ _ _ _=>Iff.rfl) (row s) st (hr s hq) h).2;exact this
theorem anr {a:Yi}(ha:a.ok):∃fin,dM a fin:=by
 have hA:=ha.M9;have Yh:∀s,s<a.fa.n->YM a.fa s<a.fa.n:=fun s hs=>amw ((WM a.fa).le s) hs
 have M_:∀s,s<a.fa.n->∀b∈(XM a.fa s).map (YM a.fa),b<a.fa.n:=fun s hs b hb=>by
  obtain⟨c,hc,rfl⟩:=alN.1 hb;obtain⟨x,hx,rfl⟩:=alN.1 hc;exact Yh _ (hA.lt s x hs (al4.1 hx))
 have ot:∀s,((XM a.fa s).map (YM a.fa)).length=a.fa.m:=fun s=>by simp[XM]
 obtain⟨fin,p1,p2,p3,p4,p5,p6⟩:=aos (row:=fun c=>(XM a.fa c).map (YM a.fa)) (n:=a.fa.n) M_ (a.fa.n+1) 0 [YM a.fa 0] (by simp) (fun c hc=>by rw[ake.1 hc];exact Yh 0 hA.pos) (by simp) (by omega);rw[amd] at p5;have hL:U7 a.fa=UE id (fun c=>(XM a.fa c).map (YM a.fa)) (a.fa.n+1) 0 [YM a.fa 0]:=rfl;rw[<-hL] at p5 p6;have hlen:(U7 a.fa).length=fin.length:=by rw[<-p5,agC]
 have anf:=aou (Q:=fun c=>YM a.fa c=c) (row:=fun c=>(XM a.fa c).map (YM a.fa)) (fun s _ b hb=>by
  obtain⟨c,hc,rfl⟩:=alN.1 hb;exact (WM a.fa).fix c) (a.fa.n+1) 0 [YM a.fa 0] (fun c hc=>by rw[ake.1 hc];exact (WM a.fa).fix 0)
 rw[<-hL] at anf;refine⟨fin,p3,by simp only[alW] at p2;omega,p4,fun c hc=>?_,p1 0 (by simp),hlen,fun i hi=>?_,fun i hi=>?_⟩
 ·rw[<-p5] at hc;obtain⟨e,he,rfl⟩:=alN.1 hc;exact anf e he
 ·rw[<-p5,alV,aaa hi];rfl
 ·obtain⟨q1,q2⟩:=p6 _ (adm hi);rw[ot] at q1 q2;refine⟨q1,fun x hx=>?_⟩;rw[q2 x hx];simp[XM,hx]
theorem dM.nx {a:Yi}{fin:List Nat}(h:dM a fin){i x:Nat}(hi:i<fin.length)(hx:x<a.fa.m):(Zl a).fa.nx i x=((U7 a.fa)[i]'(by rw[h.len];exact hi)).2.getD x 0:=by
 have MW:i<(U7 a.fa).length:=by rw[h.len];exact hi
 have NI:x<(U7 a.fa)[i].2.length:=by rw[(h.row i MW).1];exact hx
 show ((((U7 a.fa).map fun x=>(false,PV x.2)).getD i (true,[])).2.getD x 0).toNat=_;have e:((U7 a.fa).map fun x=>(false,PV x.2)).getD i (true,[])=(false,PV (U7 a.fa)[i].2):=by
  rw[XK (by rw[agC];exact MW),List.getElem_map]
 rw[e];show ((PV (U7 a.fa)[i].2).getD x 0).toNat=_;rw[XK (by rw[Q0];exact NI),XK NI];simp[PV]
theorem dM.fr {a:Yi}{fin:List Nat}(h:dM a fin){i x:Nat}(hi:i<fin.length)(hx:x<a.fa.m):(Zl a).fa.fr i x=a.fa.fr (fin[i]) x:=by
 have MW:i<(U7 a.fa).length:=by rw[h.len];exact hi
 have hk:=h.key i MW;rw[aaa hi] at hk;show (((U7 a.fa).map fun x=>(false,XF a.fa x.1)).getD i (true,[])).2.getD x false=_;have e:((U7 a.fa).map fun x=>(false,XF a.fa x.1)).getD i (true,[])=(false,XF a.fa (U7 a.fa)[i].1):=by
  rw[XK (by rw[agC];exact MW),List.getElem_map]
 rw[e,Option.some.inj hk];show (XF a.fa (U7 a.fa)[i].1).getD x false=_;rw[XK (by rw[S9];exact hx),BH _ _ hx]
theorem apb (a:Yi):(Zl a).fa.n=(U7 a.fa).length:=by
 show ((U7 a.fa).map fun x=>(false,PV x.2)).length=_;rw[agC]
theorem aoQ {a:Yi}(ha:a.ok):(Zl a).ok:=by
 obtain⟨fin,h⟩:=anr ha;have Si:=ha.few;have hle:=h.le;have hlen:=h.len;have Aq:=h.pos;have hn:a.fa.n=a.next.length:=rfl;have hln:(Zl a).next.length=(U7 a.fa).length:=by simp[Zl]
 refine⟨ha.lines,by omega,by omega,by simp[Zl],fun i hi=>?_,fun i hi=>?_⟩
 ·have MW:i<(U7 a.fa).length:=by omega
  obtain⟨r1,r2⟩:=h.row i MW;rw[hln];simp only[Zl,List.getElem_map];refine⟨by rw[Q0,r1];rfl,fun y hy=>?_⟩;simp only[PV] at hy;obtain⟨k,hk,rfl⟩:=alN.1 hy;obtain⟨x,hx,rfl⟩:=alP.1 hk;have:=r2 x (by rw[<-r1];exact hx);rw[XK hx] at this;have:=(alQ.1 this).1;omega
 ·simp only[Zl,List.getElem_map];rw[S9];rfl
def am0 (a:Yi)(fin:List Nat)(s i:Nat):Prop:=s<a.fa.n/\∃h:i<fin.length,fin[i]=YM a.fa s
theorem dM.sim {a:Yi}(ha:a.ok){fin:List Nat}(h:dM a fin){s i x:Nat}(hs:am0 a fin s i)(hx:x<a.fa.m):(Zl a).fa.fr i x=a.fa.fr s x/\am0 a fin (a.fa.nx s x) ((Zl a).fa.nx i x):=by
 have hA:=ha.M9;obtain⟨QK,hi,he⟩:=hs;have MW:i<(U7 a.fa).length:=by rw[h.len];exact hi
 refine⟨by rw[h.fr hi hx,he,wV hA QK hx],hA.lt s x QK hx,?_⟩;have Yh:YM a.fa s<a.fa.n:=amw ((WM a.fa).le s) QK;have hE:=((UD hA Yh QK).1 ((WM a.fa).fix s) x hx).2;have hk:=h.key i MW;rw[aaa hi,he] at hk;have hr:=(h.row i MW).2 x hx;rw[<-Option.some.inj hk,hE] at hr;rw[h.nx hi hx];obtain⟨q1,q2⟩:=alQ.1 hr;exact⟨q1,q2⟩
theorem apc {a:Yi}(ha:a.ok){l:List Int}(hl:∀i,i<l.length->KM l i<a.fa.m):(zb (Zl a).fa l l.length 0 0).1=(zb a.fa l l.length 0 0).1:=by
 obtain⟨fin,h⟩:=anr ha;rw[aoF,aoF]
 congr 1
 refine List.filter_congr fun i hi=>?_
 have hi:=al4.1 hi;have h0:am0 a fin 0 0:=⟨ha.M9.pos,h.pos,by have:=h.z;rw[aaa h.pos] at this;exact Option.some.inj this⟩;have hs:=aoX (A:=a.fa) (Q:=(Zl a).fa) (m:=a.fa.m) (R:=am0 a fin) (l:=l) (fun s q x hq hx=>(h.sim ha hq hx).2) i 0 0 0 (fun j hj=>by rw[ald];exact hl j (by omega)) h0;exact (h.sim ha hs (hl i hi)).1
section
variable {a b:Yi}{f:Bool->Bool->Bool}{i x:Nat}
end
theorem Jx {row:Nat->List Nat}{n:Nat}(M_:∀a,a<n->∀b∈row a,b<n):∀(f f' i:Nat) (st:List Nat),(st.map id).Nodup->(∀a∈st,a<n)->i<=st.length->n+1<=f+i->n+1<=f'+i->UE id row f i st=UE id row f' i st
 |0,_,i,st,h,hn,hi,hf,_=>by
  have:=Vn h hn;omega
 |_+1,0,i,st,h,hn,hi,_,hf=>by
  have:=Vn h hn;omega
 |f+1,f'+1,i,st,h,hn,hi,hf,Dp=>by
  rw[UE,UE]
  cases hs:st[i]? with
  |none=>rfl
  |some s =>
   have ra:i<st.length:=(alQ.1 hs).1;have hsn:=hn s (amu hs);obtain⟨n1,n2,_⟩:=TF (row s) st h;simp only;rw[Jx M_ f f' (i+1) _ n1 (JO _ _ (M_ s hsn) hn) (by omega) (by omega) (by omega)]
theorem iY {a q:Yi}(ha:a.ok)(hq:q.ok)(hl:q.lines=a.lines){ψ:Nat->Nat}(h0:ψ 0=0)(Yh:∀i,i<q.fa.n->ψ i<a.fa.n)
  (Vl:∀i x,i<q.fa.n->x<a.fa.m->ψ (q.fa.nx i x)=a.fa.nx (ψ i) x)(PX:∀i x,i<q.fa.n->x<a.fa.m->q.fa.fr i x=a.fa.fr (ψ i) x):Zl q=Zl a:=by
 have hA:=ha.M9;have hQ:=hq.M9;have hm:q.fa.m=a.fa.m:=by show 2^q.lines.toNat=2^a.lines.toNat;rw[hl]
 have ajT:∀i j,i<q.fa.n->j<q.fa.n->(YM q.fa i=YM q.fa j<->YM a.fa (ψ i)=YM a.fa (ψ j)):=fun i j hi hj=>by
  constructor
  ·intro h;refine Hg (A:=a.fa) (B:=fun u v=>∃i j,i<q.fa.n/\j<q.fa.n/\YM q.fa i=YM q.fa j/\u=ψ i/\v=ψ j) ⟨?_,?_,?_⟩ _ _ ⟨i,j,hi,hj,h,rfl,rfl⟩
   ·rintro u v ⟨i,j,hi,hj,_,rfl,rfl⟩;exact⟨Yh i hi,Yh j hj⟩
   ·rintro u v ⟨i,j,hi,hj,h,rfl,rfl⟩ x hx;rw[<-PX i x hi hx,<-PX j x hj hx];exact ((UD hQ hi hj).1 h x (by rw[hm];exact hx)).1
   ·rintro u v ⟨i,j,hi,hj,h,rfl,rfl⟩ x hx;have NI:x<q.fa.m:=by rw[hm];exact hx
    exact⟨_,_,hQ.lt i x hi NI,hQ.lt j x hj NI,((UD hQ hi hj).1 h x NI).2,(Vl i x hi hx).symm,(Vl j x hj hx).symm⟩
  ·intro h;refine Hg (A:=q.fa) (B:=fun u v=>u<q.fa.n/\v<q.fa.n/\YM a.fa (ψ u)=YM a.fa (ψ v)) ⟨fun u v k=>⟨k.1,k.2.1⟩,?_,?_⟩ _ _ ⟨hi,hj,h⟩
   ·rintro u v ⟨hu,hv,h⟩ x hx;have NI:x<a.fa.m:=by rw[<-hm];exact hx
    rw[PX u x hu NI,PX v x hv NI];exact ((UD hA (Yh u hu) (Yh v hv)).1 h x NI).1
   ·rintro u v ⟨hu,hv,h⟩ x hx;have NI:x<a.fa.m:=by rw[<-hm];exact hx
    refine⟨hQ.lt u x hu hx,hQ.lt v x hv hx,?_⟩;rw[Vl u x hu NI,Vl v x hv NI];exact ((UD hA (Yh u hu) (Yh v hv)).1 h x NI).2
 obtain⟨e1,k1⟩:=min_eq hQ (cl:=YM q.fa) fun _ _ _ _=>Iff.rfl
 have hr:∀s,s<q.fa.n->(fun c=>(XM a.fa c).map (YM a.fa)) (YM a.fa (ψ s))=(XM q.fa s).map (fun i=>YM a.fa (ψ i))/\∀b∈XM q.fa s,b<q.fa.n:=fun s hs=>by
  have BN:=Yh s hs;refine⟨?_,fun b hb=>?_⟩
  ·have CM:YM a.fa (ψ s)<a.fa.n:=amw ((WM a.fa).le _) BN;have he:=(UD hA CM BN).1 ((WM a.fa).fix (ψ s));simp only[XM,List.map_map];rw[hm];refine amc fun x hx=>?_
   have hx:=al4.1 hx;show YM a.fa (a.fa.nx (YM a.fa (ψ s)) x)=YM a.fa (ψ (q.fa.nx s x));rw[(he x hx).2,Vl s x hs hx]
  ·obtain⟨x,hx,rfl⟩:=alN.1 hb;exact hQ.lt s x hs (al4.1 hx)
 obtain⟨e2,_⟩:=Lo (κ:=YM q.fa) (ρ:=fun i=>YM a.fa (ψ i)) (Q:=fun i=>i<q.fa.n) ajT (row:=XM q.fa) (mD:=fun c=>(XM a.fa c).map (YM a.fa)) hr (q.fa.n+1+(a.fa.n+1)) 0 [0] fun b hb=>by rw[ake.1 hb];exact hQ.pos
 obtain⟨e3,k3⟩:=Lo (κ:=YM q.fa) (ρ:=YM q.fa) (Q:=fun i=>i<q.fa.n) (fun _ _ _ _=>Iff.rfl) (row:=XM q.fa) (mD:=fun c=>(XM q.fa c).map (YM q.fa)) (fun s hs=>by
  refine⟨?_,fun b hb=>?_⟩
  ·have CM:YM q.fa s<q.fa.n:=amw ((WM q.fa).le _) hs;have he:=(UD hQ CM hs).1 ((WM q.fa).fix s);simp only[XM,List.map_map];refine amc fun x hx=>?_
   exact (he x (al4.1 hx)).2
  ·obtain⟨x,hx,rfl⟩:=alN.1 hb;exact hQ.lt s x hs (al4.1 hx)) (q.fa.n+1+(a.fa.n+1)) 0 [0] fun b hb=>by rw[ake.1 hb];exact hQ.pos
 have af5:∀s,s<a.fa.n->∀b∈(XM a.fa s).map (YM a.fa),b<a.fa.n:=fun s hs b hb=>by
  obtain⟨c,hc,rfl⟩:=alN.1 hb;obtain⟨x,hx,rfl⟩:=alN.1 hc;exact amw ((WM a.fa).le _) (hA.lt s x hs (al4.1 hx))
 have af6:∀s,s<q.fa.n->∀b∈(XM q.fa s).map (YM q.fa),b<q.fa.n:=fun s hs b hb=>by
  obtain⟨c,hc,rfl⟩:=alN.1 hb;obtain⟨x,hx,rfl⟩:=alN.1 hc;exact amw ((WM q.fa).le _) (hQ.lt s x hs (al4.1 hx))
 have m1:U7 a.fa=(UE (YM q.fa) (XM q.fa) (q.fa.n+1+(a.fa.n+1)) 0 [0]).map fun x=>(YM a.fa (ψ x.1),x.2):=by
  rw[<-e2];show UE id (fun c=>(XM a.fa c).map (YM a.fa)) (a.fa.n+1) 0 [YM a.fa 0]=UE id (fun c=>(XM a.fa c).map (YM a.fa)) (q.fa.n+1+(a.fa.n+1)) 0 [YM a.fa (ψ 0)];rw[h0];exact Jx af5 _ _ 0 _ (by simp) (fun c hc=>by rw[ake.1 hc];exact amw ((WM a.fa).le _) hA.pos) (by simp) (by omega) (by omega)
 have m2:U7 q.fa=(UE (YM q.fa) (XM q.fa) (q.fa.n+1+(a.fa.n+1)) 0 [0]).map fun x=>(YM q.fa x.1,x.2):=by
  rw[<-e3];show UE id (fun c=>(XM q.fa c).map (YM q.fa)) (q.fa.n+1) 0 [YM q.fa 0]=UE id (fun c=>(XM q.fa c).map (YM q.fa)) (q.fa.n+1+(a.fa.n+1)) 0 [YM q.fa 0];exact Jx af6 _ _ 0 _ (by simp) (fun c hc=>by rw[ake.1 hc];exact amw ((WM q.fa).le _) hQ.pos) (by simp) (by omega) (by omega)
 unfold Zl;rw[m1,m2,hl];simp only[List.map_map,Function.comp_def];have ajU:∀x∈UE (YM q.fa) (XM q.fa) (q.fa.n+1+(a.fa.n+1)) 0 [0],XF q.fa (YM q.fa x.1)=XF a.fa (YM a.fa (ψ x.1)):=fun x hx=>by
  have hxn:=k3 x hx;unfold XF;rw[hm];refine amc fun y hy=>?_
  have hy:=al4.1 hy;rw[wV hQ hxn (by rw[hm];exact hy),wV hA (Yh _ hxn) hy,PX _ y hxn hy]
 congr 1
 exact amc fun x hx=>by rw[ajU x hx]
end Go.Am
namespace Go.Am
open Go
variable [Z4]
set_option maxRecDepth 100000
set_option maxHeartbeats 4000000
section
variable {S:Type} [DecidableEq S]
def YF (nx:S->Nat->S×Bool)(L:List S)(m:Nat)(x:S):List Nat:=(List.range m).map fun y=>XX L (nx x y).1
def YB (nx:S->Nat->S×Bool)(m:Nat)(x:S):List Bool:=(List.range m).map fun y=>(nx x y).2
def Kk (lines:Int)(nx:S->Nat->S×Bool)(L:List S):Yi :=
 ⟨lines,true,L.map fun x=>(false,PV (YF nx L (2^lines.toNat) x)),true,L.map fun x=>(false,YB nx (2^lines.toNat) x)⟩
variable {lines:Int}{nx:S->Nat->S×Bool}{L:List S}{Inv:S->Prop}
theorem iP:(Kk lines nx L).fa.n=L.length:=by
 show (L.map _).length=_;rw[agC]
theorem iO {i x:Nat}(hi:i<L.length)(hx:x<2^lines.toNat):(Kk lines nx L).fa.nx i x=XX L (nx L[i] x).1:=by
 have e:(L.map fun z=>(false,PV (YF nx L (2^lines.toNat) z))).getD i (true,[])=(false,PV (YF nx L (2^lines.toNat) L[i])):=by
  rw[XK (by rw[agC];exact hi),List.getElem_map]
 show ((((L.map fun z=>(false,PV (YF nx L (2^lines.toNat) z))).getD i (true,[])).2.getD x 0).toNat)=_;rw[e];show ((PV (YF nx L (2^lines.toNat) L[i])).getD x 0).toNat=_;have hl:x<(PV (YF nx L (2^lines.toNat) L[i])).length:=by rw[Q0];simp[YF];exact hx
 rw[XK hl];simp[PV,YF]
theorem iN {i x:Nat}(hi:i<L.length)(hx:x<2^lines.toNat):(Kk lines nx L).fa.fr i x=(nx L[i] x).2:=by
 have e:(L.map fun z=>(false,YB nx (2^lines.toNat) z)).getD i (true,[])=(false,YB nx (2^lines.toNat) L[i]):=by
  rw[XK (by rw[agC];exact hi),List.getElem_map]
 show (((L.map fun z=>(false,YB nx (2^lines.toNat) z)).getD i (true,[])).2.getD x false)=_;rw[e];show (YB nx (2^lines.toNat) L[i]).getD x false=_;have hl:x<(YB nx (2^lines.toNat) L[i]).length:=by simp[YB];exact hx
 rw[XK hl];simp[YB]
theorem Cj (hl:1<=lines/\lines<=4)(h:Bj (fun x y=>(nx x y).1) (2^lines.toNat) Inv L.length L)(h0:0<L.length)(hf:L.length<=512):(Kk lines nx L).ok:=by
 refine⟨hl,by simp only[Kk,agC];exact h0,by simp only[Kk,agC];exact hf,by simp only[Kk,agC],fun i hi=>?_,fun i hi=>?_⟩
 ·have MW:i<L.length:=by simpa only[Kk,agC] using hi
  simp only[Kk,List.getElem_map,agC];refine⟨by simp[PV,YF],fun x hx=>?_⟩;simp only[PV,YF,List.map_map,alN,al4,Function.comp] at hx;obtain⟨z,hz,rfl⟩:=hx;have:=(Q8 _ _).2 (h.cl i MW MW z hz);omega
 ·have MW:i<L.length:=by simpa only[Kk,agC] using hi
  simp[Kk,YB]
end
theorem aa8 {S S':Type} [DecidableEq S] [DecidableEq S'] {lines:Int}{nx:S->Nat->S×Bool}{nx':S'->Nat->S'×Bool}{L:List S}{L':List S'}{Inv:S->Prop}{aa9:S'->Prop}{ψ:S'->S}(hl:1<=lines/\lines<=4)
  (h:Bj (fun x y=>(nx x y).1) (2^lines.toNat) Inv L.length L)(h':Bj (fun x y=>(nx' x y).1) (2^lines.toNat) aa9 L'.length L'){x0:S}{x0':S'}(e0:L[0]? = some x0)(e0':L'[0]? = some x0')(aj6:ψ x0'=x0)
  (hψ:∀x,aa9 x->∀y,y<2^lines.toNat->ψ (nx' x y).1=(nx (ψ x) y).1/\(nx' x y).2=(nx (ψ x) y).2)(hm:∀x∈L',ψ x∈L)(hf:L.length<=512)(Dp:L'.length<=512):Zl (Kk lines nx' L')=Zl (Kk lines nx L):=by
 obtain⟨p0,_⟩:=alQ.1 e0;obtain⟨p0',_⟩:=alQ.1 e0';have Aj:∀i,i<L'.length->∃z,L'[i]? = some z/\ψ z∈L:=fun i hi=>⟨L'[i],aaa hi,hm _ (adm hi)⟩
 obtain⟨φ,hφ⟩:∃φ:Nat->Nat,φ=fun i=>match L'[i]? with|some z=>XX L (ψ z)|none=>0:=⟨_,rfl⟩
 have acL:∀i (hi:i<L'.length),φ i=XX L (ψ L'[i]):=fun i hi=>by rw[hφ];simp only[aaa hi]
 have r_:∀i,i<L'.length->φ i<L.length:=fun i hi=>by rw[acL i hi];exact (Q8 _ _).2 (hm _ (adm hi))
 have acM:∀i (hi:i<L'.length),L[φ i]? = some (ψ L'[i]):=fun i hi=>by rw[acL i hi];exact Bv (hm _ (adm hi))
 refine iY (Cj hl h p0 hf) (Cj hl h' p0' Dp) rfl (ψ:=φ) ?_ ?_ ?_ ?_
 ·have h1:=acM 0 p0';have h2:L'[0]=x0':=by rw[aaa p0'] at e0';exact Option.some.inj e0'
  rw[h2,aj6] at h1;have Af:=r_ 0 p0';rw[aaa Af] at h1;rw[aaa p0] at e0;exact (List.getElem_inj h.nd).1 (by rw[Option.some.inj h1,Option.some.inj e0])
 ·intro i hi;rw[iP] at hi ⊢;exact r_ i hi
 ·intro i x hi hx;rw[iP] at hi;have hx:x<2^lines.toNat:=hx;have hc:=h'.cl i hi hi x hx;have Yh:XX L' (nx' L'[i] x).1<L'.length:=(Q8 _ _).2 hc;have h1:=acM i hi;have Af:=r_ i hi;rw[aaa Af] at h1;have h1:=Option.some.inj h1;rw[iO hi hx,iO Af hx,h1];have h3:=Bv hc;rw[aaa Yh] at h3;rw[acL _ Yh,Option.some.inj h3,(hψ _ (h'.inv _ (adm hi)) x hx).1]
 ·intro i x hi hx;rw[iP] at hi;have hx:x<2^lines.toNat:=hx;have h1:=acM i hi;have Af:=r_ i hi;rw[aaa Af] at h1;have h1:=Option.some.inj h1;rw[iN hi hx,iN Af hx,h1,(hψ _ (h'.inv _ (adm hi)) x hx).2]
end Go.Am
namespace Go.Am
open Go
variable [Z4]
set_option maxRecDepth 100000
set_option maxHeartbeats 8000000
section
variable {S:Type} [DecidableEq S]
theorem JU (g:Nat->S):∀(r y:Nat) (L:List S),∃R,Vh g r y L=L++R
 |0,y,L=>⟨[],by rw[Vh,alZ]⟩
 |r+1,y,L=>by
  obtain⟨R0,e0⟩:=Ll L (g y);obtain⟨R,e⟩:=JU g r (y+1) (T5 L (g y));exact⟨R0++R,by rw[Vh,e,e0,alS]⟩
theorem Sc (nx:S->Nat->S×Bool)(L:List S)(m:Nat)(x:S):(YF nx L m x).length=m:=by simp[YF]
theorem Sb (nx:S->Nat->S×Bool)(m:Nat)(x:S):(YB nx m x).length=m:=by simp[YB]
end
end Go.Am
namespace Go.Am
open Go
variable [Z4]
set_option maxRecDepth 100000
set_option maxHeartbeats 8000000
def UH (S:List Step)(m:Nat):List RN:=Rd (fun x y=>(Y_ S x y).1) m (Xl S m+1) 0 [Cp S]
theorem rI0 {S:List Step}(h:Y0 S){m:Nat}:Bj (fun x y=>(Y_ S x y).1) m (Sj S m) 0 [Cp S] :=
 ⟨by simp,fun x hx=>by rw[ake.1 hx];exact (Sn h).2,aic _,fun j hj=>by omega⟩
theorem rIn {S:List Step}(h:Y0 S){m:Nat}:∀x,Sj S m x->∀y,y<m->Sj S m (Y_ S x y).1:=fun x hx y hy=>(So h hx hy).2.2
theorem JX {S:List Step}(h:Y0 S)(m:Nat):Bj (fun x y=>(Y_ S x y).1) m (Sj S m) (UH S m).length (UH S m)/\(UH S m).length<=Xl S m/\∃R,UH S m=Cp S::R:=by
 obtain⟨a,b,R,e⟩:=Sd (n:=Xl S m) (κ:=A7 S m) (rIn h) (fun x=>LM h) (fun x y=>OX h) (Xl S m+1) 0 [Cp S] (rI0 h) (by omega);exact⟨a,b,R,e⟩
theorem yp (lines:Int){S:Type} [DecidableEq S] (nx:S->Nat->S×Bool)(L:List S):Wd (Kk lines nx L)=.agg [.int .i64 lines,ZG true (L.map fun x=>AV.fz (ZO (YF nx L (2^lines.toNat) x))),ZG true (L.map fun x=>AV.fz (ZM (YB nx (2^lines.toNat) x)))]:=by
 rw[WJ,SV,Vy,Kk];simp only[List.map_map];have e1:∀x:S,(Zn∘fun x:S=>(false,PV (YF nx L (2^lines.toNat) x))) x=AV.fz (ZO (YF nx L (2^lines.toNat) x)):=fun x=>by simp only[Function.comp,Zn,WH];try rfl
 have e2:∀x:S,(Zv∘fun x:S=>(false,YB nx (2^lines.toNat) x)) x=AV.fz (ZM (YB nx (2^lines.toNat) x)):=fun x=>by simp only[Function.comp,Zv,WH];try rfl
 rw[amc (fun x _=>e1 x),amc (fun x _=>e2 x)]
end Go.Am
namespace Go.Am
open Go
variable [Z4]
set_option maxRecDepth 100000
set_option maxHeartbeats 4000000
def QO (n:Nat):Nat:=min n 65537
theorem kU {X Y:Nat}(hX:1<=X)(hY:1<=Y):GG (QO X:Nat) (QO Y:Nat)=((QO (X*Y):Nat):Int):=by
 have h1:QO X<=65537:=Nat.min_le_right _ _;have h2:QO Y<=65537:=Nat.min_le_right _ _;have h3:QO X*QO Y<=65537*65537:=Nat.mul_le_mul h1 h2;have h4:((QO X:Nat):Int)*((QO Y:Nat):Int)=((QO X*QO Y:Nat):Int):=by push_cast;rfl
 unfold GG;rw[h4,wrap_i64 (by omega) (by omega)];have h5:min ((QO X*QO Y:Nat):Int) 65537=((min (QO X*QO Y) 65537:Nat):Int):=by omega
 rw[h5]
 congr 1
 by_cases hx:X<=65537
 ·by_cases hy:Y<=65537
  ·have e1:QO X=X:=Nat.min_eq_left hx;have e2:QO Y=Y:=Nat.min_eq_left hy;rw[e1,e2];rfl
  ·have e2:QO Y=65537:=Nat.min_eq_right (by omega);have k1:1<=QO X:=by unfold QO;omega
   have k2:1*65537<=QO X*65537:=amt _ k1;have k3:1*65537<=X*Y:=Nat.mul_le_mul hX (by omega);rw[e2];unfold QO at *;omega
 ·have e1:QO X=65537:=Nat.min_eq_right (by omega);have k1:1<=QO Y:=by unfold QO;omega
  have k2:65537*1<=65537*QO Y:=Nat.mul_le_mul_left _ k1;have k3:65537*1<=X*Y:=Nat.mul_le_mul (by omega) hY;rw[e1];unfold QO at *;omega
theorem qj {k:XV}{a b mi ma:Int}{p:XV}{nl:Bool}{kids:List Z5}(h:(Z5.mk k a b mi ma p nl kids).wf):(ZF k).leaf=!XD k:=by
 rw[Rf h];rw[Z5.wf] at h;have hk:=h.2.2.2.2.2.2.1;generalize ZF k=d at *
 cases d <;> first|rfl|(simp[Kd.known] at hk)
theorem F' {c:Z5}(h:c.wf):1<=Wq c/\Wq c<=65537/\WQ (ZF c.kind) c=(Wq c:Int):=by
 have e:=tX h;have h1:=h.A9.mi;have h2:=h.A9.ma;have e2:WQ (ZF c.kind) c=(Wq c:Int):=by
  unfold Wq WQ
  cases ZF c.kind <;> simp only
  all_goals try rw[wrap_i64 (by omega) (by omega)]
  all_goals omega
 generalize Wq c=z at *;refine⟨?_,?_,e2⟩
 all_goals
  cases hd:ZF c.kind <;> rw[hd] at e <;> simp only at e <;> omega
theorem JE:∀(l:List Nat),(∀x∈l,1<=x)->1<=Ym l
 |[],_=>agB 1
 |x::l,h=>by
  rw[Ym];exact Nat.mul_pos (h x (aba ..)) (JE l fun y hy=>h y (aab _ hy))
theorem sE {c:Z5}(h:c.wf):1<=Ym ((Ve c).map Wq):=JE _ fun x hx=>by
 obtain⟨y,hy,rfl⟩:=alN.1 hx;exact (F' (La c h y hy).1).1
theorem sD:∀(l:List Z5),(∀c∈l,c.wf)->(∀c∈l,EC c=((QO (Ym ((Ve c).map Wq)):Nat):Int))->∀X,1<=X->M8 l (QO X:Nat)=((QO (X*Ym ((ZJ l).map Wq)):Nat):Int)
 |[],_,_,X,_=>by rw[M8,ZJ,List.map_nil,Ym,ah1]
 |c::l,hw,h,X,hX=>by
  have h1:=sE (hw c (aba ..));rw[M8,h c (aba ..),kU hX h1,sD l (fun x hx=>hw x (aab _ hx)) (fun x hx=>h x (aab _ hx)) _ (Nat.mul_pos hX h1),ZJ,alY,QI,Nat.mul_assoc]
theorem abH:∀c:Z5,c.wf->EC c=((QO (Ym ((Ve c).map Wq)):Nat):Int):=by
 intro c
 induction c using Z5.ind with
 |h k a b mi ma p nl kids ih =>
  intro S3;have Tk:=qj S3;have sU:=F' S3;have ME:=S3;rw[Z5.wf] at ME;have QJ:∀x∈kids,x.wf:=ME.2.2.2.2.2.2.2.2.2.2.2.2;rw[EC,Ve,Tk]
  cases hk:XD k with
  |true =>
   have:=sD kids QJ (fun c hc=>ih c hc (QJ c hc)) 1 (agB 1);rw[amk] at this;exact this
  |false =>
   obtain⟨h1,h2,h3⟩:=sU;show WQ (ZF k) _=_;rw[show WQ (ZF k) (.mk k a b mi ma p nl kids)=(Wq (.mk k a b mi ma p nl kids):Int) from h3];simp only[cond_false,alT,List.map_nil,Ym,ah1];unfold QO;omega
theorem Dt:∀(l:List Step),(∀s∈l,s.cond.wf)->(∀s∈l,1<=s.times/\s.times<=64)->(∀s∈l,0<=s.within/\s.within<=255)->∀(X x:Nat),1<=X->x+l.length*16384<=2^40 ->
  WL l (QO X:Nat) (x:Nat)=(((QO (X*Ym ((ZJ (l.map Step.cond)).map Wq)):Nat):Int),((x+Vd l:Nat):Int))/\Vd l<=l.length*16384
 |[],_,_,_,X,x,_,_=>⟨by rw[WL,List.map_nil,ZJ,List.map_nil,Ym,ah1,Vd,Nat.add_zero],aic _⟩
 |s::l,hw,ht,hi,X,x,hX,hx=>by
  have h1:=sE (hw s (aba ..));obtain⟨t1,t2⟩:=ht s (aba ..);obtain⟨w1,w2⟩:=hi s (aba ..);have e1:((s.times.toNat:Nat):Int)=s.times:=by omega
  have e2:((s.within.toNat:Nat):Int)=s.within:=by omega
  have m1:s.times.toNat*(s.within.toNat+1)<=64*256:=Nat.mul_le_mul (by omega) (by omega);have e3:s.times*(s.within+1)=((s.times.toNat*(s.within.toNat+1):Nat):Int):=by rw[<-e1,<-e2];push_cast;simp only[amn]
  rw[akd] at hx;have e4:IntKind.i64.wrap ((x:Int)+IntKind.i64.wrap (s.times*IntKind.i64.wrap (s.within+1)))=((x+s.times.toNat*(s.within.toNat+1):Nat):Int):=by
   rw[wrap_i64 (n:=s.within+1) (by omega) (by omega),e3,wrap_i64 (n:=((s.times.toNat*(s.within.toNat+1):Nat):Int)) (by omega) (by omega),wrap_i64 (by omega) (by omega)];push_cast;rfl
  obtain⟨k1,k2⟩:=Dt l (fun y hy=>hw y (aab _ hy)) (fun y hy=>ht y (aab _ hy)) (fun y hy=>hi y (aab _ hy)) (X*Ym ((Ve s.cond).map Wq)) (x+s.times.toNat*(s.within.toNat+1)) (Nat.mul_pos hX h1) (by omega);refine⟨?_,by rw[Vd,akd];omega⟩;rw[WL,abH s.cond (hw s (aba ..)),kU hX h1,e4,k1,alT,ZJ,alY,QI,Nat.mul_assoc,Vd,akc]
theorem sC {p:Prog}(h:p.ok)(S3:∀s∈p.steps,s.cond.wf)(hl:p.lines<=4){n:Nat}(hn:n<=400)(hz:Qp p<=n):Xl p.steps (2^p.lines.toNat)<=n:=by
 have Af:=h.lines.1;have ou:IntKind.i64.wrap ((2:Int)^p.lines.toNat+1)=((QO (2^p.lines.toNat+1):Nat):Int):=by
  have:p.lines.toNat=1\/p.lines.toNat=2\/p.lines.toNat=3\/p.lines.toNat=4:=by omega
  rcases this with h|h|h|h <;> rw[h] <;> decide
 have hm:1<=2^p.lines.toNat+1:=Nat.succ_le_succ (aic _);have Si:=h.few;obtain⟨k1,k2⟩:=Dt p.steps S3 h.tm h.wi (2^p.lines.toNat+1) 0 hm (by omega);have hP:1<=Ym ((ZJ (p.steps.map Step.cond)).map Wq):=JE _ fun x hx=>by
  obtain⟨y,hy,rfl⟩:=alN.1 hx;have hC:∀c∈p.steps.map Step.cond,c.wf:=fun c hc=>by
   obtain⟨s,hs,rfl⟩:=alN.1 hc;exact S3 s hs
  obtain⟨c,hc,hy⟩:=Lb hy;exact (F' (La c (hC c hc) y hy).1).1
 have hT:1<=Vd p.steps:=by
  cases hs:p.steps with
  |nil=>exact absurd hs h.ne
  |cons s l =>
   have h1:=h.tm s (by rw[hs];exact aba ..);rw[Vd];have:1*1<=s.times.toNat*(s.within.toNat+1):=Nat.mul_le_mul (by omega) (by omega);omega
 unfold Qp at hz;rw[ou,show (0:Int)=((0:Nat):Int) from rfl,k1] at hz;simp only[ald] at hz;have hQ:1<=(2^p.lines.toNat+1)*Ym ((ZJ (p.steps.map Step.cond)).map Wq):=Nat.mul_pos hm hP;unfold Xl;rw[show (2^p.lines.toNat+1)*(Vd p.steps*Ym ((ZJ (p.steps.map Step.cond)).map Wq))=((2^p.lines.toNat+1)*Ym ((ZJ (p.steps.map Step.cond)).map Wq))*Vd p.steps by rw[Nat.mul_comm (Vd _),Nat.mul_assoc]];generalize (2^p.lines.toNat+1)*Ym ((ZJ (p.steps.map Step.cond)).map Wq)=Q at *;generalize Vd p.steps=T at *;have e5:T<=131072:=by omega
 have h3:QO Q*T<=65537*131072:=Nat.mul_le_mul (Nat.min_le_right _ _) e5;have h4:((QO Q:Nat):Int)*((T:Nat):Int)=((QO Q*T:Nat):Int):=by push_cast;rfl
 unfold GG at hz;rw[h4,wrap_i64 (by omega) (by omega)] at hz;have h5:QO Q*T<=n:=by omega
 have h6:QO Q*1<=QO Q*T:=Nat.mul_le_mul_left _ hT;have h7:QO Q=Q:=by unfold QO at *;omega
 rw[h7] at h5;exact h5
theorem mL (d:Kd)(c:Z5)(m last sym:Int):Qs d c.norm m last sym=Qs d c m last sym:=by
 have ha:c.norm.a=c.a:=by cases c;rw[Z5.norm];rfl
 have hb:c.norm.b=c.b:=by cases c;rw[Z5.norm];rfl
 have hi:c.norm.mi=c.mi:=by cases c;rw[Z5.norm];rfl
 have hx:c.norm.ma=c.ma:=by cases c;rw[Z5.norm];rfl
 have hr:=fun l t=>mK l t c
 unfold Qs mJ Cl;rw[ha,hb,hi,hx]
 cases d <;> simp only[hr]
theorem JY (last sym:Int):∀l:List Z5,(∀c∈l,∀ms,RX last sym c.norm ms=RX last sym c ms)->∀ms,U0 last sym (Wj l) ms=U0 last sym l ms
 |[],_,ms=>by rw[Wj]
 |c::l,h,ms=>by
  have ih:=JY last sym l fun x hx=>h x (aab _ hx)
  rw[Wj,U0,U0,h c (aba ..),ih]
theorem rh (last sym:Int):∀(c:Z5) (ms:List Int),RX last sym c.norm ms=RX last sym c ms:=by
 intro c
 induction c using Z5.ind with
 |h k a b mi ma p nl kids ih =>
  intro ms;have h1:=JY last sym kids fun x hx=>ih x hx
  have h2:=mL (ZF k) (.mk k a b mi ma p nl kids) (ms.headD 0) last sym;rw[Z5.norm] at h2 ⊢;rw[RX,RX,h1,h2]
theorem Mq (S:List Step):(S.map Step.norm).map Step.cond=Wj (S.map Step.cond):=by
 rw[Sm,List.map_map,List.map_map];rfl
theorem tJ (S:List Step):Wn (S.map Step.norm)=Wn S:=by
 funext i
 unfold Wn;rw[alV]
 cases S[i]? <;> rfl
theorem eP (S:List Step):Tm (S.map Step.norm)=Tm S:=by
 funext i
 unfold Tm;rw[alV]
 cases S[i]? <;> rfl
theorem G0 (S:List Step):Y_ (S.map Step.norm)=Y_ S:=by
 funext x y
 unfold Y_;rw[tJ,eP,agC,Mq,JY _ _ _ fun c _=>rh _ _ c]
theorem Lr:∀l:List Z5,ZS (Wj l)=ZS l
 |[]=>by rw[Wj]
 |c::l=>by rw[Wj,ZS,ZS,Lq,Lr l]
theorem mI (S:List Step):Cp (S.map Step.norm)=Cp S:=by
 unfold Cp;rw[Mq,Lr]
theorem mH (c:Z5):Wq c.norm=Wq c:=by
 cases c
 rw[Z5.norm];unfold Wq WQ;rfl
theorem GZ:∀l:List Z5,(∀c∈l,(Ve c.norm).map Wq=(Ve c).map Wq)->(ZJ (Wj l)).map Wq=(ZJ l).map Wq
 |[],_=>by rw[Wj]
 |c::l,h=>by rw[Wj,ZJ,ZJ,alY,alY,h c (aba ..),GZ l fun x hx=>h x (aab _ hx)]
theorem eO:∀c:Z5,(Ve c.norm).map Wq=(Ve c).map Wq:=by
 intro c
 induction c using Z5.ind with
 |h k a b mi ma p nl kids ih =>
  have h1:=GZ kids fun x hx=>ih x hx
  have h2:=mH (.mk k a b mi ma p nl kids);rw[Z5.norm] at h2 ⊢;rw[Ve,Ve]
  cases XD k with
  |true=>exact h1
  |false=>simp only[cond_false,alT,List.map_nil,h2]
theorem DY:∀S:List Step,Vd (S.map Step.norm)=Vd S
 |[]=>rfl
 |s::S=>by rw[alT,Vd,Vd,DY S];rfl
theorem DX (S:List Step)(m:Nat):Xl (S.map Step.norm) m=Xl S m:=by
 unfold Xl;rw[DY,Mq,GZ _ fun c _=>eO c]
theorem rf (S:List Step)(m:Nat):UH (S.map Step.norm) m=UH S m:=by
 unfold UH;rw[G0,mI,DX]
theorem Mp {p:Prog}(h:p.ok):Y0 p.steps:=by
 refine⟨List.length_pos_iff.2 h.ne,h.wf,h.tm,h.wi,?_⟩;unfold Wn
 cases hs:p.steps[0]? with
 |none=>rfl
 |some s=>exact h.first s hs
theorem Ck {S:List Step}(h:Y0 S):Y0 (S.map Step.norm):=by
 refine⟨by rw[agC];exact h.ne,fun s hs=>?_,fun s hs=>?_,fun s hs=>?_,by rw[tJ];exact h.w0⟩
 all_goals
  obtain⟨y,hy,rfl⟩:=alN.1 hs
 ·exact eN _ (h.wf y hy)
 ·exact h.tm y hy
 ·exact h.wi y hy
theorem mG {S:List Step}(h:Y0 S){lines:Int}(hl:1<=lines/\lines<=4)(hz:Xl S (2^lines.toNat)<=512):Zl (Kk lines (Y_ S) (UH S (2^lines.toNat)))=Zl (Kk lines (YG S) (PL S (2^lines.toNat))):=by
 obtain⟨p1,p2,Rp,p3⟩:=Kb h (2^lines.toNat);obtain⟨r1,r2,Rr,r3⟩:=JX h (2^lines.toNat);have Xz:=Sn h (m:=2^lines.toNat);have SY:∀x∈UH S (2^lines.toNat),Sj S (2^lines.toNat) x/\EW S x∈PL S (2^lines.toNat):=by
  obtain⟨a,_,_⟩:=Sd (nx:=fun x y=>(Y_ S x y).1) (m:=2^lines.toNat) (n:=Xl S (2^lines.toNat)) (Inv:=fun x=>Sj S (2^lines.toNat) x/\EW S x∈PL S (2^lines.toNat)) (κ:=A7 S (2^lines.toNat)) (fun x hx y hy=>by
   obtain⟨k1,k2,k3⟩:=So h hx.1 hy;refine⟨k3,?_⟩;rw[k1];obtain⟨j,hj,e⟩:=alP.1 hx.2;rw[<-e];exact p1.cl j hj hj y hy) (fun x hx=>LM h hx.1) (fun x y hx hy=>OX h hx.1 hy.1) (Xl S (2^lines.toNat)+1) 0 [Cp S]
   ⟨by simp,fun x hx=>by rw[ake.1 hx];exact⟨Xz.2,by rw[Xz.1,p3];exact aba ..⟩,aic _,fun j hj=>by omega⟩ (by omega)
  exact a.inv
 exact aa8 (Inv:=QV S (2^lines.toNat)) (aa9:=Sj S (2^lines.toNat)) (ψ:=EW S) (x0:=AO S) (x0':=Cp S) hl p1 r1 (by rw[p3];rfl) (by rw[r3];rfl) Xz.1 (fun x hx y hy=>⟨(So h hx hy).1,(So h hx hy).2.1⟩) (fun x hx=>(SY x hx).2) (by omega) (by omega)
theorem eM {S:List Step}(h:Y0 S){lines:Int}(hl:1<=lines/\lines<=4)(hz:Xl S (2^lines.toNat)<=512):(Kk lines (YG S) (PL S (2^lines.toNat))).ok:=by
 obtain⟨p1,p2,Rp,p3⟩:=Kb h (2^lines.toNat);exact Cj hl p1 (by rw[p3];simp) (by omega)
theorem eL {S:List Step}(h:Y0 S){lines:Int}(hl:1<=lines/\lines<=4)(hz:Xl S (2^lines.toNat)<=512):(Kk lines (Y_ S) (UH S (2^lines.toNat))).ok:=by
 obtain⟨p1,p2,Rp,p3⟩:=JX h (2^lines.toNat);exact Cj hl p1 (by rw[p3];simp) (by omega)
end Go.Am
