/- A part of the proof. -/
import Derived.Test.YtkmaeondbkpajaaGreatDoorE14
import Derived.Test.YtkmaeondbkpajaaGreatDoorE15
set_option linter.all false
set_option maxHeartbeats 8000000
set_option maxRecDepth 100000
namespace Go.Am
open Go
variable [Z8]
def pE {row:Nat->List Nat}{n:Nat}(TK:∀a,a<n->∀b∈row a,b<n):∀(f i:Nat) (st:List Nat),(st.map id).Nodup->(∀a∈st,a<n)->i<=st.length->n+1<=f+i ->
  ∃fin:List Nat,(∀j,j<st.length->fin[j]? = st[j]?)/\st.length<=fin.length/\fin.Nodup/\(Vs id row f i st).map (·.1)=fin.drop i
 |0,i,st,h,hn,hi,hf=>by
  have:=Wj h hn;omega
 |f+1,i,st,h,hn,hi,hf=>by
  rw[Vs]
  cases hs:st[i]? with
  |none =>
   have:st.length<=i:=List.getElem?_eq_none_iff.1 hs;exact⟨st,λ_ _=>rfl,api _,by rw[List.map_id] at h;exact h,by rw[aqV this];rfl⟩
  |some s =>
   have DR:i<st.length:=(apX.1 hs).1;have hsn:=hn s (aqn hs);obtain⟨n1,n2,n3,_⟩:=U9 (row s) st h;obtain⟨fin,p1,p2,p3,p4⟩:=pE TK f (i+1) (YW id (row s) st).1 n1 (PW _ _ (TK s hsn) hn) J J;have e1:∀j,j<st.length->fin[j]? = st[j]? := λj hj=>(p1 j J).trans (n3 j hj)
   refine⟨fin,e1,J,p3,?_⟩;have hif:i<fin.length:=J;rw[aqe,p4,aea hif];have:=e1 i DR;rw[hs,aaa hif] at this;rw[aqb this]
def gY {l:List Nat}(h:l.Nodup){i j:Nat}(hi:i<l.length)(hj:j<l.length)(e:l[i]=l[j]):i=j:=by
 have h:=List.pairwise_iff_getElem.1 h;rcases Nat.lt_trichotomy i j with hl|hl|hl
 ·exact absurd e (h i j hi hj hl)
 ·exact hl
 ·exact absurd e.symm (h j i hj hi hl)
def wrd (A:Fa)(w:List Nat)(s:Nat):Prop:=(∀z∈w,z<A.m)/\w.foldl A.nx 0=s
def fX {A:Fa}(hA:A.ok){w:List Nat}{s:Nat}(h:wrd A w s):s<A.n:=by
 obtain⟨h1,rfl⟩:=h;have:∀(w:List Nat) (q:Nat),q<A.n->(∀z∈w,z<A.m)->w.foldl A.nx q<A.n:=by
  intro w
  induction w with
  |nil=>intro q hq _;exact hq
  |cons z w ih=>intro q hq hz;exact ih _ (hA.lt q z hq (hz z (aba ..))) λy hy=>hz y (aab _ hy)
 exact this w 0 hA.pos h1
def fP {A:Fa}{w:List Nat}{s x:Nat}(h:wrd A w s)(hx:x<A.m):wrd A (w++[x]) (A.nx s x):=by
 obtain⟨h1,rfl⟩:=h;refine⟨λz hz=>?_,by rw[List.foldl_append];rfl⟩;rcases aqm.1 hz with h|h
 ·exact h1 z h
 ·rw[apY] at h;subst h;exact hx
structure alB (a:Zv)(fin:List Nat):Prop extends Mv a fin where
 nd:fin.Nodup
 rch:∀c∈fin,∃w s,wrd a.fa w s/\Zb a.fa s=c
def adR {a:Zv}(ha:a.ok):∃fin,alB a fin:=by
 obtain⟨fin,h⟩:=yT ha;have hA:=ha.UU;have TK:∀s,s<a.fa.n->∀b∈(XR a.fa s).map (Zb a.fa),b<a.fa.n:=λs hs b hb=>by
  obtain⟨c,hc,rfl⟩:=ap0.1 hb;obtain⟨x,hx,rfl⟩:=ap0.1 hc;exact aqJ ((X8 a.fa).le _) (hA.lt s x hs (aqg.1 hx))
 have h0n:Zb a.fa 0<a.fa.n:=aqJ ((X8 a.fa).le 0) hA.pos;obtain⟨ahm,p1,p2,p3,p4⟩:=pE (row:=λc=>(XR a.fa c).map (Zb a.fa)) (n:=a.fa.n) TK (a.fa.n+1) 0 [Zb a.fa 0] No (λc hc=>by rw[apY.1 hc];exact h0n) No J;rw[aqy] at p4;have hL:VJ a.fa=Vs id (λc=>(XR a.fa c).map (Zb a.fa)) (a.fa.n+1) 0 [Zb a.fa 0]:=rfl;rw[<-hL] at p4;have hff:ahm=fin:=by
  refine List.ext_getElem? λi=>?_
  rw[<-p4,aqc];by_cases hi:i<(VJ a.fa).length
  ·rw[h.key i hi,aaa hi];rfl
  ·rw[aqA J,aqA (by rw[<-h.len];omega)];rfl
 subst hff;have ya:=IW (Q:=λc=>∃w s,wrd a.fa w s/\Zb a.fa s=c) (row:=λc=>(XR a.fa c).map (Zb a.fa)) (λc hc b hb=>by
  obtain⟨w,s,hw,rfl⟩:=hc;obtain⟨d,hd,rfl⟩:=ap0.1 hb;obtain⟨x,hx,rfl⟩:=ap0.1 hd;have hx:=aqg.1 hx;have hs:=fX hA hw;have YA:Zb a.fa s<a.fa.n:=aqJ ((X8 a.fa).le s) hs;exact⟨_,_,fP hw hx,(((WQ hA YA hs).1 ((X8 a.fa).fix s)) x hx).2.symm⟩) (a.fa.n+1) 0 [Zb a.fa 0] (λc hc=>⟨[],0,⟨λz hz=>(by cases hz),rfl⟩,(apY.1 hc).symm⟩)
 rw[<-hL] at ya;refine⟨ahm,h,p3,λc hc=>?_⟩;rw[<-p4] at hc;obtain⟨e,he,rfl⟩:=ap0.1 hc;exact ya e he
def Mv.n {a:Zv}{fin:List Nat}(h:Mv a fin):(ZS a).fa.n=fin.length:=by
 show ((VJ a.fa).map λx=>(false,Ur x.2)).length=_;rw[ala,h.len]
def Mv.alC {a:Zv}(ha:a.ok){fin:List Nat}(h:Mv a fin):Ji a fin 0 0 :=
 ⟨ha.UU.pos,h.pos,by have:=h.z;rw[aaa h.pos] at this;exact aqb this⟩
def Mv.aaU {a:Zv}{fin:List Nat}(h:Mv a fin){i:Nat}(hi:i<fin.length):Ji a fin fin[i] i :=
 ⟨h.lt _ (adm hi),hi,(h.can _ (adm hi)).symm⟩
def aaV {a:Zv}(ha:a.ok):ZS (ZS a)=ZS a:=by
 obtain⟨fin,h⟩:=yT ha;have hA:=ha.UU;refine IZ ha (VW ha) rfl (ψ:=λi=>fin.getD i 0) ?_ (λi hi=>?_) (λi x hi hx=>?_) λi x hi hx=>?_
 ·show Zb a.fa (fin.getD 0 0)=_;rw[Y' h.pos];have:=h.z;rw[aaa h.pos] at this;rw[aqb this];exact (X8 a.fa).fix 0
 ·rw[h.n] at hi;rw[Y' hi];exact h.lt _ (adm hi)
 ·rw[h.n] at hi;obtain⟨_,h1,h2⟩:=(h.nj ha (h.aaU hi) hx).2;rw[Y' hi,Y' h1,h2];exact (X8 a.fa).fix _
 ·rw[h.n] at hi;rw[Y' hi];exact (h.nj ha (h.aaU hi) hx).1
def aaT {a:Zv}(ha:a.ok){B:Nat->Nat->Prop}(hB:Bis (ZS a).fa B){i j:Nat}(Ox:B i j):i=j:=by
 obtain⟨fin,h⟩:=adR ha;have hA:=ha.UU;have hm:(ZS a).fa.m=a.fa.m:=rfl;have hl:=hB.lt i j Ox;rw[h.n] at hl;have key:Zb a.fa fin[i]=Zb a.fa fin[j]:=by
  refine On (A:=a.fa) (B:=λu v=>∃i j,Ji a fin u i/\Ji a fin v j/\B i j) ⟨?_,?_,?_⟩ _ _ ⟨i,j,h.aaU hl.1,h.aaU hl.2,Ox⟩
  ·rintro u v ⟨i,j,h1,h2,_⟩;exact⟨h1.1,h2.1⟩
  ·rintro u v ⟨i,j,h1,h2,h3⟩ x hx;rw[<-(h.nj ha h1 hx).1,<-(h.nj ha h2 hx).1];exact hB.fr i j h3 x hx
  ·rintro u v ⟨i,j,h1,h2,h3⟩ x hx;exact⟨_,_,(h.nj ha h1 hx).2,(h.nj ha h2 hx).2,hB.nx i j h3 x hx⟩
 rw[h.can _ (adm hl.1),h.can _ (adm hl.2)] at key;exact gY h.nd hl.1 hl.2 key
def FE {nx:Nat->Nat}{y:Nat->Bool}{i m:Nat}{Q:Nat->Prop}(hQ:∀x,x<m->Q (nx x)):∀(r x:Nat) (T:List Yb),x+r<=m->(∀t∈T,Q t.1)->∀t∈(X6 nx y i r x T).1,Q t.1
 |0,x,T,_,h=>h
 |r+1,x,T,hx,h=>by
  rw[X6]
  cases y x with
  |false=>exact h
  |true =>
   rw[cond_true];refine FE hQ r (x+1) _ J ?_
   cases decide (nx x∈T.map (·.1)) with
   |true=>exact h
   |false =>
    intro t ht;rcases aqm.1 ht with ht|ht
    ·exact h t ht
    ·rw[apY.1 ht];exact hQ x J
def xZ {A:Fa}{y:Nat->Nat->Bool}{Q:Nat->Prop}(hQ:∀c x,Q c->x<A.m->Q (A.nx c x)):∀(f i:Nat) (T:List Yb),(∀t∈T,Q t.1)->∀t∈(Sx A y f i T).1,Q t.1
 |0,i,T,h=>h
 |f+1,i,T,h=>by
  rw[Sx]
  cases ht:T[i]? with
  |none=>exact h
  |some t =>
   have h1:=FE (nx:=A.nx t.1) (y:=y t.1) (i:=i) (λx hx=>hQ t.1 x (h t (aqn ht)) hx) A.m 0 T J h;simp only;generalize X6 (A.nx t.1) (y t.1) i A.m 0 T=v at *;obtain⟨T1,o⟩:=v
   cases o with
   |some x=>exact h1
   |none=>exact xZ hQ f (i+1) T1 h1
def tk {A:Fa}{y:Nat->Nat->Bool}{Q:Nat->Prop}(h0:Q 0)(hQ:∀c x,Q c->x<A.m->Q (A.nx c x)):∀t∈(Yw A y).1,Q t.1 :=
 xZ hQ _ _ _ λt ht=>by rw[apY.1 ht];exact h0
section
variable {a:Zv}(ha:a.ok){fin:List Nat}(h:Mv a fin)
include ha h
def yS {y:Nat->Nat->Bool}:∀t∈(Yw (Zg a.fa (ZS a).fa) y).1,Ji a fin (t.1 / (ZS a).fa.n) (t.1%(ZS a).fa.n):=by
 refine tk (Q:=λc=>Ji a fin (c / (ZS a).fa.n) (c%(ZS a).fa.n)) (by simp only[Nat.zero_div,Nat.zero_mod];exact h.alC ha) λc x hc hx=>?_
 have h1:=(h.nj ha hc hx).2;obtain⟨_,h2,_⟩:=id h1;rw[<-h.n] at h2;show Ji a fin ((a.fa.nx (c / (ZS a).fa.n) x*(ZS a).fa.n+(ZS a).fa.nx (c%(ZS a).fa.n) x) / _) ((a.fa.nx (c / (ZS a).fa.n) x*(ZS a).fa.n+(ZS a).fa.nx (c%(ZS a).fa.n) x)%_);rw[UW h2,SU h2];exact h1
def fU:(Jt a (ZS a)).2=none:=by
 have hm:=VW ha;have hs:=Vn (PX ha hm rfl) (yA a (ZS a))
 cases e:(Jt a (ZS a)).2 with
 |none=>rfl
 |some z =>
  obtain⟨k,x⟩:=z;obtain⟨_,hx,⟨t,ht,hy⟩,_⟩:=hs.stop k x e;have nk:=yS ha h (y:=yA a (ZS a)) t (aqn ht);have:=(h.nj ha nk hx).1;unfold yA at hy;rw[this] at hy;simp at hy
end
end Go.Am
namespace Go.Am
open Go
variable [Z8]
noncomputable def r69:RC:=(sO [YL 2 42 0,YL 3 42 1,XF 4,ZA 5 0] (sQ (sO [Zw 10 3 2,Zw 11 3 3,YU 12 83 10 11,om 6 12] (sO [om 13 6,Vp 14 26 13 0] (cT 14 (sO [om 15 6,XF 4,om 5 15] .ret)))) (sQ (sO [Zw 16 3 2,Zw 17 3 3,YU 18 84 16 17,Za 19 18,Wx 20 3 19 0] (cT 20 (sO [XF 4,ZA 5 29] .ret))) (sO [Zw 22 3 2,Zw 23 3 3,o 24 (.call 86 [(.t 22),(.t 23),(.v (.fn (.func 87) [] []))]),om 21 24,YN 25 21 0,YN 26 21 1,om 7 25,om 8 26] (sO [om 27 7,o 28 (.call 88 [(.t 27),(.v (.fn (.func 89) [] []))]),om 9 28] (sO [om 29 9,o 30 (.call 90 [(.t 29),(.v (.fn (.func 91) [] []))])] (sO [om 31 9,om 4 31,ZA 5 0] .ret)))))))
def k69:Zm 28=some ([.tmp 4,.tmp 5],r69):=It
noncomputable def ahB:RC:=(sO [YL 2 42 0,YL 3 42 1,XF 4] (sO [Zw 8 3 2,Zw 9 3 3,o 10 (.mkf 148 [] [(.t 2),(.t 3)]),Og 11 86 8 9 10,om 7 11,YN 12 7 0,YN 13 7 1,om 5 12,om 6 13] (sO [om 14 6,om 4 14] .ret)))
def alO:Zm 84=some ([.tmp 4],ahB):=It
noncomputable def ajx:RC:=(sO [YL 2 164 0,Zf 4] (sO [Uz 4] .ret))
def anU:Zm 87=some ([.tmp 4],ajx):=It
noncomputable def zY:RC:=(sO [Y_ 11 3 10 9] (sQ (cS 11 (.exit 0)) (sQ (.block 1 (sO [Zq 12 2 8 10,Zw 13 2 12,Ga 7 0 0 164,YC 2 7 13] (oP [om 14 5,om 15 1,Zw 16 2 7,Fc 17 15 16,CX 18 55 2 1 0 0 0 2 17,VN 19 55 2 16 14 18,om 5 19]))) (oP [YM 20 3 10 1,om 10 20]))))
noncomputable def aeN:RC:=(sO [XF 4] (sO [XF 5] (sQ (sO [om 8 0,Za 9 8,ZA 10 0] (.block 0 (.loop zY))) (sO [om 21 5,om 4 21] .ret))))
def amS:Zm 88=some ([.tmp 4],aeN):=It
noncomputable def aiX:RC:=(sO [YL 1 164 0,Ga 2 0 0 55] (sO [Zw 3 2 1,YC 2 2 3] .ret))
def am2:Zm 89=some ([.cell 2 55],aiX):=It
noncomputable def afa:RC:=(sO [om 5 0,Za 6 5,om 4 6] (oP [om 7 0,om 8 4,om 9 4,o 10 (.raw (.convert 3 236 (.tmp 9))),Zk 11 151 10,om 12 1,o 13 (.call 150 [(.t 7),(vI 0),(.t 8),(.t 11),(.t 12)])]))
def ano:Zm 90=some ([],afa):=It
noncomputable def ajK:RC:=(sO [YL 2 55 0,YL 3 55 1,ZA 4 0] (sQ (.Uu 13 [T6 5 2 1 2 0,ZX 6 5,T6 7 2 1 3 0,ZX 8 7,YU 9 153 6 8,T6 10 2 1 2 1,ZX 11 10,T6 12 2 1 3 1,ZX 13 12,YU 14 153 11 13,⟨some 15,none,some 10,false,.Uc 3 1 2 [(iI 0),(iI 0)] [(0,1,(.t 9)),(1,1,(.t 14))]⟩,Zk 16 152 15,om 4 16]) .ret))
def aoa:Zm 91=some ([.tmp 4],ajK):=It
noncomputable def acr:RC:=(sO [ZA 4 0] (sO [om 7 0,Zk 8 207 7,om 5 8] (sO [om 9 1,Zk 10 207 9,om 6 10] (sQ (sO [om 11 5] (cT 11 (sQ (sO [om 12 6] (cT 12 (sO [ZA 4 0] .ret))) (sO [o 4 (.Qq (vI (-1)))] .ret)))) (sQ (sO [om 13 6] (cT 13 (sO [ZA 4 1] .ret))) (sQ (sO [om 14 0,om 15 1,Y_ 16 3 14 15] (cT 16 (sO [o 4 (.Qq (vI (-1)))] .ret))) (sQ (sO [om 17 0,om 18 1,o 19 (.bin .gtr 3 false (.t 17) (.t 18))] (cT 19 (sO [ZA 4 1] .ret))) (sO [ZA 4 0] .ret))))))))
def aob:Zm 153=some ([.tmp 4],acr):=It
noncomputable def zG:RC:=(sO [Y_ 9 3 8 7] (sQ (cS 9 (.exit 0)) (sQ (.block 1 (sO [Zq 10 1 6 8,ZX 11 10,om 5 11] (sO [om 12 5,om 13 3,S5 14 3 12 13] (cT 14 (sO [om 15 5,om 2 15] .ret))))) (oP [YM 16 3 8 1,om 8 16]))))
noncomputable def afZ:RC:=(sO [ZA 2 0] (sO [ZA 3 0] (sQ (sO [om 6 0,Za 7 6,ZA 8 0] (.block 0 (.loop zG))) (sO [om 17 3,om 2 17] .ret))))
def aoc:Zm 152=some ([.tmp 2],afZ):=It
noncomputable def ajL:RC:=(sO [Zf 2] (sO [om 3 0,om 4 0,S5 5 3 3 4,om 2 5] .ret))
def aod:Zm 207=some ([.tmp 2],ajL):=It
noncomputable def r68:RC:=(sO [YL 2 42 0,YL 3 42 1,XF 4,ZA 5 0] (sQ (sO [Zw 8 3 2,Zw 9 3 3,YU 10 83 8 9,om 6 10] (sO [om 11 6,Vp 12 26 11 0] (cT 12 (sO [om 13 6,XF 4,om 5 13] .ret)))) (sO [Zw 14 3 2,Zw 15 3 3,YU 16 84 14 15,om 7 16] (sO [om 17 7,om 18 7,Za 19 18,Wq 20 3 19 0,Xl 21 85 20 7,om 4 17,om 5 21] .ret))))
def k68:Zm 27=some ([.tmp 4,.tmp 5],r68):=It
noncomputable def zV:RC:=(sO [Y_ 33 3 32 31] (sQ (cS 33 (.exit 0)) (sQ (.block 1 (sO [om 34 32,Zq 35 2 30 32,Zw 36 2 35,Ga 10 0 0 55,om 9 34,YC 2 10 36] (sO [T6 37 2 1 10 0,ZX 38 37,L5 39 3 38 0,om 40 39,PO 41 40 2 1 10 0,Yq 42 40 41,Xv 43 40 1 3,Yq 44 40 43,Tv 45 40 44,HT 46 40 3 42 45,YO 47 40 46,om 48 47,PO 49 48 2 1 10 1,Yq 50 48 49,oF 51 48 (.bin .lss 3 true (.t 50) (vI 0)),YO 52 48 51,om 53 52,PO 54 53 2 1 10 1,Yq 55 53 54,Xv 56 53 1 4,Yq 57 53 56,Tv 58 53 57,HT 59 53 3 55 58,YO 60 53 59,om 11 60] (sQ (sQ (.Uu 19 [om 61 11,Xl 62 85 61 10,om 63 9,Wx 64 3 63 0,om 65 64,YV 66 65 2,YV 67 65 9,KS 68 65 3 67 1,oT 69 65 (.raw (.call { callee:=.builtin .max,args:=#[(.const (.int .i64 0)),(.tmp 68)],argTypes:=#[3,3] })),Tw 70 65 2 66 69,Wg 71 65 2 70,Wg 72 65 2 10,Tt 73 65 91 71 72,oT 74 65 (.bin .geq 3 true (.t 73) (vI 0)),YP 75 65 74,Xl 76 85 75 11,⟨some 77,none,some 16,false,.Uc 26 1 2 [(iI 0),(iI 0)] [(0,1,(.t 62)),(1,1,(.t 76))]⟩,Zk 78 93 77,om 12 78]) (sO [om 79 12,Vp 80 26 79 0] (cT 80 (sO [om 81 12,om 6 81] .ret)))) (oP [om 82 8,Zw 83 2 10,eJ 171 82 83]))))) (oP [YM 84 3 32 1,om 32 84]))))
noncomputable def IB:RC:=(sO [Y_ 105 3 104 103] (sQ (cS 105 (.exit 4)) (sQ (.block 5 (sO [om 106 104,om 16 106] (.Uu 46 [om 107 13,om 108 107,Yl 109 108 2 3,YQ 110 108 109,oT 111 108 (.eL 2 1 (.t 15) (vI 0)),YQ 112 108 111,Tw 113 108 1 110 112,YQ 114 108 113,YV 115 108 16,Tw 116 108 1 114 115,YQ 117 108 116,Yl 118 108 2 4,YQ 119 108 118,oT 120 108 (.eL 2 1 (.t 15) (vI 1)),YQ 121 108 120,Tw 122 108 1 119 121,YQ 123 108 122,YV 124 108 16,Tw 125 108 1 123 124,YQ 126 108 125,KU 127 108 4 117 126,YP 128 108 127,om 129 128,YV 130 129 8,Yl 131 129 1 3,YQ 132 129 131,oT 133 129 (.eL 2 1 (.t 15) (vI 0)),YQ 134 129 133,Tw 135 129 1 132 134,YQ 136 129 135,YV 137 129 16,Tw 138 129 1 136 137,YQ 139 129 138,Yl 140 129 1 4,YQ 141 129 140,oT 142 129 (.eL 2 1 (.t 15) (vI 1)),YQ 143 129 142,Tw 144 129 1 141 143,YQ 145 129 144,YV 146 129 16,Tw 147 129 1 145 146,YQ 148 129 147,oT 149 129 (.RR [(iI 0),(iI 0)] [(0,1,(.t 139)),(1,1,(.t 148))]),oT 150 129 (.raw (.lookup 171 (.tmp 130) (.tmp 149) false)),YP 151 129 150,om 13 151]))) (oP [YM 152 3 104 1,om 104 152]))))
noncomputable def IV:RC:=(sO [Y_ 98 3 97 96] (sQ (cS 98 (.exit 2)) (sQ (.block 3 (sO [Zq 99 2 95 97,Zw 100 2 99,Ga 15 0 0 55,YC 2 15 100] (sO [ZO 101 0 3,ZX 102 101,Oc 103 3 1 102,ZA 104 0] (.block 4 (.loop IB))))) (oP [YM 153 3 97 1,om 97 153]))))
noncomputable def r70:RC:=(sO [YL 3 42 0,YL 4 42 1,ZA 6 0] (sQ (sO [Zw 17 3 3,Zw 18 3 4,YU 19 83 17 18,om 20 2,Za 21 20,Wx 22 3 21 65536,Xl 23 85 22 5,yg 24 26 1 2 0 0 0 1 19 1 1 23,Zk 25 93 24,om 7 25] (sO [om 26 7,Vp 27 26 26 0] (cT 27 (sO [om 28 7,om 6 28] .ret)))) (sO [BY 29 171,om 8 29] (sQ (sO [om 30 2,Za 31 30,ZA 32 0] (.block 0 (.loop zV))) (sO [om 85 2,Za 86 85,Wx 87 3 86 0,om 88 87,YV 89 88 2,oT 90 88 (.FI 2 (.t 89) (vI 0)),Wg 91 88 2 90,oT 92 88 (.RR [(iI 0),(iI 0)] []),KU 93 88 55 91 92,YP 94 88 93,om 13 94] (sQ (sO [om 95 2,Za 96 95,ZA 97 0] (.block 2 (.loop IV))) (sO [om 154 13,WU 155 154,Xl 156 85 155 21,om 6 156] .ret)))))))
def k70:Zm 30=some ([.tmp 6],r70):=It
noncomputable def af0:RC:=(sO [om 115 16,om 116 1,L4 117 3 115 116,om 118 2,om 119 16,L4 120 3 118 119,om 18 117,om 19 120] (sO [om 121 12,oQ 122 3 121 8,om 20 122] (sO [om 123 18,om 124 19,Y_ 125 3 123 124] (cO 125 (sO [om 126 18,om 127 20,o 128 (.bin .geq 3 false (.t 126) (.t 127)),om 10 128] (sO [om 129 0,om 130 1,om 131 16,om 132 3,om 133 4,E_ 134 150 129 130 131 132 133] (oP [om 135 16,YM 136 3 135 1,om 1 136]))) (sO [om 137 19,om 138 20,o 139 (.bin .geq 3 false (.t 137) (.t 138)),om 10 139] (sO [om 140 0,om 141 16,YM 142 3 141 1,om 143 2,om 144 3,om 145 4,E_ 146 150 140 142 143 144 145] (oP [om 147 16,om 2 147])))))))
noncomputable def af1:RC:=(sQ (sQ (.Uu 17 [om 81 1,Wx 82 3 81 0,om 83 82,YV 84 83 4,YV 85 83 0,YV 86 83 1,KS 87 83 3 86 1,Tw 88 83 2 85 87,Wg 89 83 2 88,YV 90 83 0,YV 91 83 13,Tw 92 83 2 90 91,Wg 93 83 2 92,⟨some 94,some (83,true),none,true,.Rg (.t 84) [(.t 89),(.t 93)]⟩,xD 95 83 3 94 0,HK 96 83 95,YP 97 83 96]) (cT 97 (sO [om 98 0,om 99 1,om 100 2,om 101 13,om 102 4,E_ 103 203 98 99 100 101 102,om 15 103] (sO [om 104 15,om 1 104] (.exit 1))))) (sO [om 106 0,om 107 1,om 108 2,om 109 13,om 110 4,E_ 111 204 106 107 108 109 110,om 105 111,YN 112 105 0,YN 113 105 1,om 16 112,om 17 113] (sO [om 114 17,om 11 114] af0)))
noncomputable def dR:RC:=(sQ (sO [om 68 10,om 69 68,YV 70 69 11,YP 71 69 70,om 72 71,YV 73 72 14,KV 74 72 271 73 1,YP 75 72 74] (cT 75 (sO [om 76 0,om 77 1,om 78 2,om 79 4,Nx 80 202 76 77 78 79] (cT 80 .ret)))) af1)
noncomputable def dS:RC:=(sO [om 48 0,om 49 1,om 50 2,om 51 4,Nx 52 200 48 49 50 51,om 47 52,YN 53 47 0,YN 54 47 1,om 13 53,om 14 54] (sQ (sO [om 55 14,Wq 56 271 55 2] (cT 56 (sO [om 57 0,om 58 1,om 59 2,om 60 4,Nx 61 201 57 58 59 60] (sO [om 62 2,Wy 63 3 62 1,om 64 13,om 65 1,L4 66 3 64 65,L4 67 3 63 66,om 13 67] (oP [ZA 14 1]))))) dR))
noncomputable def zS:RC:=(.block 1 (sO [om 21 2,om 22 1,L4 23 3 21 22,om 12 23] (sQ (sO [om 24 12,o 25 (.bin .leq 3 true (.t 24) (vI 12))] (cT 25 (sO [om 26 0,om 27 1,om 28 2,om 29 4,Nx 30 197 26 27 28 29] .ret))) (sQ (sO [om 31 3,Wq 32 3 31 0] (cT 32 (sO [om 33 0,om 34 1,om 35 2,om 36 4,Nx 37 198 33 34 35 36] .ret))) (sQ (sO [om 38 10,WU 39 38] (cT 39 (sO [om 40 0,om 41 1,om 42 2,om 43 4,Nx 44 199 40 41 42 43] (oP [om 45 3,Wy 46 3 45 1,om 3 46])))) dS)))))
noncomputable def abt:RC:=(sO [Uz 10] (sO [Uz 11] (.block 0 (.loop zS))))
def anl:Zm 150=some ([],abt):=It
noncomputable def oy:RC:=(sQ (sQ (.Uu 17 [om 18 9,om 19 1,o 20 (.bin .gtr 3 false (.t 18) (.t 19)),om 21 20,YV 22 21 3,YV 23 21 0,YV 24 21 9,Tw 25 21 2 23 24,Wg 26 21 2 25,YV 27 21 0,YV 28 21 9,KS 29 21 3 28 1,Tw 30 21 2 27 29,Wg 31 21 2 30,⟨some 32,some (21,true),none,true,.Rg (.t 22) [(.t 26),(.t 31)]⟩,xD 33 21 3 32 0,YP 34 21 33]) (cS 34 (.exit 2))) (sQ (.block 3 (.Uu 18 [om 37 0,om 38 9,om 39 0,om 40 9,Wy 41 3 40 1,om 42 0,om 43 9,Wy 44 3 43 1,Zq 45 2 42 44,Zw 46 2 45,om 47 0,om 48 9,Zq 49 2 47 48,Zw 50 2 49,Zq 51 2 37 38,⟨none,none,none,true,.st 2 (.t 51) (.t 46)⟩,Zq 52 2 39 41,⟨none,none,none,true,.st 2 (.t 52) (.t 50)⟩])) (oP [om 35 9,Wy 36 3 35 1,om 9 36])))
noncomputable def zT:RC:=(sQ (sO [om 12 8,om 13 2,Y_ 14 3 12 13] (cS 14 (.exit 0))) (sQ (.block 1 (sO [om 17 8,om 9 17] (.block 2 (.loop oy)))) (oP [om 15 8,YM 16 3 15 1,om 8 16])))
noncomputable def ae_:RC:=(sO [om 10 1,YM 11 3 10 1,om 8 11] (.block 0 (.loop zT)))
def anj:Zm 197=some ([],ae_):=It
noncomputable def GF:RC:=(sQ (sQ (.Uu 18 [om 19 9,om 20 2,Y_ 21 3 19 20,om 22 21,YV 23 22 3,YV 24 22 0,YV 25 22 9,Tw 26 22 2 24 25,Wg 27 22 2 26,YV 28 22 0,YV 29 22 9,KS 30 22 3 29 1,Tw 31 22 2 28 30,Wg 32 22 2 31,⟨some 33,some (22,true),none,true,.Rg (.t 23) [(.t 27),(.t 32)]⟩,xD 34 22 3 33 0,HK 35 22 34,YP 36 22 35]) (cS 36 (.exit 2))) (.block 3 (oP [om 37 9,YM 38 3 37 1,om 9 38])))
noncomputable def acQ:RC:=(sQ (sO [om 68 11,Fb 69 3 68 1] (cS 69 (.exit 4))) (sQ (.block 5 (sQ (sQ (.Uu 13 [om 72 3,om 73 0,om 74 11,Zq 75 2 73 74,Zw 76 2 75,om 77 0,om 78 11,Wy 79 3 78 1,Zq 80 2 77 79,Zw 81 2 80,⟨some 82,none,none,true,.Rg (.t 72) [(.t 76),(.t 81)]⟩,L5 83 3 82 0,WU 84 83]) (cT 84 (.exit 4))) (.Uu 18 [om 85 0,om 86 11,om 87 0,om 88 11,Wy 89 3 88 1,om 90 0,om 91 11,Wy 92 3 91 1,Zq 93 2 90 92,Zw 94 2 93,om 95 0,om 96 11,Zq 97 2 95 96,Zw 98 2 97,Zq 99 2 85 86,⟨none,none,none,true,.st 2 (.t 99) (.t 94)⟩,Zq 100 2 87 89,⟨none,none,none,true,.st 2 (.t 100) (.t 98)⟩]))) (oP [om 70 11,Wy 71 3 70 1,om 11 71])))
noncomputable def acR:RC:=(sQ (sO [om 107 12,om 108 2,Y_ 109 3 107 108] (cS 109 (.exit 6))) (sQ (.block 7 (sQ (sQ (.Uu 13 [om 112 3,om 113 0,om 114 12,Zq 115 2 113 114,Zw 116 2 115,om 117 0,om 118 12,Wy 119 3 118 1,Zq 120 2 117 119,Zw 121 2 120,⟨some 122,none,none,true,.Rg (.t 112) [(.t 116),(.t 121)]⟩,L5 123 3 122 0,WU 124 123]) (cT 124 (.exit 6))) (.Uu 18 [om 125 0,om 126 12,om 127 0,om 128 12,Wy 129 3 128 1,om 130 0,om 131 12,Wy 132 3 131 1,Zq 133 2 130 132,Zw 134 2 133,om 135 0,om 136 12,Zq 137 2 135 136,Zw 138 2 137,Zq 139 2 125 126,⟨none,none,none,true,.st 2 (.t 139) (.t 134)⟩,Zq 140 2 127 129,⟨none,none,none,true,.st 2 (.t 140) (.t 138)⟩]))) (oP [om 110 12,YM 111 3 110 1,om 12 111])))
noncomputable def agt:RC:=(sO [om 101 2,om 102 9,L4 103 3 101 102,Fb 104 3 103 2] (cT 104 (sO [om 105 9,YM 106 3 105 1,om 12 106] (.block 6 (.loop acR)))))
noncomputable def oz:RC:=(sQ (sO [om 15 10,L5 16 3 15 5] (cS 16 (.exit 0))) (sQ (.block 1 (sQ (.block 2 (.loop GF)) (sQ (sO [om 39 9,om 40 2,F' 41 3 39 40] (cT 41 (sO [Uz 8] .ret))) (sQ (sO [om 42 2,om 43 1,L4 44 3 42 43,L5 45 3 44 50] (cT 45 (sO [Zf 8] .ret))) (sQ (.Uu 18 [om 46 0,om 47 9,om 48 0,om 49 9,Wy 50 3 49 1,om 51 0,om 52 9,Wy 53 3 52 1,Zq 54 2 51 53,Zw 55 2 54,om 56 0,om 57 9,Zq 58 2 56 57,Zw 59 2 58,Zq 60 2 46 47,⟨none,none,none,true,.st 2 (.t 60) (.t 55)⟩,Zq 61 2 48 50,⟨none,none,none,true,.st 2 (.t 61) (.t 59)⟩]) (sQ (sO [om 62 9,om 63 1,L4 64 3 62 63,Fb 65 3 64 2] (cT 65 (sO [om 66 9,Wy 67 3 66 1,om 11 67] (.block 4 (.loop acQ))))) agt)))))) (oP [om 17 10,YM 18 3 17 1,om 10 18])))
noncomputable def ae9:RC:=(sO [Zf 8] (sO [om 13 1,YM 14 3 13 1,om 9 14] (sQ (sO [ZA 10 0] (.block 0 (.loop oz))) (sO [Zf 8] .ret))))
def anh:Zm 202=some ([.tmp 8],ae9):=It
noncomputable def ae8:RC:=(sO [ZA 8 0,ZA 9 0] (sO [om 15 2,om 16 1,L4 17 3 15 16,om 10 17] (sO [o 11 (.al [(iI 0)] 3)] (sO [om 18 1,om 19 10,oQ 20 3 19 4,o 21 (.bin .mul 3 true (.t 20) (vI 1)),UT 22 3 18 21,om 12 22] (sO [om 23 1,om 24 10,oQ 25 3 24 4,o 26 (.bin .mul 3 true (.t 25) (vI 2)),UT 27 3 23 26,om 13 27] (sO [om 28 1,om 29 10,oQ 30 3 29 4,o 31 (.bin .mul 3 true (.t 30) (vI 3)),UT 32 3 28 31,om 14 32] (sQ (sO [om 33 10,Fb 34 3 33 8] (cT 34 (sQ (sO [om 35 10,Fb 36 3 35 50] (cT 36 (sO [om 37 0,om 38 12,om 39 3,Nx 40 229 37 38 11 39,om 12 40] (sO [om 41 0,om 42 13,om 43 3,Nx 44 229 41 42 11 43,om 13 44] (oP [om 45 0,om 46 14,om 47 3,Nx 48 229 45 46 11 47,om 14 48]))))) (oP [om 49 0,om 50 12,om 51 13,om 52 14,om 53 3,o 54 (.call 230 [(.t 49),(.t 50),(.t 51),(.t 52),(.t 11),(.t 53)]),om 13 54])))) (sO [ZX 55 11] (.block 0 (sO [Wq 58 3 55 0,om 57 58] (cO 57 (sO [om 59 13,om 8 59,ZA 9 1] .ret) (sO [Wq 61 3 55 12,om 60 61] (cO 60 (sO [om 62 13,om 8 62,ZA 9 2] .ret) (sO [om 56 13,om 8 56,ZA 9 0] .ret))))))))))))))
def ai4:Zm 200=some ([.tmp 8,.tmp 9],ae8):=It
noncomputable def ai3:RC:=(sO [ZA 8 0] (sO [om 9 0,om 10 1,Wy 11 3 10 1,om 12 1,om 13 1,YM 14 3 13 1,om 15 2,om 16 3,o 17 (.call 230 [(.t 9),(.t 11),(.t 12),(.t 14),(.t 15),(.t 16)]),om 8 17] .ret))
def ane:Zm 229=some ([.tmp 8],ai3):=It
noncomputable def ai2:RC:=(sO [ZA 12 0] (sO [om 14 0,om 15 1,om 16 2,om 17 4,om 18 5,E_ 19 258 14 15 16 17 18,om 13 19,YN 20 13 0,YN 21 13 1,om 1 20,om 2 21] (sO [om 23 0,om 24 2,om 25 3,om 26 4,om 27 5,E_ 28 258 23 24 25 26 27,om 22 28,YN 29 22 0,YN 30 22 1,om 2 29,om 3 30] (sO [om 32 0,om 33 1,om 34 2,om 35 4,om 36 5,E_ 37 258 32 33 34 35 36,om 31 37,YN 38 31 0,YN 39 31 1,om 1 38,om 2 39] (sO [om 40 2,om 12 40] .ret)))))
def anc:Zm 230=some ([.tmp 12],ai2):=It
noncomputable def ae5:RC:=(sO [ZA 10 0,ZA 11 0] (sQ (sQ (.Uu 11 [om 12 4,om 13 0,om 14 2,Zq 15 2 13 14,Zw 16 2 15,om 17 0,om 18 1,Zq 19 2 17 18,Zw 20 2 19,⟨some 21,none,none,true,.Rg (.t 12) [(.t 16),(.t 20)]⟩,L5 22 3 21 0]) (cT 22 (sO [om 23 3,X5 24 23,ZX 25 24,YM 26 3 25 1,X5 27 23,YC 1 27 26] (sO [om 28 2,om 29 1,om 10 28,om 11 29] .ret)))) (sO [om 30 1,om 31 2,om 10 30,om 11 31] .ret)))
def anb:Zm 258=some ([.tmp 10,.tmp 11],ae5):=It
noncomputable def aek:RC:=(sO [YL 4 164 0,Zf 6] (sQ (.Uu 20 [ZO 7 2 2,ZX 8 7,T6 9 2 1 4 0,ZX 10 9,Zq 11 1 8 10,ZX 12 11,om 13 1,Zq 14 1 12 13,ZX 15 14,ZO 16 2 3,ZX 17 16,T6 18 2 1 4 1,ZX 19 18,Zq 20 1 17 19,ZX 21 20,om 22 1,Zq 23 1 21 22,ZX 24 23,F' 25 4 15 24,om 6 25]) .ret))
def alN:Zm 148=some ([.tmp 6],aek):=It
def aon {f:FuncId}{rs:List ResultVar}{r:RC}(h:Zm f=some (rs,r)){us:List AV}{v:AV}(hf:flat v=true)
  (hg:go U (U7 U rs) [] r (Zr 0 us .nil) (Ym U)=some v):X7 U (X0 U) f us false=some v:=by
 obtain⟨fn,c,h1,h2,h3,h4⟩:=PG h;have hg:zN U (Us U rs (den U r (Zr 0 us .nil) (Ym U)))=some v:=hg
 cases hd:Us U rs (den U r (Zr 0 us .nil) (Ym U)) with
 |none=>rw[hd] at hg;simp[zN] at hg
 |some x =>
  obtain⟨v0,s'⟩:=x;rw[hd] at hg;have hB:=NA U h1 h2 h3 h4 (args:=us) (s:=Ym U) (x:=(v0,s')) hd;simp only[zN] at hg;have:=xy s' _ _ _ hg hf;subst this;unfold X7;rw[hB];simp[hf]
def aj7 (n:Int):ZE U 207 [.int .i64 n]=some (.bool false):=by
 refine ZP aod It rfl ?_;simp only[go_sem,ajL,bne_self_eq_false]
def Bf (a b:Int):Int:=br (decide (a<b)) (-1) (br (decide (a>b)) 1 0)
def aj8 (a b:Int):ZE U 153 [.int .i64 a,.int .i64 b]=some (.int .i64 (Bf a b)):=by
 refine ZP aob It rfl ?_;have h1:=aj7 a;have h2:=aj7 b;unfold Bf
 cases ha:decide (a<b) with
 |true=>simp only[go_sem,acr,h1,h2,ha,Yd]
 |false =>
  cases hb:decide (a>b) with
  |true=>simp only[go_sem,acr,h1,h2,ha,hb,Yd,Zp]
  |false=>simp only[go_sem,acr,h1,h2,ha,hb,Zp]
def nF (x0 x1 y0 y1:Int):Int:=br (Bf x0 y0 != 0) (Bf x0 y0) (Bf x1 y1)
def aoo (a b:Int):go U (U7 U [.tmp 2]) [] afZ (Zr 0 [.fz [.int .i64 a,.int .i64 b]] .nil) (Ym U)=some (.int .i64 (br (a != 0) a b)):=by
 have w1:IntKind.i64.wrap 1=1:=rfl;have w2:IntKind.i64.wrap 2=2:=rfl;have d0:decide ((0:Int)<((2:Nat):Int))=true:=rfl;have d1:decide ((1:Int)<((2:Nat):Int))=true:=rfl;have d2:decide ((2:Int)<((2:Nat):Int))=false:=rfl;have i1:UJ 1 (.fz [.int .i64 a,.int .i64 b]) (.int .i64 1)=some (.fp [.int .i64 b] 0):=rfl;simp only[go_sem,afZ];rw[Qx]
 cases ha:a != 0 with
 |true=>simp only[go_sem,zG,ha,d0,Yd]
 |false =>
  simp only[go_sem,zG,ha,d0,w1,Yd,Zp];rw[Qx]
  cases hb:b != 0 with
  |true=>simp only[go_sem,hb,d1,i1,Yd]
  |false =>
   have BW:b=0:=by simpa using hb
   subst BW;simp only[go_sem,hb,d1,i1,w2,Yd,Zp];rw[Qx];simp only[go_sem,d2,Zp]
def aj9 (a b:Int)(s:St):UX U 152 (some [.fz [.int .i64 a,.int .i64 b]]) s=some (.int .i64 (br (a != 0) a b),s):=XM U s (aon aoc rfl (aoo a b))
def aj_ {s:St}{j:Nat}{a b:Int}(h:s.get j=some (.cells [.int .i64 a,.int .i64 b] 3 false 0 0)):Yx U (ZE U 152 [.sl j 0 2 (some 2) 1]) 152 [.sl j 0 2 (some 2) 1] s=some (.int .i64 (br (a != 0) a b),s):=by
 rw[LR It s rfl];have h1:Ya U s 40 (.sl j 0 2 (some 2) 1)=some (.fz [.int .i64 a,.int .i64 b]):=J0 (d:=38) (s:=s) (b:=j) (cap:=some 2) (l:=[a,b]) h;have hm:YS (Ya U s 40) [.sl j 0 2 (some 2) 1]=some [.fz [.int .i64 a,.int .i64 b]]:=by
  simp only[YS,h1]
 rw[hm];exact aj9 a b s
def aam (x0 x1 y0 y1:Int):ZE U 91 [.agg [.int .i64 x0,.int .i64 x1],.agg [.int .i64 y0,.int .i64 y1]]=some (.int .i64 (nF x0 x1 y0 y1)):=by
 refine ZP aoa It rfl ?_;have h1:=aj8 x0 y0;have h2:=aj8 x1 y1;have hk:=λ(S:St) (j:Nat) (h:S.get j=some (.cells [.int .i64 (Bf x0 y0),.int .i64 (Bf x1 y1)] 3 false 0 0))=>aj_ h
 simp only[go_sem,ajK,h1,h2,hk];rfl
def EH {k c d:Nat}(hk:0<k):decide (nF ((c / k:Nat):Int) ((c%k:Nat):Int) ((d / k:Nat):Int) ((d%k:Nat):Int)<0)=decide (c<d)/\(nF ((c / k:Nat):Int) ((c%k:Nat):Int) ((d / k:Nat):Int) ((d%k:Nat):Int)>=0<->d<=c):=by
 have hc:=Nat.div_add_mod c k;have hd:=Nat.div_add_mod d k;have h1:=Nat.mod_lt c hk;have h2:=Nat.mod_lt d hk;have key:(c / k<d / k->c<d)/\(d / k<c / k->d<c):=by
  refine⟨λh=>?_,λh=>?_⟩
  ·have:k*(c / k+1)<=k*(d / k):=Nat.mul_le_mul_left k h;rw[Nat.mul_add,ap3] at this;omega
  ·have:k*(d / k+1)<=k*(c / k):=Nat.mul_le_mul_left k h;rw[Nat.mul_add,ap3] at this;omega
 have aop:c / k=d / k->(c<d<->c%k<d%k):=λh=>by
  rw[h] at hc;omega
 generalize c / k=c0 at *;generalize c%k=c1 at *;generalize d / k=d0 at *;generalize d%k=d1 at *;unfold nF Bf;rcases Nat.lt_trichotomy c0 d0 with h|h|h
 ·have b1:decide (((c0:Nat):Int)<((d0:Nat):Int))=true:=decide_eq_true J;have:=key.1 h;rw[b1,Yd];simp[br];omega
 ·have b1:decide (((c0:Nat):Int)<((d0:Nat):Int))=false:=decide_eq_false J;have b2:decide (((c0:Nat):Int)>((d0:Nat):Int))=false:=decide_eq_false J;have e:=aop h;rw[b1,b2,Zp,Zp,show ((0:Int) != 0)=false from rfl,Zp];rcases Nat.lt_trichotomy c1 d1 with h'|h'|h'
  ·have b3:decide (((c1:Nat):Int)<((d1:Nat):Int))=true:=decide_eq_true J;rw[b3,Yd];simp;omega
  ·have b3:decide (((c1:Nat):Int)<((d1:Nat):Int))=false:=decide_eq_false J;have b4:decide (((c1:Nat):Int)>((d1:Nat):Int))=false:=decide_eq_false J;rw[b3,b4,Zp,Zp];simp;omega
  ·have b3:decide (((c1:Nat):Int)<((d1:Nat):Int))=false:=decide_eq_false J;have b4:decide (((c1:Nat):Int)>((d1:Nat):Int))=true:=decide_eq_true J;rw[b3,b4,Zp,Yd];simp;omega
 ·have b1:decide (((c0:Nat):Int)<((d0:Nat):Int))=false:=decide_eq_false J;have b2:decide (((c0:Nat):Int)>((d0:Nat):Int))=true:=decide_eq_true J;have:=key.2 h;rw[b1,b2,Zp,Yd];simp[br];omega
end Go.Am
namespace Go.Am
open Go
end Go.Am
