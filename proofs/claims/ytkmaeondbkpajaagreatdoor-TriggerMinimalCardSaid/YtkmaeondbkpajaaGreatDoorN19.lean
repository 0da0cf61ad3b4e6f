/- A part of the proof of a statement of this seat: the machine on which the program is read, and what it computes; for every input. -/
import Derived.Test.YtkmaeondbkpajaaGreatDoorN18
import Derived.Test.YtkmaeondbkpajaaGreatDoorN16
import Derived.Test.YtkmaeondbkpajaaGreatDoorN12
import Derived.Test.YtkmaeondbkpajaaGreatDoorN06
set_option linter.all false
namespace Go.Am
open Go
variable [Z3]
theorem Bn {row:Nat->List Nat}{n:Nat}(U8:∀a,a<n->∀b∈row a,b<n):∀(f i:Nat) (st:List Nat),(st.map id).Nodup->(∀a∈st,a<n)->i<=st.length->n+1<=f+i ->
  ∃fin:List Nat,(∀j,j<st.length->fin[j]? = st[j]?)/\st.length<=fin.length/\fin.Nodup/\(Xe id row f i st).map (·.1)=fin.drop i
 |0,i,st,h,hn,hi,hf=>by
  have:=WE h hn;omega
 |f+1,i,st,h,hn,hi,hf=>by
  rw[Xe]
  cases hs:st[i]? with
  |none =>
   have:st.length<=i:=List.getElem?_eq_none_iff.1 hs;exact⟨st,fun _ _=>rfl,aba _,by rw[List.map_id] at h;exact h,by rw[afT this];rfl⟩
  |some s =>
   have Gr:i<st.length:=(ae6.1 hs).1;have dT:=hn s (afl hs);obtain⟨n1,n2,n3,_⟩:=WV (row s) st h;obtain⟨fin,p1,p2,p3,p4⟩:=Bn U8 f (i+1) (Zl id (row s) st).1 n1 (SM _ _ (U8 s dT) hn) (by omega) (by omega);have e1:∀j,j<st.length->fin[j]? = st[j]? := fun j hj=>(p1 j (by omega)).trans (n3 j hj)
   refine⟨fin,e1,by omega,p3,?_⟩;have re:i<fin.length:=by omega
   rw[afm,p4,aeY re];have:=e1 i Gr;rw[hs,aaa re] at this;rw[Option.some.inj this]
theorem wS {l:List Nat}(h:l.Nodup){i j:Nat}(hi:i<l.length)(hj:j<l.length)(e:l[i]=l[j]):i=j:=by
 have h:=afS.1 h;rcases Nat.lt_trichotomy i j with hl|hl|hl
 ·exact absurd e (h i j hi hj hl)
 ·exact hl
 ·exact absurd e.symm (h j i hj hi hl)
def dS (A:Fa)(w:List Nat)(s:Nat):Prop:=(∀z∈w,z<A.m)/\w.foldl A.nx 0=s
theorem lu {A:Fa}(hA:A.ok){w:List Nat}{s:Nat}(h:dS A w s):s<A.n:=by
 obtain⟨h1,rfl⟩:=h;have:∀(w:List Nat) (q:Nat),q<A.n->(∀z∈w,z<A.m)->w.foldl A.nx q<A.n:=by
  intro w
  induction w with
  |nil=>intro q hq _;exact hq
  |cons z w ih=>intro q hq hz;exact ih _ (hA.lt q z hq (hz z (aeZ ..))) fun y hy=>hz y (abc _ hy)
 exact this w 0 hA.pos h1
theorem wR {A:Fa}{w:List Nat}{s x:Nat}(h:dS A w s)(hx:x<A.m):dS A (w++[x]) (A.nx s x):=by
 obtain⟨h1,rfl⟩:=h;refine⟨fun z hz=>?_,by rw[List.foldl_append];rfl⟩;rcases afb.1 hz with h|h
 ·exact h1 z h
 ·rw[ae0] at h;subst h;exact hx
structure abG (a:ZN)(fin:List Nat):Prop extends Qe a fin where
 nd:fin.Nodup
 rch:∀c∈fin,∃w s,dS a.fa w s/\Zy a.fa s=c
theorem dR {a:ZN}(ha:a.ok):∃fin,abG a fin:=by
 obtain⟨fin,h⟩:=zQ ha;have hA:=ha.VK;have U8:∀s,s<a.fa.n->∀b∈(YU a.fa s).map (Zy a.fa),b<a.fa.n:=fun s hs b hb=>by
  obtain⟨c,hc,rfl⟩:=afe.1 hb;obtain⟨x,hx,rfl⟩:=afe.1 hc;exact afA ((Y2 a.fa).le _) (hA.lt s x hs (afh.1 hx))
 have h0n:Zy a.fa 0<a.fa.n:=afA ((Y2 a.fa).le 0) hA.pos;obtain⟨dQ,p1,p2,p3,p4⟩:=Bn (row:=fun c=>(YU a.fa c).map (Zy a.fa)) (n:=a.fa.n) U8 (a.fa.n+1) 0 [Zy a.fa 0] (by simp) (fun c hc=>by rw[ae0.1 hc];exact h0n) (by simp) (by omega);rw[afJ] at p4;have hL:Xd a.fa=Xe id (fun c=>(YU a.fa c).map (Zy a.fa)) (a.fa.n+1) 0 [Zy a.fa 0]:=rfl;rw[<-hL] at p4;have hff:dQ=fin:=by
  refine List.ext_getElem? fun i=>?_
  rw[<-p4,afs];by_cases hi:i<(Xd a.fa).length
  ·rw[h.key i hi,aaa hi];rfl
  ·rw[afz (by omega),afz (by rw[<-h.len];omega)];rfl
 subst hff;have FI:=Nk (Q:=fun c=>∃w s,dS a.fa w s/\Zy a.fa s=c) (row:=fun c=>(YU a.fa c).map (Zy a.fa)) (fun c hc b hb=>by
  obtain⟨w,s,hw,rfl⟩:=hc;obtain⟨d,hd,rfl⟩:=afe.1 hb;obtain⟨x,hx,rfl⟩:=afe.1 hd;have hx:=afh.1 hx;have hs:=lu hA hw;have Zm:Zy a.fa s<a.fa.n:=afA ((Y2 a.fa).le s) hs;exact⟨_,_,wR hw hx,(((Yd hA Zm hs).1 ((Y2 a.fa).fix s)) x hx).2.symm⟩) (a.fa.n+1) 0 [Zy a.fa 0] (fun c hc=>⟨[],0,⟨fun z hz=>(by cases hz),rfl⟩,(ae0.1 hc).symm⟩)
 rw[<-hL] at FI;refine⟨dQ,h,p3,fun c hc=>?_⟩;rw[<-p4] at hc;obtain⟨e,he,rfl⟩:=afe.1 hc;exact FI e he
theorem Qe.n {a:ZN}{fin:List Nat}(h:Qe a fin):(Z2 a).fa.n=fin.length:=by
 show ((Xd a.fa).map fun x=>(false,Mv x.2)).length=_;rw[ae7,h.len]
theorem Qe.abH {a:ZN}(ha:a.ok){fin:List Nat}(h:Qe a fin):Jm a fin 0 0 :=
 ⟨ha.VK.pos,h.pos,by have:=h.z;rw[aaa h.pos] at this;exact Option.some.inj this⟩
theorem Qe.q_ {a:ZN}{fin:List Nat}(h:Qe a fin){i:Nat}(hi:i<fin.length):Jm a fin fin[i] i :=
 ⟨h.lt _ (ae2 hi),hi,(h.can _ (ae2 hi)).symm⟩
theorem qZ {a:ZN}(ha:a.ok):Z2 (Z2 a)=Z2 a:=by
 obtain⟨fin,h⟩:=zQ ha;have hA:=ha.VK;refine zP ha (XO ha) rfl (ψ:=fun i=>fin.getD i 0) ?_ (fun i hi=>?_) (fun i x hi hx=>?_) fun i x hi hx=>?_
 ·show Zy a.fa (fin.getD 0 0)=_;rw[YL h.pos];have:=h.z;rw[aaa h.pos] at this;rw[Option.some.inj this];exact (Y2 a.fa).fix 0
 ·rw[h.n] at hi;rw[YL hi];exact h.lt _ (ae2 hi)
 ·rw[h.n] at hi;obtain⟨_,h1,h2⟩:=(h.qY ha (h.q_ hi) hx).2;rw[YL hi,YL h1,h2];exact (Y2 a.fa).fix _
 ·rw[h.n] at hi;rw[YL hi];exact (h.qY ha (h.q_ hi) hx).1
theorem qW {a:ZN}(ha:a.ok){B:Nat->Nat->Prop}(hB:eW (Z2 a).fa B){i j:Nat}(Ul:B i j):i=j:=by
 obtain⟨fin,h⟩:=dR ha;have hA:=ha.VK;have hm:(Z2 a).fa.m=a.fa.m:=rfl;have hl:=hB.lt i j Ul;rw[h.n] at hl;have key:Zy a.fa fin[i]=Zy a.fa fin[j]:=by
  refine Pa (A:=a.fa) (B:=fun u v=>∃i j,Jm a fin u i/\Jm a fin v j/\B i j) ⟨?_,?_,?_⟩ _ _ ⟨i,j,h.q_ hl.1,h.q_ hl.2,Ul⟩
  ·rintro u v ⟨i,j,h1,h2,_⟩;exact⟨h1.1,h2.1⟩
  ·rintro u v ⟨i,j,h1,h2,h3⟩ x hx;rw[<-(h.qY ha h1 hx).1,<-(h.qY ha h2 hx).1];exact hB.fr i j h3 x hx
  ·rintro u v ⟨i,j,h1,h2,h3⟩ x hx;exact⟨_,_,(h.qY ha h1 hx).2,(h.qY ha h2 hx).2,hB.nx i j h3 x hx⟩
 rw[h.can _ (ae2 hl.1),h.can _ (ae2 hl.2)] at key;exact wS h.nd hl.1 hl.2 key
theorem KG {nx:Nat->Nat}{y:Nat->Bool}{i m:Nat}{Q:Nat->Prop}(hQ:∀x,x<m->Q (nx x)):∀(r x:Nat) (T:List Xs),x+r<=m->(∀t∈T,Q t.1)->∀t∈(Xx nx y i r x T).1,Q t.1
 |0,x,T,_,h=>h
 |r+1,x,T,hx,h=>by
  rw[Xx]
  cases y x with
  |false=>exact h
  |true =>
   rw[cond_true];refine KG hQ r (x+1) _ (by omega) ?_
   cases decide (nx x∈T.map (·.1)) with
   |true=>exact h
   |false =>
    intro t ht;rcases afb.1 ht with ht|ht
    ·exact h t ht
    ·rw[ae0.1 ht];exact hQ x (by omega)
theorem FH {A:Fa}{y:Nat->Nat->Bool}{Q:Nat->Prop}(hQ:∀c x,Q c->x<A.m->Q (A.nx c x)):∀(f i:Nat) (T:List Xs),(∀t∈T,Q t.1)->∀t∈(Jl A y f i T).1,Q t.1
 |0,i,T,h=>h
 |f+1,i,T,h=>by
  rw[Jl]
  cases ht:T[i]? with
  |none=>exact h
  |some t =>
   have h1:=KG (nx:=A.nx t.1) (y:=y t.1) (i:=i) (fun x hx=>hQ t.1 x (h t (afl ht)) hx) A.m 0 T (by omega) h;simp only;generalize Xx (A.nx t.1) (y t.1) i A.m 0 T=v at *;obtain⟨T1,o⟩:=v
   cases o with
   |some x=>exact h1
   |none=>exact FH hQ f (i+1) T1 h1
theorem Dw {A:Fa}{y:Nat->Nat->Bool}{Q:Nat->Prop}(h0:Q 0)(hQ:∀c x,Q c->x<A.m->Q (A.nx c x)):∀t∈(Yr A y).1,Q t.1 :=
 FH hQ _ _ _ fun t ht=>by rw[ae0.1 ht];exact h0
section
variable {a:ZN}(ha:a.ok){fin:List Nat}(h:Qe a fin)
include ha h
theorem FG {y:Nat->Nat->Bool}:∀t∈(Yr (Zn a.fa (Z2 a).fa) y).1,Jm a fin (t.1 / (Z2 a).fa.n) (t.1%(Z2 a).fa.n):=by
 refine Dw (Q:=fun c=>Jm a fin (c / (Z2 a).fa.n) (c%(Z2 a).fa.n)) (by simp only[Nat.zero_div,Nat.zero_mod];exact h.abH ha) fun c x hc hx=>?_
 have h1:=(h.qY ha hc hx).2;obtain⟨_,h2,_⟩:=id h1;rw[<-h.n] at h2;show Jm a fin ((a.fa.nx (c / (Z2 a).fa.n) x*(Z2 a).fa.n+(Z2 a).fa.nx (c%(Z2 a).fa.n) x) / _) ((a.fa.nx (c / (Z2 a).fa.n) x*(Z2 a).fa.n+(Z2 a).fa.nx (c%(Z2 a).fa.n) x)%_);rw[Rr h2,OG h2];exact h1
theorem wQ:(IJ a (Z2 a)).2=none:=by
 have hm:=XO ha;have hs:=U4 (Qw ha hm rfl) (rC a (Z2 a))
 cases e:(IJ a (Z2 a)).2 with
 |none=>rfl
 |some z =>
  obtain⟨k,x⟩:=z;obtain⟨_,hx,⟨t,ht,hy⟩,_⟩:=hs.stop k x e;have zO:=FG ha h (y:=rC a (Z2 a)) t (afl ht);have:=(h.qY ha zO hx).1;unfold rC at hy;rw[this] at hy;simp at hy
end
end Go.Am
namespace Go.Am
open Go
variable [Z3]
set_option maxRecDepth 100000
set_option maxHeartbeats 8000000
noncomputable def r69:RC:=(sO [TW 2 42 0,TW 3 42 1,Ra 4,WZ 5 0] (sQ (sO [Xr 10 3 2,Xr 11 3 3,RL 12 83 10 11,om 6 12] (sO [om 13 6,Oa 14 26 13 0] (cT 14 (sO [om 15 6,Ra 4,om 5 15] .ret)))) (sQ (sO [Xr 16 3 2,Xr 17 3 3,RL 18 84 16 17,Wj 19 18,Oc 20 3 19 0] (cT 20 (sO [Ra 4,WZ 5 29] .ret))) (sO [Xr 22 3 2,Xr 23 3 3,o 24 (.call 86 [(.t 22),(.t 23),(.v (.fn (.func 87) [] []))]),om 21 24,U1 25 21 0,U1 26 21 1,om 7 25,om 8 26] (sO [om 27 7,o 28 (.call 88 [(.t 27),(.v (.fn (.func 89) [] []))]),om 9 28] (sO [om 29 9,o 30 (.call 90 [(.t 29),(.v (.fn (.func 91) [] []))])] (sO [om 31 9,om 4 31,WZ 5 0] .ret)))))))
theorem k69:YQ 28=some ([.tmp 4,.tmp 5],r69):=by kernel_rfl
noncomputable def dA:RC:=(sO [TW 2 42 0,TW 3 42 1,Ra 4] (sO [Xr 8 3 2,Xr 9 3 3,o 10 (.gg 148 [] [(.t 2),(.t 3)]),o 11 (.call 86 [(.t 8),(.t 9),(.t 10)]),om 7 11,U1 12 7 0,U1 13 7 1,om 5 12,om 6 13] (sO [om 14 6,om 4 14] .ret)))
theorem abQ:YQ 84=some ([.tmp 4],dA):=by kernel_rfl
noncomputable def aai:RC:=(sO [TW 2 164 0,UE 4] (sO [Ip 4] .ret))
theorem adi:YQ 87=some ([.tmp 4],aai):=by kernel_rfl
noncomputable def GV:RC:=(sO [VF 11 3 10 9] (sQ (cS 11 (.exit 0)) (sQ (.block 1 (sO [YS 12 2 8 10,Xr 13 2 12,E' 7 0 0 164,U5 2 7 13] (oP [om 14 5,om 15 1,Xr 16 2 7,o 17 (.VW (.t 15) [(.t 16)]),xk 18 55 2 1 0 0 0 2 17,Pg 19 55 2 16 14 18,om 5 19]))) (oP [Vw 20 3 10 1,om 10 20]))))
noncomputable def j7:RC:=(sO [Ra 4] (sO [Ra 5] (sQ (sO [om 8 0,Wj 9 8,WZ 10 0] (.block 0 (.loop GV))) (sO [om 21 5,om 4 21] .ret))))
theorem acF:YQ 88=some ([.tmp 4],j7):=by kernel_rfl
noncomputable def aM:RC:=(sO [TW 1 164 0,E' 2 0 0 55] (sO [Xr 3 2 1,U5 2 2 3] .ret))
theorem acY:YQ 89=some ([.cell 2 55],aM):=by kernel_rfl
noncomputable def jQ:RC:=(sO [om 5 0,Wj 6 5,om 4 6] (oP [om 7 0,om 8 4,om 9 4,o 10 (.raw (.convert 3 236 (.tmp 9))),Vf 11 151 10,om 12 1,o 13 (.call 150 [(.t 7),(vI 0),(.t 8),(.t 11),(.t 12)])]))
theorem acV:YQ 90=some ([],jQ):=by kernel_rfl
noncomputable def aau:RC:=(sO [TW 2 55 0,TW 3 55 1,WZ 4 0] (sQ (.Wq 13 [Mi 5 2 1 2 0,Ze 6 5,Mi 7 2 1 3 0,Ze 8 7,RL 9 153 6 8,Mi 10 2 1 2 1,Ze 11 10,Mi 12 2 1 3 1,Ze 13 12,RL 14 153 11 13,⟨some 15,none,some 10,false,.VC 3 1 2 [(iI 0),(iI 0)] [(0,1,(.t 9)),(1,1,(.t 14))]⟩,Vf 16 152 15,om 4 16]) .ret))
theorem adE:YQ 91=some ([.tmp 4],aau):=by kernel_rfl
noncomputable def oV:RC:=(sO [WZ 4 0] (sO [om 7 0,Vf 8 207 7,om 5 8] (sO [om 9 1,Vf 10 207 9,om 6 10] (sQ (sO [om 11 5] (cT 11 (sQ (sO [om 12 6] (cT 12 (sO [WZ 4 0] .ret))) (sO [o 4 (.Z1 (vI (-1)))] .ret)))) (sQ (sO [om 13 6] (cT 13 (sO [WZ 4 1] .ret))) (sQ (sO [om 14 0,om 15 1,VF 16 3 14 15] (cT 16 (sO [o 4 (.Z1 (vI (-1)))] .ret))) (sQ (sO [om 17 0,om 18 1,Bq 19 3 17 18] (cT 19 (sO [WZ 4 1] .ret))) (sO [WZ 4 0] .ret))))))))
theorem adF:YQ 153=some ([.tmp 4],oV):=by kernel_rfl
noncomputable def Qn:RC:=(sO [VF 9 3 8 7] (sQ (cS 9 (.exit 0)) (sQ (.block 1 (sO [YS 10 1 6 8,Ze 11 10,om 5 11] (sO [om 12 5,om 13 3,Ml 14 3 12 13] (cT 14 (sO [om 15 5,om 2 15] .ret))))) (oP [Vw 16 3 8 1,om 8 16]))))
noncomputable def iC:RC:=(sO [WZ 2 0] (sO [WZ 3 0] (sQ (sO [om 6 0,Wj 7 6,WZ 8 0] (.block 0 (.loop Qn))) (sO [om 17 3,om 2 17] .ret))))
theorem adG:YQ 152=some ([.tmp 2],iC):=by kernel_rfl
noncomputable def aav:RC:=(sO [UE 2] (sO [om 3 0,om 4 0,Ml 5 3 3 4,om 2 5] .ret))
theorem adH:YQ 207=some ([.tmp 2],aav):=by kernel_rfl
noncomputable def r68:RC:=(sO [TW 2 42 0,TW 3 42 1,Ra 4,WZ 5 0] (sQ (sO [Xr 8 3 2,Xr 9 3 3,RL 10 83 8 9,om 6 10] (sO [om 11 6,Oa 12 26 11 0] (cT 12 (sO [om 13 6,Ra 4,om 5 13] .ret)))) (sO [Xr 14 3 2,Xr 15 3 3,RL 16 84 14 15,om 7 16] (sO [om 17 7,om 18 7,Wj 19 18,Mg 20 3 19 0,Oi 21 85 20 7,om 4 17,om 5 21] .ret))))
theorem k68:YQ 27=some ([.tmp 4,.tmp 5],r68):=by kernel_rfl
noncomputable def GU:RC:=(sO [VF 33 3 32 31] (sQ (cS 33 (.exit 0)) (sQ (.block 1 (sO [om 34 32,YS 35 2 30 32,Xr 36 2 35,E' 10 0 0 55,om 9 34,U5 2 10 36] (sO [Mi 37 2 1 10 0,Ze 38 37,K' 39 3 38 0,om 40 39,E_ 41 40 2 1 10 0,Tk 42 40 41,P5 43 40 1 3,Tk 44 40 43,PZ 45 40 44,AU 46 40 3 42 45,Tj 47 40 46,om 48 47,E_ 49 48 2 1 10 1,Tk 50 48 49,oF 51 48 (.bin .lss 3 true (.t 50) (vI 0)),Tj 52 48 51,om 53 52,E_ 54 53 2 1 10 1,Tk 55 53 54,P5 56 53 1 4,Tk 57 53 56,PZ 58 53 57,AU 59 53 3 55 58,Tj 60 53 59,om 11 60] (sQ (sQ (.Wq 19 [om 61 11,Oi 62 85 61 10,om 63 9,Oc 64 3 63 0,om 65 64,VY 66 65 2,VY 67 65 9,ae_ 68 65 3 67 1,oT 69 65 (.raw (.call { callee:=.builtin .max,args:=#[(.const (.int .i64 0)),(.tmp 68)],argTypes:=#[3,3] })),RY 70 65 2 66 69,RZ 71 65 2 70,RZ 72 65 2 10,Iq 73 65 91 71 72,oT 74 65 (.bin .geq 3 true (.t 73) (vI 0)),TV 75 65 74,Oi 76 85 75 11,⟨some 77,none,some 16,false,.VC 26 1 2 [(iI 0),(iI 0)] [(0,1,(.t 62)),(1,1,(.t 76))]⟩,Vf 78 93 77,om 12 78]) (sO [om 79 12,Oa 80 26 79 0] (cT 80 (sO [om 81 12,om 6 81] .ret)))) (oP [om 82 8,Xr 83 2 10,af6 171 82 83]))))) (oP [Vw 84 3 32 1,om 32 84]))))
noncomputable def MV:RC:=(sO [VF 105 3 104 103] (sQ (cS 105 (.exit 4)) (sQ (.block 5 (sO [om 106 104,om 16 106] (.Wq 46 [om 107 13,om 108 107,oT 109 108 (.fa 2 (.t 3)),P0 110 108 109,oT 111 108 (.xV 2 1 (.t 15) (vI 0)),P0 112 108 111,RY 113 108 1 110 112,P0 114 108 113,VY 115 108 16,RY 116 108 1 114 115,P0 117 108 116,oT 118 108 (.fa 2 (.t 4)),P0 119 108 118,oT 120 108 (.xV 2 1 (.t 15) (vI 1)),P0 121 108 120,RY 122 108 1 119 121,P0 123 108 122,VY 124 108 16,RY 125 108 1 123 124,P0 126 108 125,oT 127 108 (.bin .eql 4 false (.t 117) (.t 126)),TV 128 108 127,om 129 128,VY 130 129 8,oT 131 129 (.fa 1 (.t 3)),P0 132 129 131,oT 133 129 (.xV 2 1 (.t 15) (vI 0)),P0 134 129 133,RY 135 129 1 132 134,P0 136 129 135,VY 137 129 16,RY 138 129 1 136 137,P0 139 129 138,oT 140 129 (.fa 1 (.t 4)),P0 141 129 140,oT 142 129 (.xV 2 1 (.t 15) (vI 1)),P0 143 129 142,RY 144 129 1 141 143,P0 145 129 144,VY 146 129 16,RY 147 129 1 145 146,P0 148 129 147,oT 149 129 (.JE [(iI 0),(iI 0)] [(0,1,(.t 139)),(1,1,(.t 148))]),oT 150 129 (.raw (.lookup 171 (.tmp 130) (.tmp 149) false)),TV 151 129 150,om 13 151]))) (oP [Vw 152 3 104 1,om 104 152]))))
noncomputable def Nj:RC:=(sO [VF 98 3 97 96] (sQ (cS 98 (.exit 2)) (sQ (.block 3 (sO [YS 99 2 95 97,Xr 100 2 99,E' 15 0 0 55,U5 2 15 100] (sO [YR 101 0 3,Ze 102 101,AT 103 3 1 102,WZ 104 0] (.block 4 (.loop MV))))) (oP [Vw 153 3 97 1,om 97 153]))))
noncomputable def r70:RC:=(sO [TW 3 42 0,TW 4 42 1,WZ 6 0] (sQ (sO [Xr 17 3 3,Xr 18 3 4,RL 19 83 17 18,om 20 2,Wj 21 20,Oc 22 3 21 65536,Oi 23 85 22 5,o 24 (.VC 26 1 2 [(iI 0),(iI 0)] [(0,1,(.t 19)),(1,1,(.t 23))]),Vf 25 93 24,om 7 25] (sO [om 26 7,Oa 27 26 26 0] (cT 27 (sO [om 28 7,om 6 28] .ret)))) (sO [vL 29 171,om 8 29] (sQ (sO [om 30 2,Wj 31 30,WZ 32 0] (.block 0 (.loop GU))) (sO [om 85 2,Wj 86 85,Oc 87 3 86 0,om 88 87,VY 89 88 2,oT 90 88 (.XV 2 (.t 89) (vI 0)),RZ 91 88 2 90,oT 92 88 (.JE [(iI 0),(iI 0)] []),oT 93 88 (.bin .eql 55 false (.t 91) (.t 92)),TV 94 88 93,om 13 94] (sQ (sO [om 95 2,Wj 96 95,WZ 97 0] (.block 2 (.loop Nj))) (sO [om 154 13,Mj 155 154,Oi 156 85 155 21,om 6 156] .ret)))))))
theorem k70:YQ 30=some ([.tmp 6],r70):=by kernel_rfl
noncomputable def Kp:RC:=(sO [om 115 16,om 116 1,Mm 117 3 115 116,om 118 2,om 119 16,Mm 120 3 118 119,om 18 117,om 19 120] (sO [om 121 12,E9 122 3 121 8,om 20 122] (sO [om 123 18,om 124 19,VF 125 3 123 124] (cO 125 (sO [om 126 18,om 127 20,af5 128 3 126 127,om 10 128] (sO [om 129 0,om 130 1,om 131 16,om 132 3,om 133 4,Io 134 150 129 130 131 132 133] (oP [om 135 16,Vw 136 3 135 1,om 1 136]))) (sO [om 137 19,om 138 20,af5 139 3 137 138,om 10 139] (sO [om 140 0,om 141 16,Vw 142 3 141 1,om 143 2,om 144 3,om 145 4,Io 146 150 140 142 143 144 145] (oP [om 147 16,om 2 147])))))))
noncomputable def Kb:RC:=(sQ (sQ (.Wq 17 [om 81 1,Oc 82 3 81 0,om 83 82,VY 84 83 4,VY 85 83 0,VY 86 83 1,ae_ 87 83 3 86 1,RY 88 83 2 85 87,RZ 89 83 2 88,VY 90 83 0,VY 91 83 13,RY 92 83 2 90 91,RZ 93 83 2 92,⟨some 94,some (83,true),none,true,.VW (.t 84) [(.t 89),(.t 93)]⟩,Fb 95 83 3 94 0,oT 96 83 (.un .not (.t 95)),TV 97 83 96]) (cT 97 (sO [om 98 0,om 99 1,om 100 2,om 101 13,om 102 4,Io 103 203 98 99 100 101 102,om 15 103] (sO [om 104 15,om 1 104] (.exit 1))))) (sO [om 106 0,om 107 1,om 108 2,om 109 13,om 110 4,Io 111 204 106 107 108 109 110,om 105 111,U1 112 105 0,U1 113 105 1,om 16 112,om 17 113] (sO [om 114 17,om 11 114] Kp)))
noncomputable def Pz:RC:=(sQ (sO [om 68 10,om 69 68,VY 70 69 11,TV 71 69 70,om 72 71,VY 73 72 14,BW 74 72 271 73 1,TV 75 72 74] (cT 75 (sO [om 76 0,om 77 1,om 78 2,om 79 4,Fc 80 202 76 77 78 79] (cT 80 .ret)))) Kb)
noncomputable def GR:RC:=(sO [om 48 0,om 49 1,om 50 2,om 51 4,Fc 52 200 48 49 50 51,om 47 52,U1 53 47 0,U1 54 47 1,om 13 53,om 14 54] (sQ (sO [om 55 14,Mg 56 271 55 2] (cT 56 (sO [om 57 0,om 58 1,om 59 2,om 60 4,Fc 61 201 57 58 59 60] (sO [om 62 2,Vz 63 3 62 1,om 64 13,om 65 1,Mm 66 3 64 65,Mm 67 3 63 66,om 13 67] (oP [WZ 14 1]))))) Pz))
noncomputable def N6:RC:=(.block 1 (sO [om 21 2,om 22 1,Mm 23 3 21 22,om 12 23] (sQ (sO [om 24 12,o 25 (.bin .leq 3 true (.t 24) (vI 12))] (cT 25 (sO [om 26 0,om 27 1,om 28 2,om 29 4,Fc 30 197 26 27 28 29] .ret))) (sQ (sO [om 31 3,Mg 32 3 31 0] (cT 32 (sO [om 33 0,om 34 1,om 35 2,om 36 4,Fc 37 198 33 34 35 36] .ret))) (sQ (sO [om 38 10,Mj 39 38] (cT 39 (sO [om 40 0,om 41 1,om 42 2,om 43 4,Fc 44 199 40 41 42 43] (oP [om 45 3,Vz 46 3 45 1,om 3 46])))) GR)))))
noncomputable def jR:RC:=(sO [Ip 10] (sO [Ip 11] (.block 0 (.loop N6))))
theorem acR:YQ 150=some ([],jR):=by kernel_rfl
noncomputable def NQ:RC:=(sQ (sQ (.Wq 17 [om 18 9,om 19 1,Bq 20 3 18 19,om 21 20,VY 22 21 3,VY 23 21 0,VY 24 21 9,RY 25 21 2 23 24,RZ 26 21 2 25,VY 27 21 0,VY 28 21 9,ae_ 29 21 3 28 1,RY 30 21 2 27 29,RZ 31 21 2 30,⟨some 32,some (21,true),none,true,.VW (.t 22) [(.t 26),(.t 31)]⟩,Fb 33 21 3 32 0,TV 34 21 33]) (cS 34 (.exit 2))) (sQ (.block 3 (.Wq 18 [om 37 0,om 38 9,om 39 0,om 40 9,Vz 41 3 40 1,om 42 0,om 43 9,Vz 44 3 43 1,YS 45 2 42 44,Xr 46 2 45,om 47 0,om 48 9,YS 49 2 47 48,Xr 50 2 49,YS 51 2 37 38,⟨none,none,none,true,.st 2 (.t 51) (.t 46)⟩,YS 52 2 39 41,⟨none,none,none,true,.st 2 (.t 52) (.t 50)⟩])) (oP [om 35 9,Vz 36 3 35 1,om 9 36])))
noncomputable def Lg:RC:=(sQ (sO [om 12 8,om 13 2,VF 14 3 12 13] (cS 14 (.exit 0))) (sQ (.block 1 (sO [om 17 8,om 9 17] (.block 2 (.loop NQ)))) (oP [om 15 8,Vw 16 3 15 1,om 8 16])))
noncomputable def iB:RC:=(sO [om 10 1,Vw 11 3 10 1,om 8 11] (.block 0 (.loop Lg)))
theorem adI:YQ 197=some ([],iB):=by kernel_rfl
noncomputable def Gw:RC:=(sQ (sQ (.Wq 16 [om 43 4,om 44 0,om 45 3,om 46 10,UD 47 3 45 46,YS 48 2 44 47,Xr 49 2 48,om 50 0,om 51 3,om 52 11,UD 53 3 51 52,YS 54 2 50 53,Xr 55 2 54,⟨some 56,none,none,true,.VW (.t 43) [(.t 49),(.t 55)]⟩,K' 57 3 56 0,Mj 58 57]) (cT 58 .ret)) (sQ (.Wq 24 [om 59 0,om 60 3,om 61 10,UD 62 3 60 61,om 63 0,om 64 3,om 65 11,UD 66 3 64 65,om 67 0,om 68 3,om 69 11,UD 70 3 68 69,YS 71 2 67 70,Xr 72 2 71,om 73 0,om 74 3,om 75 10,UD 76 3 74 75,YS 77 2 73 76,Xr 78 2 77,YS 79 2 59 62,⟨none,none,none,true,.st 2 (.t 79) (.t 72)⟩,YS 80 2 63 66,⟨none,none,none,true,.st 2 (.t 80) (.t 78)⟩]) (oP [om 81 11,om 10 81])))
noncomputable def NH:RC:=(.block 1 (sO [om 13 10,o 14 (.bin .mul 3 true (vI 2) (.t 13)),Vw 15 3 14 1,om 11 15] (sQ (sO [om 16 11,om 17 2,af5 18 3 16 17] (cT 18 (.exit 0))) (sQ (sQ (.Wq 22 [om 19 11,Vw 20 3 19 1,om 21 2,VF 22 3 20 21,om 23 22,VY 24 23 4,VY 25 23 0,VY 26 23 3,VY 27 23 11,oT 28 23 (.bin .add 3 false (.t 26) (.t 27)),RY 29 23 2 25 28,RZ 30 23 2 29,VY 31 23 0,VY 32 23 3,VY 33 23 11,oT 34 23 (.bin .add 3 false (.t 32) (.t 33)),oT 35 23 (.bin .add 3 true (.t 34) (vI 1)),RY 36 23 2 31 35,RZ 37 23 2 36,⟨some 38,some (23,true),none,true,.VW (.t 24) [(.t 30),(.t 37)]⟩,Fb 39 23 3 38 0,TV 40 23 39]) (cT 40 (oP [om 41 11,Vw 42 3 41 1,om 11 42]))) Gw))))
noncomputable def gG:RC:=(sO [om 12 1,om 10 12] (.block 0 (.loop NH)))
theorem aec:YQ 226=some ([],gG):=by kernel_rfl
noncomputable def Hx:RC:=(sQ (sO [om 20 11,Is 21 3 20 0] (cS 21 (.exit 0))) (sQ (.block 1 (oP [om 24 0,om 25 11,om 26 10,om 27 8,om 28 3,Io 29 226 24 25 26 27 28])) (oP [om 22 11,Vz 23 3 22 1,om 11 23])))
noncomputable def Hw:RC:=(sQ (sO [om 32 12,Is 33 3 32 0] (cS 33 (.exit 2))) (sQ (.block 3 (sQ (.Wq 20 [om 36 0,om 37 8,om 38 0,om 39 8,om 40 12,UD 41 3 39 40,om 42 0,om 43 8,om 44 12,UD 45 3 43 44,YS 46 2 42 45,Xr 47 2 46,om 48 0,om 49 8,YS 50 2 48 49,Xr 51 2 50,YS 52 2 36 37,⟨none,none,none,true,.st 2 (.t 52) (.t 47)⟩,YS 53 2 38 41,⟨none,none,none,true,.st 2 (.t 53) (.t 51)⟩]) (oP [om 54 0,om 55 9,om 56 12,om 57 8,om 58 3,Io 59 226 54 55 56 57 58]))) (oP [om 34 12,Vz 35 3 34 1,om 12 35])))
noncomputable def lW:RC:=(sO [om 13 1,om 8 13] (sO [WZ 9 0] (sO [om 14 2,om 15 1,Mm 16 3 14 15,om 10 16] (sQ (sO [om 17 10,Vz 18 3 17 1,E9 19 3 18 2,om 11 19] (.block 0 (.loop Hx))) (sO [om 30 10,Vz 31 3 30 1,om 12 31] (.block 2 (.loop Hw)))))))
theorem abm:YQ 198=some ([],lW):=by kernel_rfl
noncomputable def GH:RC:=(sQ (sO [om 13 8,om 14 9,VF 15 3 13 14] (cS 15 (.exit 0))) (.block 1 (sQ (.Wq 16 [om 16 0,om 17 8,om 18 0,om 19 9,om 20 0,om 21 9,YS 22 2 20 21,Xr 23 2 22,om 24 0,om 25 8,YS 26 2 24 25,Xr 27 2 26,YS 28 2 16 17,⟨none,none,none,true,.st 2 (.t 28) (.t 23)⟩,YS 29 2 18 19,⟨none,none,none,true,.st 2 (.t 29) (.t 27)⟩]) (sO [om 30 8,Vw 31 3 30 1,om 8 31] (oP [om 32 9,Vz 33 3 32 1,om 9 33])))))
noncomputable def iM:RC:=(sO [om 10 1,om 8 10] (sO [om 11 2,Vz 12 3 11 1,om 9 12] (.block 0 (.loop GH))))
theorem ads:YQ 201=some ([],iM):=by kernel_rfl
noncomputable def Oq:RC:=(sQ (sQ (.Wq 16 [om 32 12,om 33 13,ae' 34 3 32 33,om 35 34,VY 36 35 4,VY 37 35 0,VY 38 35 12,RY 39 35 2 37 38,RZ 40 35 2 39,VY 41 35 0,VY 42 35 1,RY 43 35 2 41 42,RZ 44 35 2 43,⟨some 45,some (35,true),none,true,.VW (.t 36) [(.t 40),(.t 44)]⟩,Fb 46 35 3 45 0,TV 47 35 46]) (cS 47 (.exit 0))) (.block 1 (oP [om 48 12,Vw 49 3 48 1,om 12 49])))
noncomputable def Oo:RC:=(sQ (sQ (.Wq 17 [om 50 12,om 51 13,ae' 52 3 50 51,om 53 52,VY 54 53 4,VY 55 53 0,VY 56 53 13,RY 57 53 2 55 56,RZ 58 53 2 57,VY 59 53 0,VY 60 53 1,RY 61 53 2 59 60,RZ 62 53 2 61,⟨some 63,some (53,true),none,true,.VW (.t 54) [(.t 58),(.t 62)]⟩,Fb 64 53 3 63 0,oT 65 53 (.un .not (.t 64)),TV 66 53 65]) (cS 66 (.exit 2))) (.block 3 (oP [om 67 13,Vz 68 3 67 1,om 13 68])))
noncomputable def On:RC:=(sQ (sQ (.Wq 16 [om 105 12,om 106 13,ae' 107 3 105 106,om 108 107,VY 109 108 4,VY 110 108 0,VY 111 108 12,RY 112 108 2 110 111,RZ 113 108 2 112,VY 114 108 0,VY 115 108 1,RY 116 108 2 114 115,RZ 117 108 2 116,⟨some 118,some (108,true),none,true,.VW (.t 109) [(.t 113),(.t 117)]⟩,Fb 119 108 3 118 0,TV 120 108 119]) (cS 120 (.exit 6))) (.block 7 (oP [om 121 12,Vw 122 3 121 1,om 12 122])))
noncomputable def Om:RC:=(sQ (sQ (.Wq 17 [om 123 12,om 124 13,ae' 125 3 123 124,om 126 125,VY 127 126 4,VY 128 126 0,VY 129 126 13,RY 130 126 2 128 129,RZ 131 126 2 130,VY 132 126 0,VY 133 126 1,RY 134 126 2 132 133,RZ 135 126 2 134,⟨some 136,some (126,true),none,true,.VW (.t 127) [(.t 131),(.t 135)]⟩,Fb 137 126 3 136 0,oT 138 126 (.un .not (.t 137)),TV 139 126 138]) (cS 139 (.exit 8))) (.block 9 (oP [om 140 13,Vz 141 3 140 1,om 13 141])))
noncomputable def G0:RC:=(.block 5 (sQ (.block 6 (.loop On)) (sQ (.block 8 (.loop Om)) (sQ (sO [om 142 12,om 143 13,Bq 144 3 142 143] (cT 144 (.exit 4))) (sQ (.Wq 16 [om 145 0,om 146 12,om 147 0,om 148 13,om 149 0,om 150 13,YS 151 2 149 150,Xr 152 2 151,om 153 0,om 154 12,YS 155 2 153 154,Xr 156 2 155,YS 157 2 145 146,⟨none,none,none,true,.st 2 (.t 157) (.t 152)⟩,YS 158 2 147 148,⟨none,none,none,true,.st 2 (.t 158) (.t 156)⟩]) (sO [om 159 12,Vw 160 3 159 1,om 12 160] (oP [om 161 13,Vz 162 3 161 1,om 13 162])))))))
noncomputable def kR:RC:=(sO [WZ 10 0,UE 11] (sQ (.Wq 16 [om 14 0,om 15 1,om 16 0,om 17 3,om 18 0,om 19 3,YS 20 2 18 19,Xr 21 2 20,om 22 0,om 23 1,YS 24 2 22 23,Xr 25 2 24,YS 26 2 14 15,⟨none,none,none,true,.st 2 (.t 26) (.t 21)⟩,YS 27 2 16 17,⟨none,none,none,true,.st 2 (.t 27) (.t 25)⟩]) (sO [om 28 1,Vw 29 3 28 1,om 30 2,Vz 31 3 30 1,om 12 29,om 13 31] (sQ (.block 0 (.loop Oq)) (sQ (.block 2 (.loop Oo)) (sQ (sO [om 69 12,om 70 13,Bq 71 3 69 70] (cT 71 (sQ (.Wq 16 [om 72 0,om 73 13,om 74 0,om 75 1,om 76 0,om 77 1,YS 78 2 76 77,Xr 79 2 78,om 80 0,om 81 13,YS 82 2 80 81,Xr 83 2 82,YS 84 2 72 73,⟨none,none,none,true,.st 2 (.t 84) (.t 79)⟩,YS 85 2 74 75,⟨none,none,none,true,.st 2 (.t 85) (.t 83)⟩]) (sO [om 86 13,om 10 86,Ip 11] .ret)))) (sQ (.Wq 16 [om 87 0,om 88 12,om 89 0,om 90 13,om 91 0,om 92 13,YS 93 2 91 92,Xr 94 2 93,om 95 0,om 96 12,YS 97 2 95 96,Xr 98 2 97,YS 99 2 87 88,⟨none,none,none,true,.st 2 (.t 99) (.t 94)⟩,YS 100 2 89 90,⟨none,none,none,true,.st 2 (.t 100) (.t 98)⟩]) (sO [om 101 12,Vw 102 3 101 1,om 12 102] (sO [om 103 13,Vz 104 3 103 1,om 13 104] (sQ (.block 4 (.loop G0)) (sQ (.Wq 16 [om 163 0,om 164 13,om 165 0,om 166 1,om 167 0,om 168 1,YS 169 2 167 168,Xr 170 2 169,om 171 0,om 172 13,YS 173 2 171 172,Xr 174 2 173,YS 175 2 163 164,⟨none,none,none,true,.st 2 (.t 175) (.t 170)⟩,YS 176 2 165 166,⟨none,none,none,true,.st 2 (.t 176) (.t 174)⟩]) (sO [om 177 13,om 10 177,UE 11] .ret))))))))))))
theorem abS:YQ 204=some ([.tmp 10,.tmp 11],kR):=by kernel_rfl
noncomputable def OU:RC:=(sQ (sQ (.Wq 18 [om 19 9,om 20 2,VF 21 3 19 20,om 22 21,VY 23 22 3,VY 24 22 0,VY 25 22 9,RY 26 22 2 24 25,RZ 27 22 2 26,VY 28 22 0,VY 29 22 9,ae_ 30 22 3 29 1,RY 31 22 2 28 30,RZ 32 22 2 31,⟨some 33,some (22,true),none,true,.VW (.t 23) [(.t 27),(.t 32)]⟩,Fb 34 22 3 33 0,oT 35 22 (.un .not (.t 34)),TV 36 22 35]) (cS 36 (.exit 2))) (.block 3 (oP [om 37 9,Vw 38 3 37 1,om 9 38])))
noncomputable def QA:RC:=(sQ (sO [om 68 11,Is 69 3 68 1] (cS 69 (.exit 4))) (sQ (.block 5 (sQ (sQ (.Wq 13 [om 72 3,om 73 0,om 74 11,YS 75 2 73 74,Xr 76 2 75,om 77 0,om 78 11,Vz 79 3 78 1,YS 80 2 77 79,Xr 81 2 80,⟨some 82,none,none,true,.VW (.t 72) [(.t 76),(.t 81)]⟩,K' 83 3 82 0,Mj 84 83]) (cT 84 (.exit 4))) (.Wq 18 [om 85 0,om 86 11,om 87 0,om 88 11,Vz 89 3 88 1,om 90 0,om 91 11,Vz 92 3 91 1,YS 93 2 90 92,Xr 94 2 93,om 95 0,om 96 11,YS 97 2 95 96,Xr 98 2 97,YS 99 2 85 86,⟨none,none,none,true,.st 2 (.t 99) (.t 94)⟩,YS 100 2 87 89,⟨none,none,none,true,.st 2 (.t 100) (.t 98)⟩]))) (oP [om 70 11,Vz 71 3 70 1,om 11 71])))
noncomputable def OS:RC:=(sQ (sO [om 107 12,om 108 2,VF 109 3 107 108] (cS 109 (.exit 6))) (sQ (.block 7 (sQ (sQ (.Wq 13 [om 112 3,om 113 0,om 114 12,YS 115 2 113 114,Xr 116 2 115,om 117 0,om 118 12,Vz 119 3 118 1,YS 120 2 117 119,Xr 121 2 120,⟨some 122,none,none,true,.VW (.t 112) [(.t 116),(.t 121)]⟩,K' 123 3 122 0,Mj 124 123]) (cT 124 (.exit 6))) (.Wq 18 [om 125 0,om 126 12,om 127 0,om 128 12,Vz 129 3 128 1,om 130 0,om 131 12,Vz 132 3 131 1,YS 133 2 130 132,Xr 134 2 133,om 135 0,om 136 12,YS 137 2 135 136,Xr 138 2 137,YS 139 2 125 126,⟨none,none,none,true,.st 2 (.t 139) (.t 134)⟩,YS 140 2 127 129,⟨none,none,none,true,.st 2 (.t 140) (.t 138)⟩]))) (oP [om 110 12,Vw 111 3 110 1,om 12 111])))
noncomputable def Gv:RC:=(sO [om 101 2,om 102 9,Mm 103 3 101 102,Is 104 3 103 2] (cT 104 (sO [om 105 9,Vw 106 3 105 1,om 12 106] (.block 6 (.loop OS)))))
noncomputable def Gu:RC:=(sQ (sO [om 15 10,K' 16 3 15 5] (cS 16 (.exit 0))) (sQ (.block 1 (sQ (.block 2 (.loop OU)) (sQ (sO [om 39 9,om 40 2,af2 41 3 39 40] (cT 41 (sO [Ip 8] .ret))) (sQ (sO [om 42 2,om 43 1,Mm 44 3 42 43,K' 45 3 44 50] (cT 45 (sO [UE 8] .ret))) (sQ (.Wq 18 [om 46 0,om 47 9,om 48 0,om 49 9,Vz 50 3 49 1,om 51 0,om 52 9,Vz 53 3 52 1,YS 54 2 51 53,Xr 55 2 54,om 56 0,om 57 9,YS 58 2 56 57,Xr 59 2 58,YS 60 2 46 47,⟨none,none,none,true,.st 2 (.t 60) (.t 55)⟩,YS 61 2 48 50,⟨none,none,none,true,.st 2 (.t 61) (.t 59)⟩]) (sQ (sO [om 62 9,om 63 1,Mm 64 3 62 63,Is 65 3 64 2] (cT 65 (sO [om 66 9,Vz 67 3 66 1,om 11 67] (.block 4 (.loop QA))))) Gv)))))) (oP [om 17 10,Vw 18 3 17 1,om 10 18])))
noncomputable def gD:RC:=(sO [UE 8] (sO [om 13 1,Vw 14 3 13 1,om 9 14] (sQ (sO [WZ 10 0] (.block 0 (.loop Gu))) (sO [UE 8] .ret))))
theorem aee:YQ 202=some ([.tmp 8],gD):=by kernel_rfl
noncomputable def Ey:RC:=(sO [WZ 8 0,WZ 9 0] (sO [om 15 2,om 16 1,Mm 17 3 15 16,om 10 17] (sO [o 11 (.al [(iI 0)] 3)] (sO [om 18 1,om 19 10,E9 20 3 19 4,af0 21 3 20 1,UD 22 3 18 21,om 12 22] (sO [om 23 1,om 24 10,E9 25 3 24 4,af0 26 3 25 2,UD 27 3 23 26,om 13 27] (sO [om 28 1,om 29 10,E9 30 3 29 4,af0 31 3 30 3,UD 32 3 28 31,om 14 32] (sQ (sO [om 33 10,Is 34 3 33 8] (cT 34 (sQ (sO [om 35 10,Is 36 3 35 50] (cT 36 (sO [om 37 0,om 38 12,om 39 3,Fc 40 229 37 38 11 39,om 12 40] (sO [om 41 0,om 42 13,om 43 3,Fc 44 229 41 42 11 43,om 13 44] (oP [om 45 0,om 46 14,om 47 3,Fc 48 229 45 46 11 47,om 14 48]))))) (oP [om 49 0,om 50 12,om 51 13,om 52 14,om 53 3,o 54 (.call 230 [(.t 49),(.t 50),(.t 51),(.t 52),(.t 11),(.t 53)]),om 13 54])))) (sO [Ze 55 11] (.block 0 (sO [Mg 58 3 55 0,om 57 58] (cO 57 (sO [om 59 13,om 8 59,WZ 9 1] .ret) (sO [Mg 61 3 55 12,om 60 61] (cO 60 (sO [om 62 13,om 8 62,WZ 9 2] .ret) (sO [om 56 13,om 8 56,WZ 9 0] .ret))))))))))))))
theorem adM:YQ 200=some ([.tmp 8,.tmp 9],Ey):=by kernel_rfl
noncomputable def iu:RC:=(sO [WZ 8 0] (sO [om 9 0,om 10 1,Vz 11 3 10 1,om 12 1,om 13 1,Vw 14 3 13 1,om 15 2,om 16 3,o 17 (.call 230 [(.t 9),(.t 11),(.t 12),(.t 14),(.t 15),(.t 16)]),om 8 17] .ret))
theorem adL:YQ 229=some ([.tmp 8],iu):=by kernel_rfl
noncomputable def iy:RC:=(sO [WZ 12 0] (sO [om 14 0,om 15 1,om 16 2,om 17 4,om 18 5,Io 19 258 14 15 16 17 18,om 13 19,U1 20 13 0,U1 21 13 1,om 1 20,om 2 21] (sO [om 23 0,om 24 2,om 25 3,om 26 4,om 27 5,Io 28 258 23 24 25 26 27,om 22 28,U1 29 22 0,U1 30 22 1,om 2 29,om 3 30] (sO [om 32 0,om 33 1,om 34 2,om 35 4,om 36 5,Io 37 258 32 33 34 35 36,om 31 37,U1 38 31 0,U1 39 31 1,om 1 38,om 2 39] (sO [om 40 2,om 12 40] .ret)))))
theorem adK:YQ 230=some ([.tmp 12],iy):=by kernel_rfl
noncomputable def oU:RC:=(sO [WZ 10 0,WZ 11 0] (sQ (sQ (.Wq 11 [om 12 4,om 13 0,om 14 2,YS 15 2 13 14,Xr 16 2 15,om 17 0,om 18 1,YS 19 2 17 18,Xr 20 2 19,⟨some 21,none,none,true,.VW (.t 12) [(.t 16),(.t 20)]⟩,K' 22 3 21 0]) (cT 22 (sO [om 23 3,UY 24 23,Ze 25 24,Vw 26 3 25 1,UY 27 23,U5 1 27 26] (sO [om 28 2,om 29 1,om 10 28,om 11 29] .ret)))) (sO [om 30 1,om 31 2,om 10 30,om 11 31] .ret)))
theorem adJ:YQ 258=some ([.tmp 10,.tmp 11],oU):=by kernel_rfl
noncomputable def Lb:RC:=(sQ (sO [om 28 11,om 29 1,om 30 8,E9 31 3 30 4,af0 32 3 31 2,UD 33 3 29 32,Vw 34 3 33 1,ae' 35 3 28 34] (cS 35 (.exit 0))) (sQ (.block 1 (sO [Vf 38 228 9,om 39 10,o 40 (.bin .sub 236 true (.t 39) (.v (.int .u64 1))),o 41 (.bin .and 236 false (.t 38) (.t 40)),o 42 (.raw (.convert 236 3 (.tmp 41))),om 12 42] (sQ (sO [om 43 12,om 44 8,af5 45 3 43 44] (cT 45 (oP [om 46 12,om 47 8,Mm 48 3 46 47,om 12 48]))) (.Wq 20 [om 49 0,om 50 11,om 51 0,om 52 1,om 53 12,UD 54 3 52 53,om 55 0,om 56 1,om 57 12,UD 58 3 56 57,YS 59 2 55 58,Xr 60 2 59,om 61 0,om 62 11,YS 63 2 61 62,Xr 64 2 63,YS 65 2 49 50,⟨none,none,none,true,.st 2 (.t 65) (.t 60)⟩,YS 66 2 51 54,⟨none,none,none,true,.st 2 (.t 66) (.t 64)⟩])))) (oP [om 36 11,Vw 37 3 36 1,om 11 37])))
noncomputable def ib:RC:=(sO [om 13 2,om 14 1,Mm 15 3 13 14,om 8 15] (sO [om 16 8,Is 17 3 16 8] (cT 17 (sO [om 18 8,o 19 (.raw (.convert 3 293 (.tmp 18))),o 9 (.al [(.int .u64 0)] 293),U5 1 9 19] (sO [om 20 8,Vf 21 227 20,om 10 21] (sO [om 22 1,om 23 8,E9 24 3 23 4,af0 25 3 24 2,UD 26 3 22 25,Vz 27 3 26 1,om 11 27] (.block 0 (.loop Lb))))))))
theorem adX:YQ 199=some ([],ib):=by kernel_rfl
noncomputable def ie:RC:=(sO [o 2 (.Z1 (.v (.int .u64 0)))] (sQ (.Wq 10 [om 3 0,UY 4 3,Ze 5 4,om 6 0,UY 7 6,Ze 8 7,o 9 (.bin .shl 293 true (.t 8) (.v (.int .u64 13))),o 10 (.bin .xor 293 false (.t 5) (.t 9)),UY 11 3,⟨none,none,none,true,.st 1 (.t 11) (.t 10)⟩]) (sQ (.Wq 10 [om 12 0,UY 13 12,Ze 14 13,om 15 0,UY 16 15,Ze 17 16,o 18 (.bin .shr 293 true (.t 17) (.v (.int .u64 7))),o 19 (.bin .xor 293 false (.t 14) (.t 18)),UY 20 12,⟨none,none,none,true,.st 1 (.t 20) (.t 19)⟩]) (sQ (.Wq 10 [om 21 0,UY 22 21,Ze 23 22,om 24 0,UY 25 24,Ze 26 25,o 27 (.bin .shl 293 true (.t 26) (.v (.int .u64 17))),o 28 (.bin .xor 293 false (.t 23) (.t 27)),UY 29 21,⟨none,none,none,true,.st 1 (.t 29) (.t 28)⟩]) (sO [om 30 0,UY 31 30,Ze 32 31,om 2 32] .ret)))))
theorem adU:YQ 228=some ([.tmp 2],ie):=by kernel_rfl
noncomputable def lg:RC:=(sO [TW 4 164 0,UE 6] (sQ (.Wq 20 [YR 7 2 2,Ze 8 7,Mi 9 2 1 4 0,Ze 10 9,YS 11 1 8 10,Ze 12 11,om 13 1,YS 14 1 12 13,Ze 15 14,YR 16 2 3,Ze 17 16,Mi 18 2 1 4 1,Ze 19 18,YS 20 1 17 19,Ze 21 20,om 22 1,YS 23 1 21 22,Ze 24 23,af2 25 4 15 24,om 6 25]) .ret))
theorem abP:YQ 148=some ([.tmp 6],lg):=by kernel_rfl
theorem aaL (n:Int):Zv U 207 [.int .i64 n]=some (.bool false):=by
 refine Za adH (by kernel_rfl) rfl ?_;simp only[go_sem,aav,bne_self_eq_false]
def HM (a b:Int):Int:=br (decide (a<b)) (-1) (br (decide (a>b)) 1 0)
theorem aaM (a b:Int):Zv U 153 [.int .i64 a,.int .i64 b]=some (.int .i64 (HM a b)):=by
 refine Za adF (by kernel_rfl) rfl ?_;have h1:=aaL a;have h2:=aaL b;unfold HM
 cases ha:decide (a<b) with
 |true=>simp only[go_sem,oV,h1,h2,ha,WJ]
 |false =>
  cases hb:decide (a>b) with
  |true=>simp only[go_sem,oV,h1,h2,ha,hb,WJ,Zh]
  |false=>simp only[go_sem,oV,h1,h2,ha,hb,Zh]
def Af (x0 x1 y0 y1:Int):Int:=br (HM x0 y0 != 0) (HM x0 y0) (HM x1 y1)
theorem adV (a b:Int):go U (VZ U [.tmp 2]) [] iC (ZM 0 [.fz [.int .i64 a,.int .i64 b]] .nil) (YH U)=some (.int .i64 (br (a != 0) a b)):=by
 have w1:IntKind.i64.wrap 1=1:=rfl;have w2:IntKind.i64.wrap 2=2:=rfl;have d0:decide ((0:Int)<((2:Nat):Int))=true:=rfl;have d1:decide ((1:Int)<((2:Nat):Int))=true:=rfl;have d2:decide ((2:Int)<((2:Nat):Int))=false:=rfl;have i1:UT 1 (.fz [.int .i64 a,.int .i64 b]) (.int .i64 1)=some (.fp [.int .i64 b] 0):=rfl;simp only[go_sem,iC];rw[Rd]
 cases ha:a != 0 with
 |true=>simp only[go_sem,Qn,ha,d0,WJ]
 |false =>
  simp only[go_sem,Qn,ha,d0,w1,WJ,Zh];rw[Rd]
  cases hb:b != 0 with
  |true=>simp only[go_sem,Qn,hb,d1,i1,WJ]
  |false =>
   have vJ:b=0:=by simpa using hb
   subst vJ;simp only[go_sem,Qn,hb,d1,i1,w2,WJ,Zh];rw[Rd];simp only[go_sem,Qn,d2,WJ,Zh]
theorem aaN (a b:Int)(s:St):UC U 152 (some [.fz [.int .i64 a,.int .i64 b]]) s=some (.int .i64 (br (a != 0) a b),s):=Yk U s (acB adG rfl (adV a b))
theorem aaO {s:St}{j:Nat}{a b:Int}(h:s.get j=some (.cells [.int .i64 a,.int .i64 b] 3 false 0 0)):YX U (Zv U 152 [.sl j 0 2 (some 2) 1]) 152 [.sl j 0 2 (some 2) 1] s=some (.int .i64 (br (a != 0) a b),s):=by
 rw[Jv (by kernel_rfl) s rfl];have h1:YG U s 40 (.sl j 0 2 (some 2) 1)=some (.fz [.int .i64 a,.int .i64 b]):=A3 (d:=38) (s:=s) (b:=j) (cap:=some 2) (l:=[a,b]) h;have hm:Zg (YG U s 40) [.sl j 0 2 (some 2) 1]=some [.fz [.int .i64 a,.int .i64 b]]:=by
  simp only[Zg,h1]
 rw[hm];exact aaN a b s
theorem Pc (x0 x1 y0 y1:Int):Zv U 91 [.agg [.int .i64 x0,.int .i64 x1],.agg [.int .i64 y0,.int .i64 y1]]=some (.int .i64 (Af x0 x1 y0 y1)):=by
 refine Za adE (by kernel_rfl) rfl ?_;have h1:=aaM x0 y0;have h2:=aaM x1 y1;have hk:=fun (S:St) (j:Nat) (h:S.get j=some (.cells [.int .i64 (HM x0 y0),.int .i64 (HM x1 y1)] 3 false 0 0))=>aaO h
 simp only[go_sem,aau,h1,h2,hk];rfl
theorem XC {k c d:Nat}(hk:0<k):decide (Af ((c / k:Nat):Int) ((c%k:Nat):Int) ((d / k:Nat):Int) ((d%k:Nat):Int)<0)=decide (c<d)/\(Af ((c / k:Nat):Int) ((c%k:Nat):Int) ((d / k:Nat):Int) ((d%k:Nat):Int)>=0<->d<=c):=by
 have hc:=Nat.div_add_mod c k;have hd:=Nat.div_add_mod d k;have h1:=Nat.mod_lt c hk;have h2:=Nat.mod_lt d hk;have key:(c / k<d / k->c<d)/\(d / k<c / k->d<c):=by
  refine⟨fun h=>?_,fun h=>?_⟩
  ·have:k*(c / k+1)<=k*(d / k):=Nat.mul_le_mul_left k h;rw[Nat.mul_add,ae3] at this;omega
  ·have:k*(d / k+1)<=k*(c / k):=Nat.mul_le_mul_left k h;rw[Nat.mul_add,ae3] at this;omega
 have adW:c / k=d / k->(c<d<->c%k<d%k):=fun h=>by
  rw[h] at hc;omega
 generalize c / k=c0 at *;generalize c%k=c1 at *;generalize d / k=d0 at *;generalize d%k=d1 at *;unfold Af HM;rcases Nat.lt_trichotomy c0 d0 with h|h|h
 ·have b1:decide (((c0:Nat):Int)<((d0:Nat):Int))=true:=decide_eq_true (by omega);have:=key.1 h;rw[b1,WJ];simp[br];omega
 ·have b1:decide (((c0:Nat):Int)<((d0:Nat):Int))=false:=decide_eq_false (by omega);have b2:decide (((c0:Nat):Int)>((d0:Nat):Int))=false:=decide_eq_false (by omega);have e:=adW h;rw[b1,b2,Zh,Zh,show ((0:Int) != 0)=false from rfl,Zh];rcases Nat.lt_trichotomy c1 d1 with h'|h'|h'
  ·have b3:decide (((c1:Nat):Int)<((d1:Nat):Int))=true:=decide_eq_true (by omega);rw[b3,WJ];simp;omega
  ·have b3:decide (((c1:Nat):Int)<((d1:Nat):Int))=false:=decide_eq_false (by omega);have b4:decide (((c1:Nat):Int)>((d1:Nat):Int))=false:=decide_eq_false (by omega);rw[b3,b4,Zh,Zh];simp;omega
  ·have b3:decide (((c1:Nat):Int)<((d1:Nat):Int))=false:=decide_eq_false (by omega);have b4:decide (((c1:Nat):Int)>((d1:Nat):Int))=true:=decide_eq_true (by omega);rw[b3,b4,Zh,WJ];simp;omega
 ·have b1:decide (((c0:Nat):Int)<((d0:Nat):Int))=false:=decide_eq_false (by omega);have b2:decide (((c0:Nat):Int)>((d0:Nat):Int))=true:=decide_eq_true (by omega);have:=key.2 h;rw[b1,b2,Zh,WJ];simp[br];omega
end Go.Am
namespace Go.Am
open Go
def Qg:Nat->List Nat->List Nat
 |0,L=>L
 |j+1,L=>bif decide (gt L (j+1)<gt L j) then Qg j ((L.set (j+1) (gt L j)).set j (gt L (j+1))) else L
def O':Nat->Nat->List Nat->List Nat
 |0,_,L=>L
 |r+1,i,L=>O' r (i+1) (Qg i L)
theorem HK:∀(j:Nat) (L:List Nat),(Qg j L).length=L.length
 |0,_=>rfl
 |j+1,L=>by
  rw[Qg]
  cases decide (gt L (j+1)<gt L j) with
  |true=>rw[cond_true,HK j];simp
  |false=>rfl
theorem BP {A B:List Nat}{x:Nat}:gt (A++x::B) A.length=x:=by
 unfold gt;rw[ae4,afO (aba _)];simp
theorem K8:∀(j:Nat) (A B:List Nat) (x:Nat),A.length=j->A.Pairwise (·<=·)->∃A2,Qg j (A++x::B)=A2++B/\A2.Perm (A++[x])/\A2.Pairwise (·<=·)
 |0,A,B,x,hA,_=>by
  have:A=[]:=afq.1 hA;subst this;exact⟨[x],rfl,List.Perm.refl _,by simp⟩
 |j+1,A,B,x,hA,hs=>by
  obtain⟨A',y,rfl⟩:∃A' y,A=A'++[y]:=by
   refine⟨A.dropLast,A.getLast (by intro e;rw[e] at hA;simp at hA),?_⟩;exact (List.dropLast_concat_getLast _).symm
  have hl:A'.length=j:=by simpa using hA
  have e1:gt (A'++[y]++x::B) (j+1)=x:=by
   have:=BP (A:=A'++[y]) (B:=B) (x:=x)
   rwa [aeW,aff,hl] at this
  have e2:gt (A'++[y]++x::B) j=y:=by
   rw[aft];have:=BP (A:=A') (B:=x::B) (x:=y)
   rwa [hl] at this
  rw[Qg,e1,e2];rw[afM] at hs;obtain⟨s1,_,s3⟩:=hs
  cases hd:decide (x<y) with
  |true =>
   have Ge:x<y:=of_decide_eq_true hd;have e3:((A'++[y]++x::B).set (j+1) y).set j x=A'++x::(y::B):=by
    rw[aft,List.set_append_right _ _ (by omega),List.set_append_right _ _ (by omega),hl,Nat.add_sub_cancel_left,Nat.sub_self];rfl
   rw[cond_true,e3];obtain⟨A2,q1,q2,q3⟩:=K8 j A' (y::B) x hl s1;refine⟨A2++[y],by rw[q1];simp,?_,?_⟩
   ·have h1:(A2++[y]).Perm ((A'++[x])++[y]):=q2.append_right _;have h2:((A'++[x])++[y]).Perm ((A'++[y])++[x]):=by
     rw[aft,aft];exact List.Perm.append_left _ (List.Perm.swap _ _ _)
    exact h1.trans h2
   ·rw[afM];refine⟨q3,by simp,fun a ha b hb=>?_⟩;rw[ae0.1 hb];rcases afb.1 (q2.mem_iff.1 ha) with h|h
    ·exact s3 a h y (ae0.2 rfl)
    ·rw[ae0.1 h];omega
  |false =>
   have Ge:¬x<y:=of_decide_eq_false hd;rw[cond_false];refine⟨A'++[y]++[x],by simp,List.Perm.refl _,?_⟩;rw[afM];refine⟨by rw[afM];exact⟨s1,by simp,s3⟩,by simp,fun a ha b hb=>?_⟩;rw[ae0.1 hb];rcases afb.1 ha with h|h
   ·have:=s3 a h y (ae0.2 rfl);omega
   ·rw[ae0.1 h];omega
theorem K7:∀(r:Nat) (A B:List Nat),B.length=r->A.Pairwise (·<=·)->(O' r A.length (A++B)).Perm (A++B)/\(O' r A.length (A++B)).Pairwise (·<=·)
 |0,A,B,hB,hs=>by
  have:B=[]:=afq.1 hB;subst this;rw[O',List.append_nil];exact⟨List.Perm.refl _,hs⟩
 |r+1,A,[],hB,hs=>by simp at hB
 |r+1,A,x::B,hB,hs=>by
  obtain⟨A2,q1,q2,q3⟩:=K8 A.length A B x rfl hs;have hl:A2.length=A.length+1:=by have:=q2.length_eq;simpa using this
  rw[O',q1,<-hl];obtain⟨p1,p2⟩:=K7 r A2 B (by simpa using hB) q3;refine⟨p1.trans ?_,p2⟩;have:=q2.append_right B
  rwa [aft] at this
def S4 (L:List Nat):List Nat:=O' (L.length-1) 1 L
theorem Wp (L:List Nat):(S4 L).Perm L/\(S4 L).Pairwise (·<=·):=by
 unfold S4
 cases L with
 |nil=>exact⟨List.Perm.refl _,List.Pairwise.nil⟩
 |cons x L =>
  have:=K7 L.length [x] L rfl (by simp);exact this
end Go.Am
