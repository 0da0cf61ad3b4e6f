/- A part of the proof. -/
import Derived.Test.YtkmaeondbkpajaaGreatDoorE18
set_option linter.all false
set_option maxHeartbeats 8000000
set_option maxRecDepth 100000
namespace Go.Am
open Go
variable [Z8]
def alM {a b:Zv}(ha:a.ok)(hb:b.ok)(VK:a.lines=b.lines){c x:Nat}(hc:c<(Zg a.fa b.fa).n)(hx:x<2^a.lines.toNat){A0 B0:Nat}{s:St}(pJ:A0<s.next)(hlB:B0<s.next)(gA:s.get A0=some (.cells [.int .i64 a.lines,ZU a.Xb (a.next.map ZF),ZU a.WG (a.ZW.map ZM)] 42 false 0 0))(gB:s.get B0=some (.cells [.int .i64 b.lines,ZU b.Xb (b.next.map ZF),ZU b.WG (b.ZW.map ZM)] 42 false 0 0))(fr:Fr s) :
  ∃s',UN U 148 [.agg (Yr b.fa.n c),.int .i64 (x:Nat),.ptr A0 0,.ptr B0 0] s=some (.bool (yA a b c x),s')/\(∀j,j<s.next->s'.get j=s.get j)/\s.next<=s'.next/\Fr s':=by
 suffices K':∃o,go U (Us U [.tmp 6]) [] aek (Zr 0 [.agg (Yr b.fa.n c),.int .i64 (x:Nat),.ptr A0 0,.ptr B0 0] .nil) s=some o/\o.1=.bool (yA a b c x)/\(∀j,j<s.next->o.2.get j=s.get j)/\s.next<=o.2.next/\Fr o.2 by
  obtain⟨⟨v,s'⟩,h1,h2,h3⟩:=K';simp only at h2;subst h2;exact⟨s',Yi alN It h1,h3⟩
 have iV:c / b.fa.n<a.next.length:=Nat.div_lt_of_lt_mul (by rw[Nat.mul_comm];exact hc);have Jg:c%b.fa.n<b.next.length:=Nat.mod_lt _ hb.pos;have n3:=ha.aaZ iV hx;have n4:=hb.aaZ Jg (by rw[<-VK];exact hx);have r3:=Uj (nl:=a.WG) (l:=a.ZW) (i:=c / b.fa.n) (by rw[ha.fl];exact iV);have r4:=Uj (nl:=b.WG) (l:=b.ZW) (i:=c%b.fa.n) (by rw[hb.fl];exact Jg);have f1:∀q,(s.next+q=A0)=False:=λq=>F_
 have f2:∀q,(s.next+q=B0)=False:=λq=>F_
 have f1':(s.next=A0)=False:=F_;have f2':(s.next=B0)=False:=F_;unfold Yr;simp only[go_sem,aek,gA,gB,n3,n4,r3,r4,Al,f1',f2'];exact⟨_,rfl,rfl,λj h=>by rw[ZR,Z5,O3 J],O0,(fr.new _).upto O0⟩
def ael {a b:Zv}(ha:a.ok)(hb:b.ok)(VK:a.lines=b.lines){A0 B0 N:Nat}(hA:A0<N)(hB:B0<N):Yld (.fn (.func 148) [] [.ptr A0 0,.ptr B0 0]) b.fa.n N Unit (λ_ s=>A0<s.next/\B0<s.next/\s.get A0=some (.cells [.int .i64 a.lines,ZU a.Xb (a.next.map ZF),ZU a.WG (a.ZW.map ZM)] 42 false 0 0)/\s.get B0=some (.cells [.int .i64 b.lines,ZU b.Xb (b.next.map ZF),ZU b.WG (b.ZW.map ZM)] 42 false 0 0)) (λ_ _=>False) (λc x=>c<(Zg a.fa b.fa).n/\x<2^a.lines.toNat) (yA a b) (λ_ _ _ _=>True):=by
 refine⟨λg c x s hd AK hf=>?_,λg s s' AK hn hs=>⟨J,J,(hs A0 AK.1 (.inr hA)).trans AK.2.2.1,(hs B0 AK.2.1 (.inr hB)).trans AK.2.2.2⟩,λ_ _ _ _ h=>h.elim⟩;obtain⟨h1,h2,h3,h4⟩:=AK;obtain⟨s',e,k1,k2,k3⟩:=alM ha hb VK hd.1 hd.2 h1 h2 h3 h4 hf;refine⟨(),s',?_,trivial,⟨J,J,(k1 A0 h1).trans h3,(k1 B0 h2).trans h4⟩,λj hj=>hj.elim,λj hj _=>k1 j hj,k2,k3⟩;rw[Sf,<-YJ];exact e
def ahz {a b:Zv}(ha:a.ok)(hb:b.ok)(VK:a.lines=b.lines):ZE U 84 [XW a,XW b]=some (ZU true (Zz (SS (Jt a b)))):=by
 refine ZP alO It (by simp[ZT,XC]) ?_;have nn:=ZV a.Xb (a.next.map ZF);have nf:=ZV a.WG (a.ZW.map ZM);have cn:=ZK a.Xb (a.next.map ZF);have cf:=ZK a.WG (a.ZW.map ZM);have nn':=ZV b.Xb (b.next.map ZF);have nf':=ZV b.WG (b.ZW.map ZM);have cn':=ZK b.Xb (b.next.map ZF);have cf':=ZK b.WG (b.ZW.map ZM);obtain⟨S,hS⟩:∃S,S=((Ym U).new (.cells [.int .i64 a.lines,ZU a.Xb (a.next.map ZF),ZU a.WG (a.ZW.map ZM)] 42 false 0 0)).new (.cells [.int .i64 b.lines,ZU b.Xb (b.next.map ZF),ZU b.WG (b.ZW.map ZM)] 42 false 0 0):=⟨_,rfl⟩;have DX:S.next=10:=by rw[hS];simp only[go_sem]
 have gA:S.get 8=some (.cells [.int .i64 a.lines,ZU a.Xb (a.next.map ZF),ZU a.WG (a.ZW.map ZM)] 42 false 0 0):=by rw[hS];simp only[go_sem]
 have gB:S.get 9=some (.cells [.int .i64 b.lines,ZU b.Xb (b.next.map ZF),ZU b.WG (b.ZW.map ZM)] 42 false 0 0):=by rw[hS];simp only[go_sem]
 have Jh:Fr S:=by rw[hS];exact (Fr.own.new _).new _
 obtain⟨pv,ev,s1,g',h114,VR⟩:=ahA ha hb VK (s:=S) (ael ha hb VK (A0:=8) (B0:=9) (N:=S.next) J J) (λc x hc hx=>⟨hc,hx⟩) (g:=()) ⟨J,J,gA,gB⟩ Jh;have hE:=VR.ends;have hEf:=hE.Ya;have hEn:=hE.na;rw[YH a,YH b] at h114 ⊢;unfold VI XD at h114 ⊢;rw[hS] at h114;simp only[go_sem,ahB,ada,h114,hEf];rfl
def pw (a b:Zv):AV:=bif Wz a b != 0 then .XQ [.ZQ,.int .i64 (Wz a b)] else .XQ [ZU true (Zz (SS (Jt a b))),.int .i64 (br ((SS (Jt a b)).length==0) 7 0)]
def c68 (a b:Zv)(ha:a.next.length<=2^40)(hra:∀r∈a.next,r.2.length<=2^40)(hb:b.next.length<=2^40)(hrb:∀r∈b.next,r.2.length<=2^40):ZE U 27 [XW a,XW b]=some (pw a b):=by
 refine ZP k68 It (by simp[ZT,XC]) ?_;have h136:=aem a b ha hra hb hrb;unfold pw;have nn:=ZV a.Xb (a.next.map ZF);have nf:=ZV a.WG (a.ZW.map ZM);have cn:=ZK a.Xb (a.next.map ZF);have cf:=ZK a.WG (a.ZW.map ZM);have nn':=ZV b.Xb (b.next.map ZF);have nf':=ZV b.WG (b.ZW.map ZM);have cn':=ZK b.Xb (b.next.map ZF);have cf':=ZK b.WG (b.ZW.map ZM)
 cases hc:Wz a b != 0 with
 |true =>
  rw[YH a,YH b] at h136 ⊢;unfold VI XD at h136 ⊢;simp only[go_sem,r68,h136,hc]
 |false =>
  have h0:Wz a b=0:=by simpa using hc
  obtain⟨oa,ob,VK⟩:=IU h0;rw[h0] at h136;have h137:=ahz oa ob VK;have ls:=ZN true (Zz (SS (Jt a b)));rw[Wd] at ls;have c6:=LX ((SS (Jt a b)).length==0) 7;have hq:(((SS (Jt a b)).length:Int)==0)=((SS (Jt a b)).length==0):=by rw[aqI];simp
  rw[YH a,YH b] at h136 h137 ⊢;unfold VI XD at h136 h137 ⊢;simp only[go_sem,r68,h136,h137,ls,hq,c6,Vg,pq]
def zy (k:Nat)(L:List Nat):List AV:=L.map λc=>.agg (Yr k c)
def yV (k:Nat):∀L:List Nat,Xk true 2 L.length (RT k L)=zy k L
 |[]=>rfl
 |c::L=>by
  have e:RT k (c::L)=.int .i64 ((c / k:Nat):Int)::.int .i64 ((c%k:Nat):Int)::RT k L:=rfl;rw[ap1,LQ,e];simp only[List.take_succ_cons,List.take_zero,aq5,aqy];rw[yV k L];rfl
def aar:Ys U 55=some true:=It
def aas:size U 55=some 2:=It
def qw {s:St}{b k d:Nat}{cap:Option Nat}{L:List Nat}(h:s.get b=some (.cells (RT k L) 55 false 0 0)):Ya U s (d+3) (.sl b 0 L.length cap 2)=some (.fz (zy k L)):=by
 rw[Uw,h,Xo,<-qv k L,VA,aar,aas];have e:=Gd (X:=U) s (d+2) L.length 1 (RT k L);rw[show (1:Nat)+1=2 from rfl] at e;rw[e,yV];have hm:YS (Ya U s (d+2)) (zy k L)=some (zy k L):=by
  refine U' λx hx=>?_
  obtain⟨c,_,rfl⟩:=ap0.1 hx;unfold Yr;rw[Wt];rfl
 rw[hm,S9]
def ajO:RC:=(sO [YL 2 137 0,Zf 4] (sO [ZO 5 0 2,ZX 6 5,om 7 1,qk 8 3 6 7,o 9 (.bin .and 3 true (.t 8) (vI 1)),Wq 10 3 9 1,om 4 10] .ret))
def aof:Zm 180=some ([.tmp 4],ajO):=It
def ajQ:RC:=(sO [YL 2 137 0,Zf 4] (sO [ZO 5 1 2,ZX 6 5,om 7 1,qk 8 3 6 7,o 9 (.bin .and 3 true (.t 8) (vI 1)),Wq 10 3 9 1,om 4 10] .ret))
def aog:Zm 183=some ([.tmp 4],ajQ):=It
def akh:RC:=(sO [YL 2 78 0,YL 3 137 1,Zf 4] (sO [Zw 5 3 3,ZO 6 1 2,ZX 7 6,YU 8 180 5 7,om 4 8] .ret))
def aoC:Zm 179=some ([.tmp 4],akh):=It
def aki:RC:=(sO [YL 2 78 0,YL 3 137 1,Zf 4] (sO [Zw 5 3 3,ZO 6 1 2,ZX 7 6,YU 8 180 5 7,WU 9 8,om 4 9] .ret))
def aoD:Zm 181=some ([.tmp 4],aki):=It
def akj:RC:=(sO [YL 2 78 0,YL 3 137 1,Zf 4] (sO [Zw 5 3 3,ZO 6 1 2,ZX 7 6,YU 8 180 5 7,om 9 8,Wg 10 9 3 3,Yl 11 9 1 2,YQ 12 9 11,Tt 13 9 183 10 12,HK 14 9 13,YP 15 9 14,om 4 15] .ret))
def aoE:Zm 182=some ([.tmp 4],akj):=It
def akk:RC:=(sO [YL 2 78 0,YL 3 137 1,Zf 4] (sO [Zw 5 3 3,ZO 6 1 2,ZX 7 6,YU 8 180 5 7,WU 9 8,om 10 9,Wg 11 10 3 3,Yl 12 10 1 2,YQ 13 10 12,Tt 14 10 183 11 13,YP 15 10 14,om 4 15] .ret))
def aoF:Zm 184=some ([.tmp 4],akk):=It
def akl:RC:=(sO [YL 2 78 0,YL 3 137 1,Zf 4] (sO [ZO 5 5 2,ZX 6 5,ZO 7 0 3,ZX 8 7,YU 9 186 6 8,om 4 9] .ret))
def aoG:Zm 185=some ([.tmp 4],akl):=It
def akm:RC:=(sO [YL 2 78 0,YL 3 137 1,Zf 4] (sO [ZO 5 5 2,ZX 6 5,ZO 7 0 3,ZX 8 7,YU 9 186 6 8,om 10 9,Yl 11 10 5 2,YQ 12 10 11,Yl 13 10 1 3,YQ 14 10 13,Tt 15 10 186 12 14,HK 16 10 15,YP 17 10 16,om 4 17] .ret))
def aoH:Zm 187=some ([.tmp 4],akm):=It
def akn:RC:=(sO [YL 3 78 0,YL 5 137 2,ZA 6 0,Zf 7] (sQ (sQ (.Uu 13 [ZO 8 2 5,ZX 9 8,om 10 9,S6 11 10 3 5,Xv 12 10 1 3,Yq 13 10 12,CV 14 10 180 11 13,S6 15 10 3 5,Xv 16 10 1 3,Yq 17 10 16,CV 18 10 183 15 17,F9 19 10 4 14 18,YO 20 10 19]) (cT 20 (oP [ZA 1 0]))) (sO [om 21 1,YM 22 3 21 1,ZO 23 3 3,ZX 24 23,YM 25 3 24 1,eH 26 22 25 3 3,om 1 26] (sQ (.Uu 7 [om 27 1,om 28 1,ZO 29 3 3,ZX 30 29,F' 31 3 28 30,om 6 27,om 7 31]) .ret))))
def aoI:Zm 189=some ([.tmp 6,.tmp 7],akn):=It
def ako:RC:=(sO [YL 3 78 0,YL 5 137 2,ZA 6 0,Zf 7] (sO [om 8 1,YM 9 3 8 1,ZO 10 3 3,ZX 11 10,eH 12 9 11 3 3,om 1 12] (sQ (sQ (.Uu 9 [Zw 13 3 5,ZO 14 1 3,ZX 15 14,YU 16 180 13 15,Zw 17 3 5,ZO 18 1 3,ZX 19 18,YU 20 183 17 19,S5 21 4 16 20]) (cT 21 (oP [ZA 1 0]))) (sQ (.Uu 20 [om 22 1,Zw 23 3 5,ZO 24 2 3,ZX 25 24,YU 26 180 23 25,om 27 26,Wg 28 27 3 5,Yl 29 27 2 3,YQ 30 27 29,Tt 31 27 183 28 30,HK 32 27 31,YP 33 27 32,om 34 33,YV 35 34 1,Yl 36 34 3 3,YQ 37 34 36,oT 38 34 (.bin .lss 3 false (.t 35) (.t 37)),YP 39 34 38,om 6 22,om 7 39]) .ret))))
def aoJ:Zm 191=some ([.tmp 6,.tmp 7],ako):=It
def akp:RC:=(sO [YL 3 78 0,YL 5 137 2,ZA 6 0,Zf 7] (sQ (.block 0 (sO [Zw 9 3 5,ZO 10 1 3,ZX 11 10,YU 12 180 9 11,WU 13 12,om 8 13] (cO 8 (sO [Zw 14 3 5,ZO 15 1 3,ZX 16 15,YU 17 183 14 16,om 18 17,YV 19 18 1,KV 20 18 3 19 2,YP 21 18 20,ZA 6 0,om 7 21] .ret) (sO [ZO 23 2 5,ZX 24 23,WU 25 24,om 26 25,Wg 27 26 3 5,Yl 28 26 2 3,YQ 29 26 28,Tt 30 26 180 27 29,HK 31 26 30,YP 32 26 31,om 33 32,Wg 34 33 3 5,Yl 35 33 1 3,YQ 36 33 35,Tt 37 33 183 34 36,HK 38 33 37,YV 39 33 38,XI 40 39 1,yO 41 39 3 40 2,oT 42 33 (.pick (.t 39) vT (.t 41)),YP 43 33 42,om 22 43] (cT 22 (sO [ZA 6 2,Zf 7] .ret)))))) (sO [ZA 6 1,Zf 7] .ret)))
def aoK:Zm 193=some ([.tmp 6,.tmp 7],akp):=It
def akq:RC:=(sO [YL 4 78 0,YL 6 137 2,ZA 7 0,Zf 8] (sO [om 9 1,ZX 10 3,Zw 11 7 4,Zw 12 3 6,o 13 (.Rg (.t 10) [(.t 11),(.t 12)]),om 7 9,om 8 13] .ret))
def aoL:Zm 216=some ([.tmp 7,.tmp 8],akq):=It
def akr:RC:=(sO [YL 4 78 0,YL 6 137 2,ZA 7 0,Zf 8] (sQ (.Uu 14 [Zw 11 3 6,ZO 12 1 4,ZX 13 12,YU 14 180 11 13,ZX 15 3,F' 16 4 14 15,Zw 17 3 6,ZO 18 1 4,ZX 19 18,YU 20 183 17 19,ZX 21 3,F' 22 4 20 21,om 9 16,om 10 22]) (sQ (.block 0 (sO [om 24 9,WU 25 24,om 23 25] (cO 23 (sQ (.Uu 15 [om 26 10,om 27 26,YV 28 27 1,Yl 29 27 3 4,YQ 30 27 29,oT 31 27 (.bin .geq 3 false (.t 28) (.t 30)),YP 32 27 31,om 33 32,YV 34 33 1,Yl 35 33 4 4,YQ 36 33 35,oT 37 33 (.bin .leq 3 false (.t 34) (.t 36)),YP 38 33 37,ZA 7 0,om 8 38]) .ret) (sO [ZO 40 2 6,ZX 41 40,om 39 41] (cO 39 (sO [ZO 42 4 4,ZX 43 42,YM 44 3 43 1,om 7 44,Zf 8] .ret) (sO [om 46 10,WU 47 46,om 45 47] (cT 45 (sO [ZA 7 1,Zf 8] .ret)))))))) (sO [om 48 1,YM 49 3 48 1,ZO 50 4 4,ZX 51 50,YM 52 3 51 1,eH 53 49 52 3 3,om 7 53,Zf 8] .ret))))
def aoM:Zm 217=some ([.tmp 7,.tmp 8],akr):=It
def A8:RC:=(sO [Y_ 15 3 14 13] (sQ (cS 15 (.exit 0)) (sQ (.block 1 (sO [Zq 16 7 12 14,Zw 17 7 16,NF 5 0 0 0 0 78,YC 7 5 17] (oP [om 18 3,Zw 19 7 5,Zk 20 137 19,VN 21 78 7 88 18 20,om 3 21]))) (oP [YM 22 3 14 1,om 14 22]))))
def adQ:RC:=(sO [YL 1 78 0,XF 2] (sQ (sO [Zw 6 7 1,Zk 7 168 6,WU 8 7] (cT 8 (sO [Zw 9 7 1,o 10 (.Uc 78 7 1 [(.str []),(iI 0),(iI 0),(iI 0),(iI 0),(.str []),.ZQ] [(0,7,(.t 9))]),om 2 10] .ret))) (sO [XF 3] (sQ (sO [ZO 11 6 1,ZX 12 11,Za 13 12,ZA 14 0] (.block 0 (.loop A8))) (sO [om 23 3,om 2 23] .ret)))))
def ak':Zm 137=some ([.tmp 2],adQ):=It
def zC:RC:=(sO [Y_ 19 3 18 17] (sQ (cS 19 (.exit 0)) (sQ (.block 1 (sO [Zq 20 7 16 18,Zw 21 7 20,NF 8 0 0 0 0 78,YC 7 8 21] (sO [Zw 22 7 8,om 23 1,YU 24 140 22 23,om 9 24] (oP [om 25 5,om 26 25,XI 27 26 9,YO 28 26 27,om 29 6,om 30 29,YV 31 30 9,YP 32 30 31,om 5 28,om 6 32])))) (oP [YM 33 3 18 1,om 18 33]))))
def acC:RC:=(sO [YL 2 78 0,Zf 4] (sQ (sO [Zw 10 7 2,Zk 11 168 10,WU 12 11] (cT 12 (sO [om 13 1,o 14 (.Rg (.t 13) []),om 4 14] .ret))) (sO [Zf 5,Uz 6] (sQ (sO [ZO 15 6 2,ZX 16 15,Za 17 16,ZA 18 0] (.block 0 (.loop zC))) (sQ (sO [ZO 34 0 2,ZX 35 34] (.block 2 (sO [NG 37 9 35 110 111 116,om 36 37] (cO 36 (sO [om 38 5,WU 39 38,om 4 39] .ret) (sO [NG 41 9 35 97 110 121,om 40 41] (cT 40 (sO [om 42 5,om 4 42] .ret))))))) (sO [om 43 6,om 4 43] .ret))))))
def aoN:Zm 140=some ([.tmp 4],acC):=It
def aks:RC:=(sO [Zf 2] (sO [ZX 3 0,YM 4 3 3 1,YC 1 0 4] (sO [ZX 5 1,ZX 6 0,Zq 7 1 5 6,ZX 8 7,om 2 8] .ret)))
def aoO:Zm 141=some ([.tmp 2],aks):=It
def OV:RC:=(sO [o 9 (.raw (.next (.tmp 8) true)),YN 10 9 0] (sQ (cS 10 (.exit 0)) (.block 1 (sO [YN 11 9 1,YN 12 9 2,om 5 11,om 6 12] (sO [om 13 6] (.block 2 (sQ (sO [o 15 (.bin .eql 21 true (.t 13) (.v (.int .i32 48))),om 14 15] (cS 14 (oP [o 16 (.bin .eql 21 true (.t 13) (.v (.int .i32 49))),om 14 16]))) (cT 14 (sO [om 17 1,om 18 5,qk 19 3 17 18,o 20 (.bin .and 3 true (.t 19) (vI 1)),o 21 (.bin .add 3 true (vI 48) (.t 20)),o 22 (.raw (.convert 3 21 (.tmp 21))),om 23 6,S5 24 21 22 23] (cT 24 (sO [Zf 4] .ret)))))))))))
def ajR:RC:=(sO [Zf 4] (sQ (sO [om 7 0,o 8 (.raw (.range 9 (.tmp 7)))] (.block 0 (.loop OV))) (sO [Uz 4] .ret)))
def aoh:Zm 186=some ([.tmp 4],ajR):=It
def Zi (n k:Int):Int:=n / 2^k.toNat%2
def KC (n k:Int):Zi n k=0\/Zi n k=1:=by unfold Zi;omega
def Gy (t:TypeId)(cst:Bool)(a b:Int)(h0:0<=b)(h1:b<=64):Xj U .shr t cst (.int .i64 a) (.int .i64 b)=some (.int .i64 (a / 2^b.toNat)):=by
 have:min b.toNat IntKind.i64.bits=b.toNat:=by
  have:IntKind.i64.bits=64:=rfl;omega
 simp only[Xj,IN,O3 (show ¬b<0 by omega),this];rw[Int.fdiv_eq_ediv_of_nonneg];exact Int.pow_nonneg Mo
def JQ (t:TypeId)(cst:Bool)(a:Int)(h0:0<=a)(h1:a<2^62):Xj U .and t cst (.int .i64 a) (.int .i64 1)=some (.int .i64 (a%2)):=by
 simp only[Xj,if_true,Oj];have h2:IntKind.i64.bits=64:=rfl;rw[h2];have:((BitVec.ofInt 64 a &&& BitVec.ofInt 64 1).toNat:Int)=a%2:=by
  rw[BitVec.toNat_and,BitVec.toNat_ofInt,BitVec.toNat_ofInt];have e1:(1%((2^64:Nat):Int)).toNat=1:=by decide
  have e2:(a%((2^64:Nat):Int)).toNat=a.toNat:=by
   rw[Int.emod_eq_of_lt h0 J]
  rw[e1,e2,Nat.and_one_is_mod];omega
 rw[this,wrap_i64] <;> omega
def zR {n:Int}(k:Nat)(h:0<=n):0<=n / 2^k/\n / 2^k<=n:=by
 have:(0:Int)<2^k:=Int.pow_pos Mo;refine⟨Int.ediv_nonneg h J,?_⟩;exact Int.ediv_le_self _ h
def pc (l:List Int):Prop:=l.length<=4096/\∀x∈l,0<=x/\x<65536
def fE {l:List Int}(h:pc l)(t:Int):0<=XG l t/\XG l t<65536:=by
 unfold XG;rw[ap6]
 cases hg:l[t.toNat]? with
 |none=>simp
 |some x=>exact h.2 x (aqn hg)
def VU (l:List Int)(t:Int):Int:=XG l (max 0 (t-1))
def runN (l:List Int)(k:Int):Nat->Nat
 |0=>0
 |t+1=>bif Zi (XG l (t:Int)) k==Zi (XG l ((t+1:Nat):Int)) k then runN l k t else t+1
def G7 (l:List Int)(k:Int):∀t,runN l k t<=t
 |0=>api _
 |t+1=>by
  unfold runN
  cases Zi (XG l (t:Int)) k==Zi (XG l ((t+1:Nat):Int)) k with
  |true=>have:=G7 l k t;show runN l k t<=t+1;omega
  |false=>exact api _
def FZ (l:List Int)(k lev:Int)(t:Nat):Bool:=(t:Int)==0||Zi (XG l (t:Int)) k==lev||Zi (XG l ((t-1:Nat):Int)) k != lev
def TN (l:List Int)(k lev:Int)(t:Nat):Nat:=bif FZ l k lev t then 0 else runN l k (t-1)
def QR (l:List Int)(k lev:Int)(t:Nat):Bool:=bif FZ l k lev t then false else decide (0<runN l k (t-1))
def adw (sym:Int)(i:Nat)(c:UInt8):Bool:=c==48&&Zi sym (i:Int) != 0||c==49&&Zi sym (i:Int) != 1
def oA (sym:Int):Nat->XJ->Bool
 |_,[]=>true
 |i,c::l=>bif adw sym i c then false else oA sym (i+1) l
def Z0.wf:Z0->Prop
 |.mk k a b mi ma pat _ kids=>(0<=a/\a<16)/\(0<=b/\b<16)/\(0<=mi/\mi<=255)/\(0<=ma/\ma<=255)/\pat.length<=16/\(∀c∈pat,c=48\/c=49\/c=120) /\
  (Zs k).known=true/\(Zs k=.Jl->kids.length=1)/\((Yt (Zs k)).kids=false->kids=[])/\((Yt (Zs k)).kids=true->kids≠[])/\((Yt (Zs k)).mi=true->1<=mi)/\kids.length<=8/\∀x∈kids,x.wf
def BK {lines d:Int}:∀{l:List Z0},O4 lines l d=0->∀x∈l,LK lines x d=0
 |[],_,x,hx=>by cases hx
 |c::l,h,x,hx=>by
  rw[O4] at h
  cases hb:LK lines c d != 0 with
  |true =>
   rw[hb] at h;have h:LK lines c d=0:=h;rw[h] at hb;cases hb
  |false =>
   rw[hb] at h;rcases ap9.1 hx with rfl|hx
   ·simpa using hb
   ·exact BK h x hx
def rX {pat:XJ}{lines:Int}(h:LS pat lines=false):(pat.length:Int)=lines/\∀c∈pat,c=48\/c=49\/c=120:=by
 unfold LS at h;rw[aqx] at h;refine⟨by simpa using h.1,λc hc=>?_⟩;have:=List.any_eq_false.1 h.2 c hc;by_cases h1:c=48
 ·exact .inl h1
 ·by_cases h2:c=49
  ·exact .inr (.inl h2)
  ·by_cases h3:c=120
   ·exact .inr (.inr h3)
   ·exact absurd (by simp[h1,h2,h3]) this
def eE {lines:Int}(h1:1<=lines)(h2:lines<=16):∀(c:Z0) (d:Int),LK lines c d=0->c.wf:=by
 intro c
 induction c using Z0.ind with
 |h k a b mi ma pat nl kids ih =>
 intro d h;rw[LK] at h;obtain⟨-,h⟩:=Xq h Mo;obtain⟨q1,h⟩:=Xq h Mo;obtain⟨q2,h⟩:=Xq h Mo;obtain⟨q3,h⟩:=Xq h Mo;obtain⟨-,h⟩:=Xq h Mo;obtain⟨q5,h⟩:=Xq h Mo;obtain⟨-,h⟩:=Xq h Mo;obtain⟨q7,h⟩:=Xq h Mo;obtain⟨q8,h⟩:=Xq h Mo;obtain⟨q9,h⟩:=Xq h Mo;obtain⟨HX,h⟩:=Xq h Mo;have hk:=λx hx=>ih x hx _ (BK h x hx)
 rw[wrap_i64 J J] at q3;simp only[aqx,Bool.and_eq_false_iff] at q2 q3 q5 q7 q8 q9 HX;rw[wO] at q8;rw[Z0.wf];generalize Zs k=dd at *;have ha:0<=a/\a<16:=by
  cases hu:(Yt dd).a with
  |true=>rcases q3.1 with h|h;(rw[hu] at h;cases h);have:=Tk h;omega
  |false =>
    rcases q2.1.1.1.1.1 with h|h;(rw[hu] at h;cases h);have:a=0:=by simpa using h
    omega
 have hb:0<=b/\b<16:=by
  cases hu:(Yt dd).b with
  |true=>rcases q3.2 with h|h;(rw[hu] at h;cases h);have:=Tk h;omega
  |false =>
    rcases q2.1.1.1.1.2 with h|h;(rw[hu] at h;cases h);have:b=0:=by simpa using h
    omega
 have hm:0<=mi/\mi<=255/\((Yt dd).mi=true->1<=mi):=by
  cases hu:(Yt dd).mi with
  |true=>rcases q5.1 with h|h;(rw[hu] at h;cases h);have:=Tk h;omega
  |false =>
    rcases q2.1.1.1.2 with h|h;(rw[hu] at h;cases h);have:mi=0:=by simpa using h
    subst this;exact⟨J,J,λh=>by cases h⟩
 have hM:0<=ma/\ma<=255:=by
  cases hu:(Yt dd).ma with
  |true=>rcases q5.2 with h|h;(rw[hu] at h;cases h);have:=Tk h;omega
  |false =>
    rcases q2.1.1.2 with h|h;(rw[hu] at h;cases h);have:ma=0:=by simpa using h
    omega
 have hp:pat.length<=16/\∀c∈pat,c=48\/c=49\/c=120:=by
  cases hu:(Yt dd).pat with
  |true=>rcases q7 with h|h;(rw[hu] at h;cases h);have:=rX h;exact⟨J,this.2⟩
  |false =>
    rcases q2.1.2 with h|h;(rw[hu] at h;cases h);have:pat=[]:=by simpa using h
    subst this;exact⟨by simp,by simp⟩
 refine⟨ha,hb,⟨hm.1,hm.2.1⟩,hM,hp.1,hp.2,by simpa using q1,λhd=>?_,λhu=>?_,λhu=>?_,hm.2.2,?_,hk⟩
 ·rcases q8 with h|h
  ·simp[hd] at h
  ·have:(kids.length:Int)=1:=by simpa using h
   omega
 ·rcases q2.2 with h|h
  ·rw[hu] at h;cases h
  ·have:¬(kids.length:Int)>0:=by simpa using h
   exact List.eq_nil_of_length_eq_zero J
 ·rcases q9 with h|h
  ·rw[hu] at h;cases h
  ·intro e;subst e;simp at h
 ·cases hu:(Yt dd).kids with
  |true =>
   rcases HX with h|h
   ·rw[hu] at h;cases h
   ·have:¬(kids.length:Int)>8:=by simpa using h
    omega
  |false =>
   rcases q2.2 with h|h
   ·rw[hu] at h;cases h
   ·have:¬(kids.length:Int)>0:=by simpa using h
    omega
def chg (l:List Int)(k:Int):Nat->Nat->Bool->Bool
 |_,0,p=>p
 |u,n+1,p=>chg l k (u+1) n (p||Zi (XG l (u:Int)) k != Zi (XG l ((u-1:Nat):Int)) k)
def low (l:List Int)(k:Int):Nat->Nat->Bool->Bool
 |_,0,p=>p
 |u,n+1,p=>bif p then low l k (u+1) n (Zi (XG l (u:Int)) k==0) else false
def U8 (t:Nat)(mi:Int):Nat:=(max 1 ((t:Int)-mi+1)).toNat
mutual
def atR (l:List Int)(t:Nat):Z0->Bool
 |.mk k a b mi ma pat nl kids =>
  let now:=XG l (t:Int)
  let was:=VU l (t:Int)
  match Zs k with
  |.high=>Zi now a==1
  |.low=>Zi now a==0
  |.Gj=>Zi now a==1&&Zi was a==0
  |.fall=>Zi now a==0&&Zi was a==1
  |.pattern=>oA now 0 pat
  |.enter=>oA now 0 pat&&!oA was 0 pat
  |.UB=>QR l a 1 t&&!outside ((t:Int)-(TN l a 1 t:Nat)) mi ma
  |.gap=>QR l a 0 t&&!outside ((t:Int)-(TN l a 0 t:Nat)) mi ma
  |.idle=>(t:Int)-(runN l a t:Nat)+1==mi
  |.setup=>chg l a (U8 t mi) (t+1-U8 t mi) false&&Zi now b==1&&Zi was b==0
  |.TC=>low l b (TN l a 1 t) (t-TN l a 1 t) (QR l a 1 t)
  |.Jl=>!lg l t kids
  |d=>((Mj l t kids:Nat):Int)==((kids.length:Nat):Int)||decide (d=.Gi)&&decide (((Mj l t kids:Nat):Int)>0)
def lg (l:List Int)(t:Nat):List Z0->Bool
 |[]=>false
 |c::_=>atR l t c
def Mj (l:List Int)(t:Nat):List Z0->Nat
 |[]=>0
 |c::k=>(bif atR l t c then 1 else 0)+Mj l t k
end
end Go.Am
namespace Go.Am
open Go
variable [Z8]
def M0 (l:List Int)(k:Int)(u:Nat):∀n,low l k u n false=false
 |0=>rfl
 |n+1=>rfl
def l90 (lines depth:Int)(nl:Bool)(kids:List Z0)(f2:kids.length<2^30)(hc:∀x∈kids,ZE U 97 [.int .i64 lines,Zo x,.int .i64 (IntKind.i64.wrap (depth+1))]=some (.int .i64 (ckP lines x (IntKind.i64.wrap (depth+1)))))
  (err:Int){e:Env}{s:St}(h0:e.get 0=.int .i64 lines)(h2:e.get 2=.int .i64 depth)(h10:e.get 10=.int .i64 err)(h141:e.get 141=ZU nl (UF kids))(h142:e.get 142=.int .i64 kids.length)(h143:e.get 143=.int .i64 0){ks:List K}
  (hk:∀e' s' x,e'.get 10=.int .i64 x->gH U (U7 U [.tmp 6]) ks 0 e' s'=some (.int .i64 x)) :
  SJ U (U7 U [.tmp 6]) ks AL e s=some (.int .i64 (LM lines kids (IntKind.i64.wrap (depth+1)) err)):=by
 refine Yk (σ:=Nat×Int) (λx=>kids.length-x.1) (λx=>some (AV.int .i64 (LM lines (kids.drop x.1) (IntKind.i64.wrap (depth+1)) x.2))) (λx e s=>x.1<=kids.length/\e.get 0=.int .i64 lines/\e.get 2=.int .i64 depth/\e.get 10=.int .i64 x.2/\e.get 141=ZU nl (UF kids)/\e.get 142=.int .i64 kids.length/\e.get 143=.int .i64 x.1) (0,err) ?_ rfl ⟨apW _,h0,h2,h10,h141,h142,h143⟩;clear h0 h2 h10 h141 h142 h143 err e s;rintro L ⟨i,err⟩ e s ⟨hi,h0,h2,h10,h141,h142,h143⟩ IH;simp only at hi h0 h2 h10 h141 h142 h143 IH ⊢;by_cases hd:i<kids.length
 ·have hx:(UF kids)[i]? = some (Zo kids[i]):=by rw[TU,aaa hd];rfl
  have hw:=ZI hd J;have AK:=hc kids[i] (adm hd);rw[ZH] at hx AK;simp only[Z0.cells] at hx AK;rw[Yz (WK hd)] at h141;simp +contextual only[go_sem,AL,h0,h2,h10,h141,h142,h143,Z9,hd,hx,AK,ZV];rw[aea hd,LM]
  cases hb:err==0
  ·simp only[go_sem,hw];refine IH (i+1,_) _ _ (by simp only;omega) ⟨by simp only;omega,?_,?_,?_,?_,?_,?_⟩ <;> simp +contextual only[go_sem,h0,h2,h10,h141,h142,Yz (WK hd)]
  ·simp only[go_sem,hw];refine IH (i+1,_) _ _ (by simp only;omega) ⟨by simp only;omega,?_,?_,?_,?_,?_,?_⟩ <;> simp +contextual only[go_sem,h0,h2,h141,h142,Yz (WK hd)]
 ·have:i=kids.length:=J;subst this;simp +contextual only[go_sem,AL,h142,h143,Z9,ap5];rw[aqi,LM];exact hk _ _ _ (by simp +contextual only[go_sem,h10])
def c90 (lines:Int):∀c:Z0,c.fits->∀depth:Int,ZE U 97 [.int .i64 lines,Zo c,.int .i64 depth]=some (.int .i64 (ckP lines c depth)):=by
 intro c
 induction c using Z0.ind with
 |h kind a b mi ma pat nl kids ih =>
 intro hf depth;rw[Z0.fits] at hf;obtain⟨f1,f2,f3⟩:=hf;refine ZP k90 It (pW _ _ _) ?_;have h157:=ak8 (Zs kind) kind a b mi ma pat nl kids;have hs:ZT [OR (Zs kind),RU (Zs kind),OQ (Zs kind)]=true:=by cases Zs kind <;> rfl
 have hn:Zu (OR (Zs kind))=true/\Zu (RU (Zs kind))=true/\Zu (OQ (Zs kind))=true:=by cases Zs kind <;> exact⟨rfl,rfl,rfl⟩
 obtain⟨n1,n2,n3⟩:=hn;have G0:=DL kind;rw[Vh] at h157 G0;rw[Zo] at h157 ⊢;rw[ckP];generalize OR (Zs kind)=A1 at *;generalize RU (Zs kind)=A2 at *;generalize OQ (Zs kind)=A3 at *;generalize hu:Yt (Zs kind)=u at *;generalize hk:(Zs kind).known=kn at *;simp (config:={ maxSteps:=4000000 }) +contextual only[go_sem,r90,adI,G0,h157,LX,aaC,ak5 _ _ f1,z89,Jq,adO,ZN,Xw,n1,n2,n3];obtain⟨ua,ub,umi,uma,up,uk⟩:=u;simp only
 cases up
 ·simp only[Zp,Uo];refine TA λ_=>TA λ_=>?_
  cases adY:kind==[110,111,116]
  all_goals
   simp only[go_sem,Yd,Zp];refine l90 lines depth nl kids f2 (λx hx=>ih x hx (f3 x hx) _) _ ?_ ?_ ?_ ?_ ?_ ?_ ?_
   rotate_right 1
   ·intro e' s' x h;simp +contextual only[go_sem,h]
   all_goals simp +contextual only[go_sem]
   all_goals try rfl
 ·simp only[Yd,Uo];refine TA λ_=>TA λ_=>?_
  cases adY:kind==[110,111,116]
  all_goals
   simp only[go_sem,Yd,Zp];refine l90 lines depth nl kids f2 (λx hx=>ih x hx (f3 x hx) _) _ ?_ ?_ ?_ ?_ ?_ ?_ ?_
   rotate_right 1
   ·intro e' s' x h;simp +contextual only[go_sem,h]
   all_goals simp +contextual only[go_sem]
   all_goals try rfl
def sa (lines:Int):Nat->List Step->Int
 |_,[]=>0
 |i,s::l=>br (YD [ckP lines s.cond 1,within s.times 1 64,within s.within 0 255,br ((i:Int)==0&&s.within != 0) 3 0] != 0) (YD [ckP lines s.cond 1,within s.times 1 64,within s.within 0 255,br ((i:Int)==0&&s.within != 0) 3 0]) <| sa lines (i+1) l
def pk (p:Prog):Int :=
 br (YD [within p.lines 1 16,br ((p.steps.length:Int)==0) 12 0,br (decide ((p.steps.length:Int)>8)) 5 0] != 0) (YD [within p.lines 1 16,br ((p.steps.length:Int)==0) 12 0,br (decide ((p.steps.length:Int)>8)) 5 0]) <| sa p.lines 0 p.steps
def ao' {s:St}(h:8<s.next):(∀k,(s.next+k=8)=False)/\(s.next=8)=False:=⟨λk=>F_,F_⟩
def c64 (p:Prog)(hf:p.fits):ZE U 47 [XU p]=some (.int .i64 (pk p)):=by
 obtain⟨lines,nl,steps⟩:=p;obtain⟨f1,f2⟩:=hf;simp only at f1 f2;refine ZP k64 It (by simp[ZT,YK]) ?_;rw[Ze,pk];simp (maxSteps:=2000000) +contextual only[go_sem,r64,c88,LX,z89,hZ,ZN,Yo];simp only[Uo];refine TA λ_=>?_
 refine Yk (σ:=Nat) (λi=>steps.length-i) (λi=>some (AV.int .i64 (sa lines i (steps.drop i)))) (λi e s=>i<=steps.length/\e.get 28=.int .i64 i/\e.get 1=.ptr 8 0/\e.get 26=ZU nl (Zy steps)/\e.get 27=.int .i64 steps.length/\8<s.next/\Fr s /\
  s.get 8=some (.cells [.int .i64 lines,ZU nl (Zy steps)] 25 false 0 0)) 0 ?_ rfl ?_
 ·rintro L i e s ⟨hi,h28,h1,h26,h27,hn,Qs,hs⟩ IH;by_cases hd:i<steps.length
  ·have hx:(Zy steps)[i]? = some (Yy steps[i]):=by rw[Wb,aaa hd];rfl
   have hw:=ZI hd J;obtain⟨g8,g8'⟩:=ao' hn;have hc:=c90 lines steps[i].cond (f2 _ (adm hd)) 1;rw[Yz (XV hd)] at hs h26;rw[ZH] at hc;simp only[Z0.cells,Yy] at hx hc;have Ps:=Qs.at;simp +contextual only[go_sem,sU,h28,h1,h26,h27,hs,Z9,hd,hx,hc,g8',ZV,aaC,LX,z89,hJ,Ps,ap2,Nat.left_eq_add];rw[aea hd,sa];simp only[Uo];refine TA λ_=>?_
   simp only[hw];refine IH (i+1) _ _ J ⟨J,?_,?_,?_,?_,?_,?_,?_⟩
   case refine_6 =>
    repeat first|exact Qs|apply Fr.new|apply Fr.put|apply Fr.upto
    all_goals simp +contextual only[go_sem]
    all_goals omega
   all_goals simp +contextual only[go_sem,h1,h26,h27,hs,g8,g8',Yz (XV hd)]
   all_goals omega
  ·have:i=steps.length:=J;subst this;simp +contextual only[go_sem,sU,h28,h27,Z9,ap5];rw[aqi,sa]
 ·refine⟨apW _,?_,?_,?_,?_,?_,?_,?_⟩
  case refine_6 =>
   repeat first|exact Fr.own|apply Fr.new|apply Fr.put|apply Fr.upto
   all_goals simp +contextual only[go_sem]
  all_goals simp +contextual only[go_sem]
  all_goals rfl
mutual
def Z0.norm:Z0->Z0
 |.mk k a b mi ma p _ kids=>.mk k a b mi ma p true (VM kids)
def VM:List Z0->List Z0
 |[]=>[]
 |c::l=>c.norm::VM l
end
def RZ:∀l,VM l=l.map Z0.norm
 |[]=>by simp[VM]
 |c::l=>by simp[VM,RZ l]
def Qj (c:Z0):∃l,Zo c=.agg l/\l.length=7:=⟨_,ZH c,rfl⟩
def Oh (s:St)(d:Nat)(c:Z0):Ya U s (d+2) (Zo c)=some (Zo c):=by
 rw[ZH];simp only[Z0.cells,Wt,XT,TJ,Ak,Kf,Vg,PT,PS]
def c24:∀c:Z0,c.fits->ZE U 82 [Zo c]=some (Zo c.norm):=by
 intro c
 induction c using Z0.ind with
 |h kind a b mi ma pat nl kids ih =>
 intro hf;rw[Z0.fits] at hf;obtain⟨f1,f2,f3⟩:=hf;refine ZP k24 It (by simp[ZT,YY]) ?_;rw[Zo,Z0.norm];simp only[go_sem,r24];refine Yk (σ:=Nat) (λi=>kids.length-i) (λi=>some (Zo (.mk kind a b mi ma pat true (VM kids)))) (λi e s=>i<=kids.length/\e.get 1=.ptr 8 0/\e.get 2=.ptr 9 0/\e.get 3=.ptr 10 0/\e.get 4=.int .i64 i/\10<s.next/\Fr s /\
  s.get 8=some (.cells [.str kind,.int .i64 a,.int .i64 b,.int .i64 mi,.int .i64 ma,.str pat,ZU nl (UF kids)] 106 false 0 0)/\s.get 9=some (.cells [.str [],.int .i64 0,.int .i64 0,.int .i64 0,.int .i64 0,.str [],.ZQ] 78 false 0 0) /\
  ∃v,s.get 10=some (.cells [.str kind,.int .i64 a,.int .i64 b,.int .i64 mi,.int .i64 ma,.str pat,v] 78 false 0 0)/\ZD s 11 78 7 i ((kids.take i).flatMap λc=>(Zo c.norm).cells) v) 0 ?_ rfl ?_
 ·rintro L i e s ⟨hi,h1,h2,h3,h4,hn,Qs,hs8,hs9,v,sX,hv⟩ IH;have ne:∀a k,a<=10->(s.next+k=a)=False:=λa k ha=>F_
  have ne':∀a,a<=10->(s.next=a)=False:=λa ha=>F_
  have Ps:=Qs.at;by_cases hd:i<kids.length
  ·have hx:(UF kids)[i]? = some (Zo kids[i]):=by rw[TU,aaa hd];rfl
   have hw:=ZI hd J;have hc:=ih kids[i] (adm hd) (f3 _ (adm hd));rw[ZH] at hc;rw[ZH] at hx hc;simp only[Z0.cells] at hx hc;rw[Yz (WK hd)] at hs8;have TV:(i+1)*88<=1099511627776:=J;have U5:i+1<=1099511627776:=J;have K_:(kids.take (i+1)).flatMap (λc=>(Zo c.norm).cells)=(kids.take i).flatMap (λc=>(Zo c.norm).cells)++kids[i].norm.cells:=by
    rw[ap7 hd,List.flatMap_append,List.flatMap_singleton,ZH];rfl
   simp only[Z0.cells] at K_;have Oi:=hv.WV;have Pq:=hv.Zu;simp only[go_sem,sP,h1,h3,h4,hs8,sX,Z9,hd,Xw,hx,hc,Ps,Zx,Nat.reducePow,aqP,Oi,TV,U5];have D0:ZD ((s.upto (s.next+12)).put (s.next+8) (.cells kids[i].norm.cells 78 false 0 0)) 11 78 7 i ((kids.take i).flatMap λc=>(Zo c.norm).cells) v:=hv.mono O0 λj _ hj=>by rw[Z7,ZR,O3 J]
   obtain⟨s1,e1,e2,e3,e4,e5⟩:=D0.app O0 (m:=1) (new:=kids[i].norm.cells) J (by rfl) (by simp only[Z0.cells,go_sem,ZV]);simp only[Z0.cells] at e1 e3 e4 e5;have k8:=e4 8 J;have k9:=e4 9 J;have gW:=e4 10 J;simp only[Z7,ZR,ne,↓reduceIte,hs8,hs9,sX,Nat.reduceLeDiff,Z_,Z6] at k8 k9 gW e2;rw[e1];simp only[go_sem,h3,gW,hw,h4];refine IH (i+1) _ _ J ⟨J,?_,?_,?_,?_,?_,?_,?_,?_,.sl (s.next+12) 0 (i+1) none 7,?_,?_⟩
   case refine_10 =>
    rw[K_];exact e3.mono O0 λj hj _=>by rw[Z7,O3 J]
   case refine_9=>rw[Z7,Of rfl]
   case refine_6 =>
    refine (e5 ?_).put J _;exact (Qs.upto J).put O0 _
   all_goals simp only[go_sem,h1,h2,h3,k8,k9,e2,Yz (WK hd),Nat.reduceEqDiff]
   all_goals omega
  ·have:i=kids.length:=J;subst this;rw[aqN] at hv;have NO:∀x,ZD (s.put 9 x) 11 78 7 (kids.map Z0.norm).length ((kids.map Z0.norm).flatMap λc=>(Zo c).cells) v:=λx=>by
    rw[ala,List.flatMap_map];exact hv.mono O0 λj hj _=>by rw[Z7,O3 J]
   have L9:∀x d,Ya U (s.put 9 x) (d+3) v=some (ZU true (UF (VM kids))):=λx d=>by
    rw[(NO x).Wt U Gh Gg J Qj (d:=d+2) (λa=>Oh _ _ _),Nt,RZ]
   have Pq:=hv.Zu;simp only[go_sem,sP,h1,h2,h3,h4,hs8,hs9,sX,Z9,ap5,ZN,Xw,Pq,L9];rw[Zo]
 ·refine⟨apW _,?_,?_,?_,?_,?_,?_,?_,?_,.ZQ,?_,ZD.nil _ _ _ _⟩
  case refine_6 =>
   repeat first|exact Fr.own|apply Fr.new|apply Fr.put|apply Fr.upto
   all_goals simp only[go_sem]
  all_goals simp only[go_sem]
  all_goals rfl
end Go.Am
namespace Go.Am
open Go
variable [Z8]
def Step.norm (s:Step):Step:={ s with cond:=s.cond.norm }
def Prog.norm (p:Prog):Prog:={ p with nl:=true,steps:=p.steps.map Step.norm }
def Step.Qy (s:Step):List AV:=[.str s.cond.kind,.int .i64 s.cond.a,.int .i64 s.cond.b,.int .i64 s.cond.mi,.int .i64 s.cond.ma,.str s.cond.pat,ZU s.cond.nl (UF s.cond.kids),.int .i64 s.times,.int .i64 s.within]
def xJ (s:Step):∃l,Yy s=.agg l/\l.length=9:=⟨_,rfl,rfl⟩
def xI (s:St)(d:Nat)(c:Step):Ya U s (d+2) (Yy c)=some (Yy c):=by
 unfold Yy;simp only[Wt,XT,TJ,Ak,Kf,Vg,PT,PS]
def c33 (p:Prog)(hf:p.fits):ZE U 25 [XU p]=some (XU p.norm):=by
 obtain⟨lines,nl,steps⟩:=p;obtain⟨f1,f2⟩:=hf;simp only at f1 f2;refine ZP k33 It (by simp[ZT,YK]) ?_;rw[Ze,Prog.norm,Ze];simp only[go_sem,r33];refine Yk (σ:=Nat) (λi=>steps.length-i) (λi=>some (.agg [.int .i64 lines,ZU true (Zy (steps.map Step.norm))])) (λi e s=>i<=steps.length/\e.get 1=.ptr 8 0/\e.get 2=.ptr 9 0/\e.get 3=.ptr 10 0/\e.get 4=.int .i64 i/\10<s.next/\Fr s /\
  s.get 8=some (.cells [.int .i64 lines,ZU nl (Zy steps)] 31 false 0 0)/\s.get 9=some (.cells [.int .i64 0,.ZQ] 25 false 0 0) /\
  ∃v,s.get 10=some (.cells [.int .i64 lines,v] 25 false 0 0)/\ZD s 11 113 9 i ((steps.take i).flatMap λc=>(Yy c.norm).cells) v) 0 ?_ rfl ?_
 ·rintro L i e s ⟨hi,h1,h2,h3,h4,hn,Qs,hs8,hs9,v,sX,hv⟩ IH;have ne:∀a k,a<=10->(s.next+k=a)=False:=λa k ha=>F_
  have ne':∀a,a<=10->(s.next=a)=False:=λa ha=>F_
  have Ps:=Qs.at;by_cases hd:i<steps.length
  ·have hx:(Zy steps)[i]? = some (Yy steps[i]):=by rw[Wb,aaa hd];rfl
   have hw:=ZI hd J;have hc:=c24 steps[i].cond (f2 _ (adm hd));rw[ZH,ZH] at hc;simp only[Z0.cells,Yy] at hx hc;rw[Yz (XV hd)] at hs8;have TV:(i+1)*104<=1099511627776:=J;have U5:i+1<=1099511627776:=J;have K_:(steps.take (i+1)).flatMap (λc=>(Yy c.norm).cells)=(steps.take i).flatMap (λc=>(Yy c.norm).cells)++steps[i].norm.Qy:=by
    rw[ap7 hd,List.flatMap_append,List.flatMap_singleton];rfl
   have Oi:=hv.WV;have Pq:=hv.Zu;simp only[go_sem,sW,h1,h3,h4,hs8,sX,Z9,hd,Yo,hx,hc,Ps,Zx,Nat.reducePow,aqP,Oi,TV,U5];have D0:ZD ((s.upto (s.next+26)).put (s.next+22) (.cells steps[i].norm.Qy 113 false 0 0)) 11 113 9 i ((steps.take i).flatMap λc=>(Yy c.norm).cells) v:=hv.mono O0 λj _ hj=>by rw[Z7,ZR,O3 J]
   obtain⟨s1,e1,e2,e3,e4,e5⟩:=D0.app O0 (m:=1) (new:=steps[i].norm.Qy) J (by rfl) (by simp only[Step.Qy,go_sem,ZV]);simp only[Step.Qy,Step.norm] at e1 e3 e4 e5;have k8:=e4 8 J;have k9:=e4 9 J;have gW:=e4 10 J;simp only[Z7,ZR,ne,↓reduceIte,hs8,hs9,sX,Nat.reduceLeDiff,Z_,Z6] at k8 k9 gW e2;rw[e1];simp only[go_sem,h3,gW,hw,h4];refine IH (i+1) _ _ J ⟨J,?_,?_,?_,?_,?_,?_,?_,?_,.sl (s.next+26) 0 (i+1) none 9,?_,?_⟩
   case refine_10 =>
    rw[K_];exact e3.mono O0 λj hj _=>by rw[Z7,O3 J]
   case refine_9=>rw[Z7,Of rfl]
   case refine_6 =>
    refine (e5 ?_).put J _;exact (Qs.upto J).put O0 _
   all_goals simp only[go_sem,h1,h2,h3,k8,k9,e2,Yz (XV hd),Nat.reduceEqDiff]
   all_goals omega
  ·have:i=steps.length:=J;subst this;rw[aqN] at hv;have NO:∀x,ZD (s.put 9 x) 11 113 9 (steps.map Step.norm).length ((steps.map Step.norm).flatMap λc=>(Yy c).cells) v:=λx=>by
    rw[ala,List.flatMap_map];exact hv.mono O0 λj hj _=>by rw[Z7,O3 J]
   have L9:∀x d,Ya U (s.put 9 x) (d+3) v=some (ZU true (Zy (steps.map Step.norm))):=λx d=>by
    rw[(NO x).Wt U fI fH J xJ (d:=d+2) (λa=>xI _ _ _)];rfl
   have Pq:=hv.Zu;simp only[go_sem,sW,h1,h2,h3,h4,hs8,hs9,sX,Z9,ap5,ZN,Yo,Pq,L9]
 ·refine⟨apW _,?_,?_,?_,?_,?_,?_,?_,?_,.ZQ,?_,ZD.nil _ _ _ _⟩
  case refine_6 =>
   repeat first|exact Fr.own|apply Fr.new|apply Fr.put|apply Fr.upto
   all_goals simp only[go_sem]
  all_goals simp only[go_sem]
  all_goals rfl
mutual
def sc:Z0->Int->Bool
 |.mk k _ _ _ _ p _ kids,d=>br (decide (d>6)||decide ((k.length:Int)>20)||decide ((p.length:Int)>40)||decide ((kids.length:Int)>10)) false (scL kids (IntKind.i64.wrap (d+1)))
def scL:List Z0->Int->Bool
 |[],_=>true
 |c::l,d=>br (!(sc c d)) false (scL l d)
end
mutual
def leaves:Z0->Nat
 |.mk _ _ _ _ _ _ _ kids=>Zn kids+1
def Zn:List Z0->Nat
 |[]=>0
 |c::l=>leaves c+Zn l
end
def Ck (p x y:Bool):some (AV.bool (br p x y))=br p (some (.bool x)) (some (.bool y)):=by cases p <;> rfl
def c86:∀c:Z0,∀depth:Int,ZE U 142 [Zo c,.int .i64 depth]=some (.bool (sc c depth)):=by
 intro c
 induction c using Z0.ind with
 |h kind a b mi ma pat nl kids ih =>
 intro depth;refine ZP k86 It (by simp[ZT,YY,still]) ?_;rw[Zo,sc];simp (maxSteps:=2000000) +contextual only[go_sem,r86,ZN,Xw];simp only[Ck];refine TA λSI=>?_
 have hlen:kids.length<=10:=by
  simp only[aqx,decide_eq_false_iff_not] at SI;omega
 refine Yk (σ:=Nat) (λi=>kids.length-i) (λi=>some (AV.bool (scL (kids.drop i) (IntKind.i64.wrap (depth+1))))) (λi e s=>i<=kids.length/\e.get 5=.int .i64 i/\e.get 1=.int .i64 depth/\e.get 2=.ptr 8 0 /\
  s.get 8=some (.cells [.str kind,.int .i64 a,.int .i64 b,.int .i64 mi,.int .i64 ma,.str pat,ZU nl (UF kids)] 106 false 0 0)) 0 ?_ rfl ?_
 ·rintro L i e s ⟨hi,h5,h1,h2,hs⟩ IH;by_cases hd:i<kids.length
  ·have hx:(UF kids)[i]? = some (Zo kids[i]):=by rw[TU,aaa hd];rfl
   have hw:=ZI hd J;have hc:=ih kids[i] (adm hd) (IntKind.i64.wrap (depth+1));rw[Yz (WK hd)] at hs;rw[ZH] at hx hc;simp only[Z0.cells] at hx hc;simp +contextual only[go_sem,sT,h5,h1,h2,hs,Z9,hd,Xw,hx,hc];rw[aea hd,scL]
   cases hb:sc kids[i] (IntKind.i64.wrap (depth+1))
   ·simp only[go_sem]
   ·simp only[go_sem,hw];refine IH (i+1) _ _ J ⟨J,?_,?_,?_,?_⟩ <;> simp +contextual only[go_sem,h1,h2,hs,Yz (WK hd)]
  ·have:i=kids.length:=J;subst this;simp +contextual only[go_sem,sT,h5,h2,hs,ZN,Xw,Z9,ap5];rw[aqi,scL]
 ·refine⟨apW _,?_,?_,?_,?_⟩ <;> simp +contextual only[go_sem] <;> rfl
def qS (c:Z0):1<=leaves c:=by cases c;simp[leaves]
def Hz:∀l,l.length<=Zn l
 |[]=>apW _
 |c::l=>by have:=Hz l;have:=qS c;simp only[Zn,ap1];omega
def Hy:∀{l:List Z0} {c:Z0},c∈l->leaves c<=Zn l
 |c'::l,c,h=>by
  rw[Zn];rcases ap9.1 h with rfl|h
  ·omega
  ·have:=Hy h;omega
def Hx (l m:List Z0):Zn (l++m)=Zn l+Zn m:=by
 induction l with
 |nil=>simp[Zn]
 |cons c l ih=>simp only[aqk,Zn,ih];omega
def c87:∀c:Z0,leaves c<2^62->ZE U 143 [Zo c]=some (.int .i64 (leaves c)):=by
 intro c
 induction c using Z0.ind with
 |h kind a b mi ma pat nl kids ih =>
 intro hb;rw[leaves] at hb ⊢;have hlen:=Hz kids;refine ZP k87 It (by simp[ZT,YY]) ?_;rw[Zo];simp (maxSteps:=2000000) +contextual only[go_sem,r87];refine Yk (σ:=Nat) (λi=>kids.length-i) (λi=>some (AV.int .i64 ((Zn kids+1:Nat):Int))) (λi e s=>i<=kids.length/\e.get 4=.int .i64 i/\e.get 3=.int .i64 ((Zn (kids.take i)+1:Nat):Int)/\e.get 1=.ptr 8 0 /\
  s.get 8=some (.cells [.str kind,.int .i64 a,.int .i64 b,.int .i64 mi,.int .i64 ma,.str pat,ZU nl (UF kids)] 106 false 0 0)) 0 ?_ rfl ?_
 ·rintro L i e s ⟨hi,h4,h3,h1,hs⟩ IH;by_cases hd:i<kids.length
  ·have hx:(UF kids)[i]? = some (Zo kids[i]):=by rw[TU,aaa hd];rfl
   have hw:=ZI hd J;have hc:=ih kids[i] (adm hd) (by have:=Hy (adm hd);omega);have K_:Zn (kids.take (i+1))=Zn (kids.take i)+leaves kids[i]:=by
    rw[ap7 hd,Hx];simp[Zn]
   have hle:Zn (kids.take (i+1))<=Zn kids:=by
    have:=Hx (kids.take (i+1)) (kids.drop (i+1));rw[List.take_append_drop] at this;omega
   have LO:IntKind.i64.wrap (((Zn (kids.take i)+1:Nat):Int)+(leaves kids[i]:Int))=((Zn (kids.take (i+1))+1:Nat):Int):=by rw[wrap_i64] <;> omega
   rw[Yz (WK hd)] at hs;rw[ZH] at hx hc;simp only[Z0.cells] at hx hc;simp +contextual only[go_sem,sR,h4,h3,h1,hs,Z9,hd,Xw,hx,hc,hw,LO];refine IH (i+1) _ _ J ⟨J,?_,?_,?_,?_⟩ <;> simp +contextual only[go_sem,h1,hs,Yz (WK hd)]
  ·have:i=kids.length:=J;subst this;rw[aqN] at h3;simp +contextual only[go_sem,sR,h4,h3,h1,hs,ZN,Xw,Z9,ap5]
 ·refine⟨apW _,?_,?_,?_,?_⟩ <;> simp +contextual only[go_sem] <;> rfl
end Go.Am
namespace Go.Am
open Go
variable [Z8]
def pA {d:Int}:∀{l:List Z0},scL l d=true->∀c∈l,sc c d=true
 |c::l,h,x,hx=>by
  rw[scL] at h
  cases hc:sc c d
  ·rw[hc] at h;cases h
  ·rw[hc] at h;rcases ap9.1 hx with rfl|hx
   ·exact hc
   ·exact pA h x hx
def aaW {k:XJ}{a b mi ma:Int}{p:XJ}{nl:Bool}{kids:List Z0}{d:Int}(h:sc (.mk k a b mi ma p nl kids) d=true)(hd:1<=d):d<=6/\k.length<=20/\p.length<=40/\kids.length<=10/\∀c∈kids,sc c (d+1)=true:=by
 rw[sc] at h
 cases hb:(decide (d>6)||decide ((k.length:Int)>20)||decide ((p.length:Int)>40)||decide ((kids.length:Int)>10))
 ·rw[hb,Zp] at h;simp only[aqx,decide_eq_false_iff_not] at hb;obtain⟨⟨⟨h1,h2⟩,h3⟩,h4⟩:=hb;have hw:IntKind.i64.wrap (d+1)=d+1:=wrap_i64 J J;rw[hw] at h;exact⟨J,J,J,J,pA h⟩
 ·rw[hb] at h;cases h
def pz:∀(c:Z0) (d:Int),1<=d->sc c d=true->c.fits/\leaves c<=11^(7-d.toNat):=by
 intro c
 induction c using Z0.ind with
 |h kind a b mi ma pat nl kids ih =>
 intro d hd h;obtain⟨h1,h2,h3,h4,h5⟩:=aaW h hd;have hk:∀x∈kids,x.fits/\leaves x<=11^(6-d.toNat):=λx hx=>by
  have:=ih x hx (d+1) J (h5 x hx)
  rwa [show 7-(d+1).toNat=6-d.toNat from by omega] at this
 refine⟨?_,?_⟩
 ·rw[Z0.fits];exact⟨J,J,λx hx=>(hk x hx).1⟩
 ·rw[leaves];have:∀l:List Z0,(∀x∈l,x∈kids)->Zn l<=l.length*11^(6-d.toNat):=by
   intro l
   induction l with
   |nil=>intro _;simp[Zn]
   |cons c l DB =>
    intro hl;have:=DB λx hx=>hl x (aab _ hx)
    have:=(hk c (hl c (aba ..))).2;rw[Zn,ap1,aq3];omega
  have h6:=this kids λ_ h=>h
  have h7:kids.length*11^(6-d.toNat)<=10*11^(6-d.toNat):=aqC _ h4;have h8:11^(7-d.toNat)=11*11^(6-d.toNat):=by
   rw[show 7-d.toNat=(6-d.toNat)+1 from by omega,Nat.pow_succ,Nat.mul_comm]
  have h9:1<=11^(6-d.toNat):=Nat.one_le_pow _ _ J;omega
def mn {c:Z0}(h:sc c 1=true):leaves c<2^62:=by
 have:=(pz c 1 J h).2;have e:11^(7-(1:Int).toNat)=1771561:=rfl;rw[e] at this;omega
def FC (c:Z0)(n:Int):Bool:=sc c 1&&decide ((leaves c:Int)<=n)
def c21 (c:Z0)(n:Int):ZE U 72 [Zo c,.int .i64 n]=some (.bool (FC c n)):=by
 refine ZP k21 It (by simp[ZT,YY,still]) ?_;have h86:=c86 c 1;have h87:sc c 1=true->ZE U 143 [Zo c]=some (.int .i64 (leaves c)):=λh=>c87 c (mn h)
 rw[ZH] at h86 h87 ⊢;simp only[Z0.cells] at h86 h87 ⊢;simp (maxSteps:=2000000) +contextual only[go_sem,r21,h86,h87];rfl
def LA (n:Int):List Step->Bool
 |[]=>true
 |s::l=>br (!(FC s.cond n)) false (LA n l)
def short (p:Prog)(n:Int):Bool:=br (decide ((p.steps.length:Int)>10)) false (LA n p.steps)
def c31 (p:Prog)(n:Int):ZE U 22 [XU p,.int .i64 n]=some (.bool (short p n)):=by
 obtain⟨lines,nl,steps⟩:=p;refine ZP k31 It (by simp[ZT,YK,still]) ?_;rw[Ze,short];simp (maxSteps:=2000000) +contextual only[go_sem,r31,ZN,Yo];simp only[Ck];refine TA λSI=>?_
 have hlen:steps.length<=10:=by
  simp only[decide_eq_false_iff_not] at SI;omega
 refine Yk (σ:=Nat) (λi=>steps.length-i) (λi=>some (AV.bool (LA n (steps.drop i)))) (λi e s=>i<=steps.length/\e.get 5=.int .i64 i/\e.get 1=.int .i64 n/\e.get 2=.ptr 8 0 /\
  s.get 8=some (.cells [.int .i64 lines,ZU nl (Zy steps)] 31 false 0 0)) 0 ?_ rfl ?_
 ·rintro L i e s ⟨hi,h5,h1,h2,hs⟩ IH;by_cases hd:i<steps.length
  ·have hx:(Zy steps)[i]? = some (Yy steps[i]):=by rw[Wb,aaa hd];rfl
   have hw:=ZI hd J;have hc:=c21 steps[i].cond n;rw[Yz (XV hd)] at hs;rw[ZH] at hc;simp only[Z0.cells,Yy] at hx hc;simp +contextual only[go_sem,tg,h5,h1,h2,hs,Z9,hd,Yo,hx,hc];rw[aea hd,LA]
   cases hb:FC steps[i].cond n
   ·simp only[go_sem]
   ·simp only[go_sem,hw];refine IH (i+1) _ _ J ⟨J,?_,?_,?_,?_⟩ <;> simp +contextual only[go_sem,h1,h2,hs,Yz (XV hd)]
  ·have:i=steps.length:=J;subst this;simp +contextual only[go_sem,tg,h5,h2,hs,ZN,Yo,Z9,ap5];rw[aqi,LA]
 ·refine⟨apW _,?_,?_,?_,?_⟩ <;> simp +contextual only[go_sem] <;> rfl
def FB {p:Prog}{n:Int}(h:short p n=true):p.steps.length<=10/\∀s∈p.steps,sc s.cond 1=true/\(leaves s.cond:Int)<=n:=by
 unfold short at h
 cases hb:decide ((p.steps.length:Int)>10)
 ·rw[hb,Zp] at h;refine⟨by simp only[decide_eq_false_iff_not] at hb;omega,?_⟩;have:∀l:List Step,LA n l=true->∀s∈l,sc s.cond 1=true/\(leaves s.cond:Int)<=n:=by
   intro l
   induction l with
   |nil=>intro _ s hs;cases hs
   |cons x l ih =>
    intro h s hs;rw[LA] at h
    cases hx:FC x.cond n
    ·rw[hx] at h;cases h
    ·rw[hx] at h;rcases ap9.1 hs with rfl|hs
     ·simpa[FC] using hx
     ·exact ih h s hs
  exact this _ h
 ·rw[hb] at h;cases h
def O2 {p:Prog}{n:Int}(h:short p n=true):p.fits:=by
 obtain⟨h1,h2⟩:=FB h;exact⟨J,λs hs=>(pz _ 1 J (h2 s hs).1).1⟩
def ajh:RC:=(sO [YL 1 78 0,Zf 2] (sO [ZO 3 0 1,ZX 4 3,NG 5 9 4 110 111 116,om 6 5,Xv 7 6 0 1,Yq 8 6 7,oF 9 6 (.bin .eql 9 true (.t 8) (.v (.str [97,108,108]))),YO 10 6 9,om 11 10,Xv 12 11 0 1,Yq 13 11 12,oF 14 11 (.bin .eql 9 true (.t 13) (.v (.str [97,110,121]))),YO 15 11 14,om 2 15] .ret))
def anC:Zm 168=some ([.tmp 2],ajh):=It
def ajg:RC:=(sO [ZA 4 0] (sO [om 5 0,om 6 1,CT 7 3 5 6,eI 8 7 65537 3 3,om 4 8] .ret))
def anB:Zm 128=some ([.tmp 4],ajg):=It
def zM:RC:=(sO [Y_ 20 3 19 18] (sQ (cS 20 (.exit 0)) (sQ (.block 1 (sO [Zq 21 7 17 19,Zw 22 7 21,NF 5 0 0 0 0 78,YC 7 5 22] (oP [om 23 3,Zw 24 7 5,Zk 25 129 24,YU 26 128 23 25,om 3 26]))) (oP [YM 27 3 19 1,om 19 27]))))
def afI:RC:=(sO [YL 1 78 0,ZA 2 0] (sQ (sO [Zw 6 7 1,Zk 7 168 6,WU 8 7] (cT 8 (sQ (.Uu 8 [Od 9 136,ZO 10 0 1,ZX 11 10,BX 12 215 9 11,o 13 (.fd1 6 (.t 12)),Zw 14 7 1,⟨some 15,none,none,true,.Rg (.t 13) [(.t 14)]⟩,om 2 15]) .ret))) (sO [ZA 3 1] (sQ (sO [ZO 16 6 1,ZX 17 16,Za 18 17,ZA 19 0] (.block 0 (.loop zM))) (sO [om 28 3,om 2 28] .ret)))))
def anO:Zm 129=some ([.tmp 2],afI):=It
def aji:RC:=(sO [YL 1 78 0,ZA 2 0] (sO [ZO 3 4 1,ZX 4 3,YM 5 3 4 3,om 2 5] .ret))
def anE:Zm 174=some ([.tmp 2],aji):=It
def ajj:RC:=(sO [YL 1 78 0,ZA 2 0] (sO [ZO 3 3 1,ZX 4 3,YM 5 3 4 2,om 2 5] .ret))
def anG:Zm 175=some ([.tmp 2],ajj):=It
def ajk:RC:=(sO [YL 1 78 0,ZA 2 0] (sO [ZA 2 1] .ret))
def anI:Zm 176=some ([.tmp 2],ajk):=It
def ajl:RC:=(sO [YL 1 78 0,ZA 2 0] (sO [ZA 2 0] .ret))
def anJ:Zm 177=some ([.tmp 2],ajl):=It
def ajm:RC:=(sO [YL 1 78 0,ZA 2 0] (sO [ZO 3 3 1,ZX 4 3,om 2 4] .ret))
def anK:Zm 190=some ([.tmp 2],ajm):=It
def ajn:RC:=(sO [YL 1 78 0,ZA 2 0] (sO [ZA 2 4] .ret))
def anM:Zm 192=some ([.tmp 2],ajn):=It
def zz:RC:=(sO [Y_ 15 3 14 13] (sQ (cS 15 (.exit 0)) (sQ (.block 1 (sO [Zq 16 9 12 14,Zw 17 9 16,xE 6 0 0 0 0 0 0 113,YC 9 6 17] (sO [om 18 3,ZO 19 0 6,Zw 20 7 19,Zk 21 129 20,YU 22 128 18 21,om 3 22] (oP [om 23 4,ZO 24 7 6,ZX 25 24,ZO 26 8 6,ZX 27 26,YM 28 3 27 1,CT 29 3 25 28,UT 30 3 23 29,om 4 30])))) (oP [YM 31 3 14 1,om 14 31]))))
def akP:RC:=(sO [YL 1 25 0,ZA 2 0] (sO [ZO 7 0 1,ZX 8 7,Oc 9 3 1 8,YM 10 3 9 1,om 3 10,ZA 4 0] (sQ (sO [ZO 11 1 1,ZX 12 11,Za 13 12,ZA 14 0] (.block 0 (.loop zz))) (sO [om 32 3,om 33 4,YU 34 128 32 33,om 2 34] .ret))))
def ao5:Zm 61=some ([.tmp 2],akP):=It
def ajf:RC:=(sO [ZA 4 0] (sO [om 5 0,om 6 1,CT 7 3 5 6,eI 8 7 65537 3 3,om 4 8] .ret))
def anA:Zm 116=some ([.tmp 4],ajf):=It
def GM:RC:=(sQ (sO [om 21 4,ZO 22 6 1,ZX 23 22,Za 24 23,Y_ 25 3 21 24] (cS 25 (.exit 1))) (sQ (.block 2 (oP [om 28 3,ZO 29 6 1,ZX 30 29,om 31 4,Zq 32 7 30 31,Zw 33 7 32,Zk 34 117 33,YU 35 116 28 34,om 3 35])) (oP [om 26 4,YM 27 3 26 1,om 4 27])))
def aiQ:RC:=(sO [YL 1 106 0,ZA 2 0] (sQ (sO [ZO 5 0 1,ZX 6 5] (.block 0 (sQ (sO [xF 8 9 6 112 117 108 115 101,om 7 8] (cS 7 (oP [NG 9 9 6 103 97 112,om 7 9]))) (cO 7 (sO [ZO 10 4 1,ZX 11 10,YM 12 3 11 3,om 2 12] .ret) (sQ (sO [Fw 14 9 6 105 100 108 101,om 13 14] (cS 13 (oP [xF 15 9 6 115 101 116 117 112,om 13 15]))) (cO 13 (sO [ZO 16 3 1,ZX 17 16,YM 18 3 17 2,om 2 18] .ret) (sO [Fw 20 9 6 114 117 110 116,om 19 20] (cT 19 (sO [ZA 2 4] .ret))))))))) (sO [ZA 3 1] (sQ (sO [ZA 4 0] (.block 1 (.loop GM))) (sO [om 36 3,om 2 36] .ret)))))
def amX:Zm 117=some ([.tmp 2],aiQ):=It
def tp:RC:=(sQ (sO [om 10 5,ZO 11 1 1,ZX 12 11,Za 13 12,Y_ 14 3 10 13] (cS 14 (.exit 0))) (sQ (.block 1 (sO [om 17 3,ZO 18 1 1,ZX 19 18,om 20 5,Zq 21 9 19 20,ZO 22 0 21,Zw 23 7 22,Zk 24 117 23,YU 25 116 17 24,om 3 25] (.Uu 17 [om 26 4,ZO 27 1 1,ZX 28 27,om 29 5,Zq 30 9 28 29,ZO 31 7 30,ZX 32 31,ZO 33 1 1,ZX 34 33,om 35 5,Zq 36 9 34 35,ZO 37 8 36,ZX 38 37,YM 39 3 38 1,CT 40 3 32 39,UT 41 3 26 40,om 4 41]))) (oP [om 15 5,YM 16 3 15 1,om 5 16])))
def r38:RC:=(sO [YL 1 31 0,ZA 2 0] (sO [ZO 6 0 1,ZX 7 6,Oc 8 3 1 7,YM 9 3 8 1,om 3 9] (sO [ZA 4 0] (sQ (sO [ZA 5 0] (.block 0 (.loop tp))) (sO [om 42 3,om 43 4,eI 44 43 65537 3 3,YU 45 116 42 44,om 2 45] .ret)))))
def k38:Zm 55=some ([.tmp 2],r38):=It
attribute [go_sem] Sf aqQ aqw aqk
def Js (a b:Int):Int:=min (IntKind.i64.wrap (a*b)) 65537
def aef (a b:Int):ZE U 116 [.int .i64 a,.int .i64 b]=some (.int .i64 (Js a b)):=by
 refine ZP anA It rfl ?_;simp +contextual only[go_sem,ajf];rfl
def afH (a b:Int):ZE U 128 [.int .i64 a,.int .i64 b]=some (.int .i64 (Js a b)):=by
 refine ZP anB It rfl ?_;simp +contextual only[go_sem,ajg];rfl
def Xn (k:XJ):Bool:=k==[110,111,116]||(k==[97,108,108]||k==[97,110,121])
def adP (c:Z0):ZE U 168 [Zo c]=some (.bool (Xn c.kind)):=by
 refine ZP anC It (by simp[ZT,YY]) ?_;rw[ZH];simp +contextual only[go_sem,ajh,Z0.cells];rw[Xn]
 cases c.kind==[110,111,116] <;> rfl
def anD (c:Z0):ZE U 174 [Zo c]=some (.int .i64 (IntKind.i64.wrap (c.ma+3))):=by
 refine ZP anE It (by simp[ZT,YY]) ?_;rw[ZH];simp +contextual only[go_sem,aji,Z0.cells]
def anF (c:Z0):ZE U 175 [Zo c]=some (.int .i64 (IntKind.i64.wrap (c.mi+2))):=by
 refine ZP anG It (by simp[ZT,YY]) ?_;rw[ZH];simp +contextual only[go_sem,ajj,Z0.cells]
def anH (c:Z0):ZE U 176 [Zo c]=some (.int .i64 1):=by
 refine ZP anI It (by simp[ZT,YY]) ?_;rw[ZH];simp +contextual only[go_sem,ajk,Z0.cells]
def ald (c:Z0):ZE U 177 [Zo c]=some (.int .i64 0):=by
 refine ZP anJ It (by simp[ZT,YY]) ?_;rw[ZH];simp +contextual only[go_sem,ajl,Z0.cells]
def ale (c:Z0):ZE U 190 [Zo c]=some (.int .i64 c.mi):=by
 refine ZP anK It (by simp[ZT,YY]) ?_;rw[ZH];simp +contextual only[go_sem,ajm,Z0.cells]
def anL (c:Z0):ZE U 192 [Zo c]=some (.int .i64 4):=by
 refine ZP anM It (by simp[ZT,YY]) ?_;rw[ZH];simp +contextual only[go_sem,ajn,Z0.cells]
def WA (d:Kd)(c:Z0):Int:=match d with
 |.UB|.gap=>IntKind.i64.wrap (c.ma+3)
 |.idle|.setup=>IntKind.i64.wrap (c.mi+2)
 |.TC=>4
 |_=>1
def Kd.leaf:Kd->Bool
 |.Jl|.nu|.Gi|.other=>false
 |_=>true
def jQ (d:Kd)(h:d.leaf=true)(c:Z0)(s:St):Kx U (OR d) [Zo c] s=some (.int .i64 (WA d c),s):=by
 cases d <;> first|cases h|skip
 all_goals simp only[OR,Sf,aqQ,aqw,anD,anF,anH,anL,UO,WA]
def Qk (k:XJ)(h:(Zs k).known=true):Xn k=!(Zs k).leaf:=by
 obtain⟨h0,h1,h2,h3,h4,h5,h6,h7,h8,h9,h10,h11,h12,h13,h14⟩:=Qn k;rw[Xn,h12,h13,h14];generalize Zs k=d at *
 cases d <;> first|rfl|cases h
mutual
def Z0.allKnown:Z0->Bool
 |.mk k _ _ _ _ _ _ kids=>(Zs k).known&&((Zs k).leaf||IC kids)
def IC:List Z0->Bool
 |[]=>true
 |c::l=>c.allKnown&&IC l
end
def EC:∀{l:List Z0},IC l=true->∀c∈l,c.allKnown=true
 |c::l,h,x,hx=>by
  rw[IC,ahe] at h;rcases ap9.1 hx with rfl|hx
  ·exact h.1
  ·exact EC h.2 x hx
mutual
def Dv:Z0->Int
 |.mk k a b mi ma p nl kids=>bif (Zs k).leaf then WA (Zs k) (.mk k a b mi ma p nl kids) else Mq kids 1
def Mq:List Z0->Int->Int
 |[],x=>x
 |c::l,x=>Mq l (Js x (Dv c))
end
def anN:∀c:Z0,c.fits->c.allKnown=true->ZE U 129 [Zo c]=some (.int .i64 (Dv c)):=by
 intro c
 induction c using Z0.ind with
 |h kind a b mi ma pat nl kids ih =>
 intro hf hk;rw[Z0.fits] at hf;obtain⟨f1,f2,f3⟩:=hf;rw[Z0.allKnown,ahe] at hk;obtain⟨G0,xh⟩:=hk;refine ZP anO It (by simp[ZT,YY]) ?_;have h213:=adP (.mk kind a b mi ma pat nl kids);have VY:(Zs kind).leaf=true->∀s,Kx U (OR (Zs kind)) [Zo (.mk kind a b mi ma pat nl kids)] s=some (.int .i64 (WA (Zs kind) (.mk kind a b mi ma pat nl kids)),s):=λh s=>jQ _ h _ s
 have lj:=Me kind;rw[show (Z0.mk kind a b mi ma pat nl kids).kind=kind from rfl,Qk kind G0] at h213;rw[Dv];rw[Zo] at h213 VY ⊢;rw[Vh] at lj;generalize WA (Zs kind) (.mk kind a b mi ma pat nl kids)=ls at *
 cases Ow:(Zs kind).leaf
 ·rw[Ow] at h213 xh;simp (maxSteps:=2000000) +contextual only[go_sem,afI,h213,ZN,Xw];rw[aqE] at xh;refine Yk (σ:=Nat×Int) (λx=>kids.length-x.1) (λx=>some (AV.int .i64 (Mq (kids.drop x.1) x.2))) (λx e s=>x.1<=kids.length/\e.get 3=.int .i64 x.2/\e.get 17=ZU nl (UF kids)/\e.get 18=.int .i64 kids.length/\e.get 19=.int .i64 x.1) (0,1) ?_ rfl ?_
  ·rintro L ⟨i,acc⟩ e s ⟨hi,h3,h17,h18,h19⟩ IH;simp only at hi h3 h17 h18 h19 IH ⊢;by_cases hd:i<kids.length
   ·have hx:(UF kids)[i]? = some (Zo kids[i]):=by rw[TU,aaa hd];rfl
    have hw:=ZI hd J;have hc:=ih kids[i] (adm hd) (f3 _ (adm hd)) (EC xh _ (adm hd));rw[ZH] at hx hc;simp only[Z0.cells] at hx hc;rw[Yz (WK hd)] at h17;simp +contextual only[go_sem,zM,h3,h17,h18,h19,Z9,hd,hx,hc,afH,ZV,hw];rw[aea hd,Mq];refine IH (i+1,Js acc (Dv kids[i])) _ _ (by simp only;omega) ⟨by simp only;omega,?_,?_,?_,?_⟩ <;> simp +contextual only[go_sem,h17,h18,Yz (WK hd)]
   ·have:i=kids.length:=J;subst this;simp +contextual only[go_sem,zM,h3,h18,h19,Z9,ap5];rw[aqi,Mq]
  ·refine⟨apW _,?_,?_,?_,?_⟩ <;> simp +contextual only[go_sem] <;> rfl
 ·rw[Ow] at h213;have VY:=VY Ow;simp (maxSteps:=2000000) +contextual only[go_sem,afI,h213,adI,lj,VY]
end Go.Am
namespace Go.Am
open Go
variable [Z8]
variable {e:Env}{s:St}
def Ww:List Step->Int->Int->Int×Int
 |[],n,x=>(n,x)
 |s::l,n,x=>Ww l (Js n (Dv s.cond)) (IntKind.i64.wrap (x+IntKind.i64.wrap (s.times*IntKind.i64.wrap (s.within+1))))
def QL (p:Prog):Int:=Js (Ww p.steps (IntKind.i64.wrap (2^p.lines.toNat+1)) 0).1 (Ww p.steps (IntKind.i64.wrap (2^p.lines.toNat+1)) 0).2
def alQ (p:Prog)(hf:p.fits)(hl:0<=p.lines/\p.lines<=16)(hk:∀s∈p.steps,s.cond.allKnown=true):ZE U 61 [XU p]=some (.int .i64 (QL p)):=by
 obtain⟨lines,nl,steps⟩:=p;obtain⟨f1,f2⟩:=hf;simp only at f1 f2 hl hk;refine ZP ao5 It (by simp[ZT,YK]) ?_;rw[Ze,QL];simp only[go_sem,akP,ZN,Yo,Vf U _ _ _ hl];refine Yk (σ:=Nat×Int×Int) (λx=>steps.length-x.1) (λx=>some (AV.int .i64 (Js (Ww (steps.drop x.1) x.2.1 x.2.2).1 (Ww (steps.drop x.1) x.2.1 x.2.2).2))) (λx e s=>x.1<=steps.length/\e.get 3=.int .i64 x.2.1/\e.get 4=.int .i64 x.2.2/\e.get 12=ZU nl (Zy steps)/\e.get 13=.int .i64 steps.length/\e.get 14=.int .i64 x.1) (0,IntKind.i64.wrap (2^lines.toNat+1),0) ?_ rfl ?_
 ·rintro L ⟨i,n,x⟩ e s ⟨hi,h3,h4,h12,h13,h14⟩ IH;simp only at hi h3 h4 h12 h13 h14 IH ⊢;by_cases hd:i<steps.length
  ·have hx:(Zy steps)[i]? = some (Yy steps[i]):=by rw[Wb,aaa hd];rfl
   have hw:=ZI hd J;have hc:=anN steps[i].cond (f2 _ (adm hd)) (hk _ (adm hd));rw[ZH] at hc;simp only[Z0.cells,Yy] at hx hc;rw[Yz (XV hd)] at h12;simp only[go_sem,zz,h3,h4,h12,h13,h14,Z9,hd,hx,hc,afH,ZV,hw];rw[aea hd,Ww];refine IH (i+1,Js n (Dv steps[i].cond),IntKind.i64.wrap (x+IntKind.i64.wrap (steps[i].times*IntKind.i64.wrap (steps[i].within+1)))) _ _ (by simp only;omega) ⟨by simp only;omega,?_,?_,?_,?_,?_⟩ <;> simp only[go_sem,h12,h13,Yz (XV hd)]
  ·have:i=steps.length:=J;subst this;simp only[go_sem,zz,h3,h4,h13,h14,Z9,ap5,afH];rw[aqi,Ww]
 ·refine⟨apW _,?_,?_,?_,?_,?_⟩ <;> simp only[go_sem] <;> rfl
def IX (lines:Int):∀(c:Z0) (d:Int),LK lines c d=0->c.allKnown=true/\((Zs c.kind).leaf=true->c.kids=[]):=by
 intro c
 induction c using Z0.ind with
 |h kind a b mi ma pat nl kids ih =>
 intro d h;rw[LK] at h;have ne:∀{p:Bool} {e x:Int},(e≠0)->br p e x=0->p=false/\x=0:=λ{p e x} he h=>by
  cases p
  ·exact⟨rfl,h⟩
  ·exact absurd h he
 obtain⟨_,h⟩:=ne J h;obtain⟨hk,h⟩:=ne J h;obtain⟨hu,h⟩:=ne J h;obtain⟨_,h⟩:=ne J h;obtain⟨_,h⟩:=ne J h;obtain⟨_,h⟩:=ne J h;obtain⟨_,h⟩:=ne J h;obtain⟨_,h⟩:=ne J h;obtain⟨_,h⟩:=ne J h;obtain⟨_,h⟩:=ne J h;obtain⟨_,h⟩:=ne J h;have hk:(Zs kind).known=true:=by simpa using hk
 have Qp:(Zs kind).leaf=true->kids=[]:=λhl=>by
  have hun:(Yt (Zs kind)).kids=false:=by
   cases hd:Zs kind <;> rw[hd] at hl <;> first|rfl|cases hl
  simp only[aqx,Bool.and_eq_false_iff,hun] at hu;have:=hu.2;simp only[aqF,Bool.true_eq_false,decide_eq_false_iff_not,false_or] at this
  cases kids with
  |nil=>rfl
  |cons c l=>simp at this
 refine⟨?_,Qp⟩;rw[Z0.allKnown,hk,aqr]
 cases hl:(Zs kind).leaf
 ·rw[aqE];have:∀l:List Z0,(∀x∈l,x∈kids)->O4 lines l (IntKind.i64.wrap (d+1))=0->IC l=true:=by
   intro l
   induction l with
   |nil=>intro _ _;rfl
   |cons c l DB =>
    intro hl h;rw[O4] at h
    cases hb:LK lines c (IntKind.i64.wrap (d+1)) != 0
    ·rw[hb,Zp] at h;rw[IC,DB (λx hx=>hl x (aab _ hx)) h,(ih c (hl c (aba ..)) _ (by simpa using hb)).1];rfl
    ·rw[hb,Yd] at h;rw[h] at hb;cases hb
  exact this kids (λ_ h=>h) h
 ·rfl
def X4 (now last:Int)(first:Bool):AV:=.agg [.int .i64 now,.int .i64 last,.bool first]
def Xf (n k:Int):Bool:=Zi n k==1
def Fg (n:Int):Prop:=0<=n/\n<65536
def ajN (now last:Int)(first:Bool)(k:Int)(h:Fg now)(h2:0<=k)(h3:k<64):ZE U 180 [X4 now last first,.int .i64 k]=some (.bool (Xf now k)):=by
 refine ZP aof It rfl ?_;have:=zR k.toNat h.1;have h4:=h.2;simp only[go_sem,ajO,X4,Gy _ _ _ _ h2 (show k<=64 by omega),JQ _ _ _ this.1 J];rfl
def ajP (now last:Int)(first:Bool)(k:Int)(h:Fg last)(h2:0<=k)(h3:k<64):ZE U 183 [X4 now last first,.int .i64 k]=some (.bool (Xf last k)):=by
 refine ZP aog It rfl ?_;have:=zR k.toNat h.1;have h4:=h.2;simp only[go_sem,ajQ,X4,Gy _ _ _ _ h2 (show k<=64 by omega),JQ _ _ _ this.1 J];rfl
def De (c:UInt8)(l:XJ)(h:c.toNat<128):TH (c::l)=(c.toNat,1):=by
 unfold TH;simp only[List.getElem?_cons_zero,aq6];rw[Of h]
def jG {e:Env}{s:St}{k:Nat}{b:XJ}(h:e.get k=.str b):Yn U (X0 U) e (.range 9 (.tmp k)) s=some (.ptr s.next 0,s.new (.iter b 0)):=by
 have h9:U.Zd 9=some .string:=It;simp only[Yn,eval,h,h9]
def jF {k r pos:Nat}(h:e.get k=.ptr r 0)(hs:s.get r=some (.iter [] pos)):Yn U (X0 U) e (.next (.tmp k) true) s=some (.XQ [.bool false],s):=by
 simp only[Yn,eval,h,hs]
def jE {k r pos:Nat}{c:UInt8}{b:XJ}(h:e.get k=.ptr r 0)(hs:s.get r=some (.iter (c::b) pos))(hc:c.toNat<128) :
  Yn U (X0 U) e (.next (.tmp k) true) s=some (.XQ [.bool true,.int .i64 pos,.int .i32 c.toNat],s.put r (.iter b (pos+1))):=by
 simp only[Yn,eval,h,hs,De c b hc,aq5,aqy]
def af4 (pat:XJ)(sym:Int)(hs:Fg sym)(hp:pat.length<=16)(XP:∀c∈pat,c=48\/c=49\/c=120):ZE U 186 [.str pat,.int .i64 sym]=some (.bool (oA sym 0 pat)):=by
 refine ZP aoh It rfl ?_;have RX:=hs.1;have TB:=hs.2;have hrg:=@jG _ (k:=7) (b:=pat);simp only[go_sem,ajR,hrg];refine Yk (σ:=Nat) (λi=>pat.length-i) (λi=>some (AV.bool (oA sym i (pat.drop i)))) (λi e s=>i<=pat.length/\e.get 8=.ptr 8 0/\e.get 1=.int .i64 sym/\s.get 8=some (.iter (pat.drop i) i)) 0 ?_ rfl ?_
 ·rintro L i e s ⟨hi,h8,h1,hit⟩ ih;by_cases hd:i<pat.length
  ·rw[aea hd] at hit;have hc:=XP pat[i] (adm hd);have ajS:pat[i].toNat<128:=by rcases hc with h|h|h <;> rw[h] <;> decide
   have hn:=jE h8 hit ajS;have hb:=zR i RX;have af5:=KC sym (i:Int);have e1:=Gy 3 false sym (i:Int) J J;rw[aqt] at e1;have e2:=JQ 3 true (sym / 2^i) hb.1 J;have e2':sym / 2^i%2=Zi sym (i:Int):=rfl;rw[e2'] at e2;have uI:IntKind.i64.wrap (48+Zi sym (i:Int))=48+Zi sym (i:Int):=by rw[wrap_i64] <;> omega
   have LO:IntKind.i32.wrap (48+Zi sym (i:Int))=48+Zi sym (i:Int):=by rcases af5 with h|h <;> rw[h] <;> decide
   rw[aea hd,oA,adw];have next:∀e',e'.get 8=.ptr 8 0->e'.get 1=.int .i64 sym->SJ U (U7 U [.tmp 4]) [K.bk 0,K.sq ((RC.ops [⟨some 4,none,none,false,.Qq (.v (.bool true))⟩]).seq RC.ret)] L e' (s.put 8 (.iter (pat.drop (i+1)) (i+1)))=some (AV.bool (oA sym (i+1) (pat.drop (i+1)))) :=
    λe' q8 q1=>ih (i+1) _ _ J ⟨J,q8,q1,by rw[Z7,Of rfl]⟩
   rcases hc with h|h|h <;> rw[h] at hn ⊢
   ·have hcc:((48:UInt8).toNat:Int)=48:=rfl;rw[hcc] at hn;rcases af5 with hz|hz <;> rw[hz] at e2 uI LO ⊢
    ·simp only[go_sem,OV,h1,hn,e1,e2];refine next _ ?_ ?_ <;> simp only[go_sem,h8,h1]
    ·simp only[go_sem,OV,h1,hn,e1,e2];rfl
   ·have hcc:((49:UInt8).toNat:Int)=49:=rfl;rw[hcc] at hn;rcases af5 with hz|hz <;> rw[hz] at e2 uI LO ⊢
    ·simp only[go_sem,OV,h1,hn,e1,e2];rfl
    ·simp only[go_sem,OV,h1,hn,e1,e2];refine next _ ?_ ?_ <;> simp only[go_sem,h8,h1]
   ·have hcc:((120:UInt8).toNat:Int)=120:=rfl;rw[hcc] at hn;simp only[go_sem,OV,hn];refine next _ ?_ ?_ <;> simp only[go_sem,h8,h1]
  ·have:i=pat.length:=J;subst this;rw[aqi] at hit;have hn:=jF h8 hit;simp only[go_sem,OV,hn];rw[aqi];rfl
 ·refine⟨apW _,?_,?_,?_⟩ <;> simp only[go_sem,aqy]
theorem aak (c:Bool)(a b:Bool):Xj U .eql 4 c (.bool a) (.bool b)=some (.bool (a==b)):=by
 cases c <;> cases a <;> cases b <;> kernel_rfl
theorem uL (c:Bool)(a b:Bool):Xj U .neq 4 c (.bool a) (.bool b)=some (.bool (a != b)):=by
 cases c <;> cases a <;> cases b <;> kernel_rfl
structure Z0.Lc (c:Z0):Prop where
 a:0<=c.a/\c.a<16
 b:0<=c.b/\c.b<16
 mi:0<=c.mi/\c.mi<=255
 ma:0<=c.ma/\c.ma<=255
 pat:c.pat.length<=16
 agC:∀x∈c.pat,x=48\/x=49\/x=120
theorem Z0.wf.Lc {c:Z0}(h:c.wf):c.Lc:=by
 cases c
 rw[Z0.wf] at h;obtain⟨ha,hb,hm,hM,hp,hp',-⟩:=h;exact⟨ha,hb,hm,hM,hp,hp'⟩
def Hg (lv:Bool)(c:Z0)(st:Int)(h w first:Bool):Int×Bool :=
 bif !(h==lv) then (0,(w==lv)&&decide (st>=c.mi)&&decide (st<=c.ma))
 else bif first then (c.ma+1,false) else bif !(w==lv) then (1,false) else (min (st+1) (c.ma+1),false)
def NT (c:Z0)(st:Int)(h w first:Bool):Int×Bool :=
 let s1:=min ((bif first||h != w then 0 else st)+1) (c.mi+1)
 (s1,s1==c.mi)
def RH (c:Z0)(st:Int)(h w hb wb:Bool):Int×Bool :=
 let s1:=bif h != w then 0 else min (st+1) c.mi
 (s1,hb&&!wb&&decide (s1<c.mi))
def N7 (st:Int)(h w hb first:Bool):Int×Bool :=
 bif !h then (0,w&&st==2) else bif !first&&!hb&&(!w||st==2) then (2,false) else (1,false)
def stP (d:Kd)(c:Z0)(st now last:Int)(first:Bool):Int×Bool :=
 let h:=Xf now c.a
 let w:=Xf last c.a
 match d with
 |.high=>(st,h)
 |.low=>(st,!h)
 |.Gj=>(st,h&&!w)
 |.fall=>(st,!h&&w)
 |.pattern=>(st,oA now 0 c.pat)
 |.enter=>(st,oA now 0 c.pat&&!oA last 0 c.pat)
 |.UB=>Hg true c st h w first
 |.gap=>Hg false c st h w first
 |.idle=>NT c st h w first
 |.setup=>RH c st h w (Xf now c.b) (Xf last c.b)
 |.TC=>N7 st h w (Xf now c.b) first
 |_=>(st,false)
section
variable (c:Z0)(hc:c.Lc)(st now last:Int)(first:Bool)(hn:Fg now)(hl:Fg last)(hs:0<=st/\st<=256)
include hc hn hl
theorem h_a:ZE U 180 [.agg [.int .i64 now,.int .i64 last,.bool first],.int .i64 c.a]=some (.bool (Xf now c.a)):=ajN now last first c.a hn hc.a.1 (by have:=hc.a.2;omega)
theorem h_b:ZE U 180 [.agg [.int .i64 now,.int .i64 last,.bool first],.int .i64 c.b]=some (.bool (Xf now c.b)):=ajN now last first c.b hn hc.b.1 (by have:=hc.b.2;omega)
theorem w_a:ZE U 183 [.agg [.int .i64 now,.int .i64 last,.bool first],.int .i64 c.a]=some (.bool (Xf last c.a)):=ajP now last first c.a hl hc.a.1 (by have:=hc.a.2;omega)
theorem w_b:ZE U 183 [.agg [.int .i64 now,.int .i64 last,.bool first],.int .i64 c.b]=some (.bool (Xf last c.b)):=ajP now last first c.b hl hc.b.1 (by have:=hc.b.2;omega)
theorem apc:ZE U 179 [Zo c,X4 now last first]=some (.bool (Xf now c.a)):=by
 refine ZP aoC It (by simp[ZT,YY,still,X4]) ?_;have e1:=h_a c hc now last first hn hl
 rw[ZH,X4];simp +contextual only[go_sem,akh,Z0.cells,e1]
theorem apd:ZE U 181 [Zo c,X4 now last first]=some (.bool (!Xf now c.a)):=by
 refine ZP aoD It (by simp[ZT,YY,still,X4]) ?_;have e1:=h_a c hc now last first hn hl
 rw[ZH,X4];simp +contextual only[go_sem,aki,Z0.cells,e1]
theorem ape:ZE U 182 [Zo c,X4 now last first]=some (.bool (Xf now c.a&&!Xf last c.a)):=by
 refine ZP aoE It (by simp[ZT,YY,still,X4]) ?_;have e1:=h_a c hc now last first hn hl
 have e2:=w_a c hc now last first hn hl
 rw[ZH,X4];simp +contextual only[go_sem,akj,Z0.cells,e1,e2]
theorem apf:ZE U 184 [Zo c,X4 now last first]=some (.bool (!Xf now c.a&&Xf last c.a)):=by
 refine ZP aoF It (by simp[ZT,YY,still,X4]) ?_;have e1:=h_a c hc now last first hn hl
 have e2:=w_a c hc now last first hn hl
 rw[ZH,X4];simp +contextual only[go_sem,akk,Z0.cells,e1,e2]
theorem apg:ZE U 185 [Zo c,X4 now last first]=some (.bool (oA now 0 c.pat)):=by
 refine ZP aoG It (by simp[ZT,YY,still,X4]) ?_;have e1:=af4 c.pat now hn hc.pat hc.agC;rw[ZH,X4];simp +contextual only[go_sem,akl,Z0.cells,e1]
theorem aph:ZE U 187 [Zo c,X4 now last first]=some (.bool (oA now 0 c.pat&&!oA last 0 c.pat)):=by
 refine ZP aoH It (by simp[ZT,YY,still,X4]) ?_;have e1:=af4 c.pat now hn hc.pat hc.agC;have e2:=af4 c.pat last hl hc.pat hc.agC;rw[ZH,X4];simp +contextual only[go_sem,akm,Z0.cells,e1,e2]
omit hc hn hl in
theorem jg {g:FuncId}{b:Bool}(hg:ZE U g [Zo c,X4 now last first]=some (.bool b)):ZE U 216 [Zo c,.int .i64 st,X4 now last first,.fp [.fn (.func g) [] []] 0]=some (.XQ [.int .i64 st,.bool b]):=by
 refine ZP aoL It (by simp[ZT,YY,still,X4]) ?_;rw[ZH,X4] at hg ⊢;simp only[Z0.cells] at hg ⊢;simp +contextual only[go_sem,akq,hg]
include hs
theorem akX (lv:Bool):ZE U 217 [Zo c,.int .i64 st,X4 now last first,.fp [.bool lv] 0]=some (.XQ [.int .i64 (Hg lv c st (Xf now c.a) (Xf last c.a) first).1,.bool (Hg lv c st (Xf now c.a) (Xf last c.a) first).2]):=by
 refine ZP aoM It (by simp[ZT,YY,still,X4]) ?_;have e1:=h_a c hc now last first hn hl
 have e2:=w_a c hc now last first hn hl
 have hM:=hc.ma;have w1:IntKind.i64.wrap (c.ma+1)=c.ma+1:=by rw[wrap_i64] <;> omega
 have w2:IntKind.i64.wrap (st+1)=st+1:=by rw[wrap_i64] <;> omega
 rw[ZH,X4,Hg]
 cases hh:Xf now c.a==lv <;> cases hw:Xf last c.a==lv <;> cases first
 all_goals simp (maxSteps:=2000000) +contextual only[go_sem,akr,Z0.cells,e1,e2,aak,hh,hw,w1,w2,GU]
 all_goals rfl
theorem apj:ZE U 189 [Zo c,.int .i64 st,X4 now last first]=some (.XQ [.int .i64 (NT c st (Xf now c.a) (Xf last c.a) first).1,.bool (NT c st (Xf now c.a) (Xf last c.a) first).2]):=by
 refine ZP aoI It (by simp[ZT,YY,still,X4]) ?_;have e1:=h_a c hc now last first hn hl
 have e2:=w_a c hc now last first hn hl
 have hM:=hc.mi;have w1:IntKind.i64.wrap (c.mi+1)=c.mi+1:=by rw[wrap_i64] <;> omega
 have w2:IntKind.i64.wrap (st+1)=st+1:=by rw[wrap_i64] <;> omega
 have w3:IntKind.i64.wrap (0+1)=0+1:=by decide
 rw[ZH,X4,NT]
 cases hh:Xf now c.a != Xf last c.a <;> cases first
 all_goals simp (maxSteps:=2000000) +contextual only[go_sem,akn,Z0.cells,e1,e2,uL,hh,w1,w2,GU]
 all_goals rfl
theorem apk:ZE U 191 [Zo c,.int .i64 st,X4 now last first]=some (.XQ [.int .i64 (RH c st (Xf now c.a) (Xf last c.a) (Xf now c.b) (Xf last c.b)).1,.bool (RH c st (Xf now c.a) (Xf last c.a) (Xf now c.b) (Xf last c.b)).2]):=by
 refine ZP aoJ It (by simp[ZT,YY,still,X4]) ?_;have e1:=h_a c hc now last first hn hl
 have e2:=w_a c hc now last first hn hl
 have e3:=h_b c hc now last first hn hl
 have e4:=w_b c hc now last first hn hl
 have w2:IntKind.i64.wrap (st+1)=st+1:=by rw[wrap_i64] <;> omega
 rw[ZH,X4,RH]
 cases hh:Xf now c.a != Xf last c.a <;> cases h3:Xf now c.b <;> cases h4:Xf last c.b
 all_goals simp (maxSteps:=2000000) +contextual only[go_sem,ako,Z0.cells,e1,e2,e3,e4,uL,hh,h3,h4,w2,GU]
 all_goals rfl
theorem apl:ZE U 193 [Zo c,.int .i64 st,X4 now last first]=some (.XQ [.int .i64 (N7 st (Xf now c.a) (Xf last c.a) (Xf now c.b) first).1,.bool (N7 st (Xf now c.a) (Xf last c.a) (Xf now c.b) first).2]):=by
 refine ZP aoK It (by simp[ZT,YY,still,X4]) ?_;have e1:=h_a c hc now last first hn hl
 have e2:=w_a c hc now last first hn hl
 have e3:=h_b c hc now last first hn hl
 rw[ZH,X4,N7]
 cases hh:Xf now c.a <;> cases h2:Xf last c.a <;> cases h3:Xf now c.b <;> cases first <;> cases h4:(st==2)
 all_goals simp (maxSteps:=2000000) +contextual only[go_sem,akp,Z0.cells,e1,e2,e3,hh,h2,h3,h4]
 all_goals rfl
theorem jM (d:Kd)(hd:d.leaf=true)(s:St):Kx U (OQ d) [Zo c,.int .i64 st,X4 now last first] s=some (.XQ [.int .i64 (stP d c st now last first).1,.bool (stP d c st now last first).2],s):=by
 have q1:=jg c st now last first (apc c hc now last first hn hl)
 have q2:=jg c st now last first (apd c hc now last first hn hl)
 have q3:=jg c st now last first (ape c hc now last first hn hl)
 have q4:=jg c st now last first (apf c hc now last first hn hl)
 have q5:=jg c st now last first (apg c hc now last first hn hl)
 have q6:=jg c st now last first (aph c hc now last first hn hl)
 have q7:=akX c hc st now last first hn hl hs true
 have q8:=akX c hc st now last first hn hl hs false
 have q9:=apj c hc st now last first hn hl hs
 have HX:=apk c hc st now last first hn hl hs
 have qx:=apl c hc st now last first hn hl hs
 cases d <;> first|cases hd|skip
 all_goals simp only[OQ,Sf,aqQ,aqw,aqk,q1,q2,q3,q4,q5,q6,q7,q8,q9,HX,qx,UO,stP]
end
end Go.Am
namespace Go.Am
open Go
variable [Z8]
mutual
def VE:Z0->List Z0
 |.mk k a b mi ma p nl kids=>bif Xn k then ZL kids else [.mk k a b mi ma p nl kids]
def ZL:List Z0->List Z0
 |[]=>[]
 |c::l=>VE c++ZL l
end
def Ph {k:XJ}{a b mi ma:Int}{p:XJ}{nl:Bool}{kids:List Z0}(h:(Z0.mk k a b mi ma p nl kids).wf):Xn k=(Yt (Zs k)).kids:=by
 rw[Z0.wf] at h;have hk:=h.2.2.2.2.2.2.1;rw[Qk k hk];generalize Zs k=d at *
 cases d <;> first|rfl|(simp[Kd.known] at hk)
def A_:∀c:Z0,c.wf->VE c≠[]:=by
 intro c
 induction c using Z0.ind with
 |h k a b mi ma p nl kids ih =>
 intro h;have DW:=Ph h;rw[Z0.wf] at h;obtain⟨-,-,-,-,-,-,-,-,-,ZB,-,-,hk⟩:=h;rw[VE]
 cases hc:Xn k with
 |false=>simp
 |true =>
  rw[hc] at DW
  cases kids with
  |nil=>exact absurd rfl (ZB DW.symm)
  |cons x l =>
   rw[cond_true,ZL];intro e;exact ih x (aba ..) (hk x (aba ..)) (List.append_eq_nil_iff.1 e).1
def Yh (l:List Z0):List AV:=l.flatMap λc=>(Zo c).cells
def DJ (l:List Z0):(Yh l).length=l.length*7:=Ij Zo 7 Qj l
def Hp (l:List Z0):(Yh l).all Zu=true:=by
 rw[ap8];intro x hx;obtain⟨c,_,hc⟩:=List.mem_flatMap.1 hx;rw[ZH,Qi,Z0.cells] at hc;simp only[ap9,List.not_mem_nil,or_false] at hc;rcases hc with rfl|rfl|rfl|rfl|rfl|rfl|rfl
 all_goals first|rfl|exact ZV ..
def A9 (l:List Z0)(s:St):VH 7 (.fz (l.map Zo)) s=some (l.length,Yh l):=by
 have:(l.map Zo).all (λx=>x.cells.length==7)=true:=by
  rw[ap8];intro x hx;obtain⟨c,_,rfl⟩:=ap0.1 hx;rw[ZH];rfl
 simp only[VH,this,Yh,ala,List.flatMap_map];rfl
def ak_:∀c:Z0,c.wf->(VE c).length<=2^20->ZE U 137 [Zo c]=some (.fz ((VE c).map Zo)):=by
 intro c
 induction c using Z0.ind with
 |h kind a b mi ma pat nl kids ih =>
 intro Ot hL;have hcw:=Ot;rw[Z0.wf] at hcw;obtain⟨-,-,-,-,-,-,-,-,-,-,-,hk8,hkw⟩:=hcw;refine ZP ak' It (by simp[ZT,YY]) ?_;have h213:=adP (.mk kind a b mi ma pat nl kids);rw[show (Z0.mk kind a b mi ma pat nl kids).kind=kind from rfl] at h213;have aau:=A_ _ Ot;rw[VE] at hL aau ⊢
 cases DW:Xn kind with
 |false =>
  rw[DW] at h213 hL;simp only[cond_false,aqe,List.map_nil];rw[Zo] at h213 ⊢;simp only[go_sem,adQ,h213,Vg]
 |true =>
  rw[DW] at h213 hL aau;simp only[cond_true] at hL aau ⊢;rw[Zo] at h213 ⊢;simp only[go_sem,adQ,h213,ZN,Xw];refine Yk (σ:=Nat×List Z0) (λx=>kids.length-x.1) (λx=>some (.fz ((ZL kids).map Zo))) (λx e s=>x.1<=kids.length/\x.2++ZL (kids.drop x.1)=ZL kids/\e.get 12=ZU nl (UF kids)/\e.get 13=.int .i64 kids.length/\e.get 14=.int .i64 x.1/\8<s.next/\Fr s /\
   ∃v,e.get 3=v/\ZD s 9 78 7 x.2.length (Yh x.2) v) (0,[]) ?_ rfl ?_
  ·rintro L ⟨i,acc⟩ e s ⟨hi,Ho,Jj,yU,g14,hn,Qs,v,g3,hv⟩ IH;simp only at hi Ho g14 hv IH ⊢;have Oi:=hv.WV;have Pq:=hv.Zu;by_cases hd:i<kids.length
   ·have hx:(UF kids)[i]? = some (Zo kids[i]):=by rw[TU,aaa hd];rfl
    have hw:=ZI hd J;rw[aea hd,ZL] at Ho;have hlen:acc.length+((VE kids[i]).length+(ZL (kids.drop (i+1))).length)=(ZL kids).length:=by rw[<-Ho];simp
    have hc:=ih kids[i] (adm hd) (hkw _ (adm hd)) J;have hm0:(VE kids[i]).length≠0:=λe=>A_ _ (hkw _ (adm hd)) (List.eq_nil_of_length_eq_zero e)
    have hsc:=A9 (VE kids[i]);have qu:=DJ (VE kids[i]);have hcn:=Hp (VE kids[i]);rw[ZH] at hx hc;simp only[Z0.cells] at hx hc;rw[Yz (WK hd)] at Jj;have TV:(acc.length+(VE kids[i]).length)*88<=1099511627776:=J;have U5:acc.length+(VE kids[i]).length<=1099511627776:=J;simp only[go_sem,A8,g3,Jj,yU,g14,Z9,hd,hx,hc,ZV,Zx,Nat.reducePow,Oi,TV,U5,hsc,qu,hm0,not_false_eq_true];have D0:∀y z,ZD ((s.new y).put s.next z) 9 78 7 acc.length (Yh acc) v:=λy z=>hv.mono O0 λj _ hj=>by rw[Z7,O3 J,Z5,O3 J]
    obtain⟨s1,e1,e2,e3,e4,e5⟩:=(D0 (.cells [.str [],.int .i64 0,.int .i64 0,.int .i64 0,.int .i64 0,.str [],.ZQ] 78 false 0 0) (.cells kids[i].cells 78 false 0 0)).app O0 hm0 qu hcn;simp only[Z0.cells] at e1;rw[e1];simp only[go_sem,hw,g14];refine IH (i+1,acc++VE kids[i]) _ _ (by simp only;omega) ⟨by simp only;omega,by simp only[aqs];exact Ho,?_,?_,?_,?_,e5 ((Qs.new _).put O0 _),.sl (s.next+1) 0 (acc.length+(VE kids[i]).length) none 7,?_,?_⟩
    case refine_6 =>
     simp only[ann,Yh,List.flatMap_append];exact e3
    all_goals try simp only[go_sem,Jj,yU,Yz (WK hd)]
    rw[e2,Z_,Z'];omega
   ·have:i=kids.length:=J;subst this;rw[aqi,ZL,aqw] at Ho;subst Ho;simp only[go_sem,A8,g3,yU,g14,Z9,ap5];rw[hv.Wt U Gh Gg J Qj (d:=39) (λa=>Oh _ _ _)]
    cases hq:ZL kids with
    |nil=>exact absurd hq aau
    |cons x y=>rfl
  ·refine⟨apW _,by rw[aqy,aqQ],?_,?_,?_,?_,?_,.ZQ,?_,ZD.nil _ _ _ _⟩
   case refine_5 =>
    repeat first|exact Fr.own|apply Fr.new|apply Fr.put|apply Fr.upto
    all_goals simp only[go_sem]
   all_goals simp only[go_sem]
   all_goals rfl
end Go.Am
namespace Go.Am
open Go
variable [Z8]
noncomputable def ads:Code:=JU 67 0
def ai1:OH U ads=some (15,[(o 32 (.fa 1 (.t 4)),none),
 (o 33 (.Sr (.t 32)),none),
 (o 34 (.Mx 7 (.t 10)),none),
 (⟨some 35,none,some 3,false,.Uc 78 7 1 [(.str []),(.int .i64 0),(.int .i64 0),(.int .i64 0),(.int .i64 0),(.str []),.ZQ] [(0,7,(.t 34))]⟩,none),
 (⟨some 36,none,none,true,.app 78 7 88 (.t 33) (.t 35)⟩,none),
 (o 37 (.fa 2 (.t 4)),none),
 (o 38 (.Sr (.t 37)),some (0,1)),
 (o 39 (.fa 8 (.t 11)),none),
 (o 40 (.Sr (.t 39)),some (0,1)),
 (⟨some 41,none,some 9,false,.Uc 218 1 1 [.VC] [(0,1,(.t 40))]⟩,none),
 (⟨some 42,none,none,true,.app 218 1 8 (.t 38) (.t 41)⟩,none),
 (o 43 (.fa 1 (.t 4)),none),
 (⟨none,none,none,true,.st 1 (.t 43) (.t 36)⟩,none),
 (o 44 (.fa 2 (.t 4)),none),
 (⟨none,none,none,true,.st 1 (.t 44) (.t 42)⟩,none)]):=It
noncomputable def zU:RC:=(sO [Y_ 25 3 24 23] (sQ (cS 25 (.exit 2)) (sQ (.block 3 (sO [Zq 26 7 22 24,Zw 27 7 26,NF 10 0 0 0 0 78,YC 7 10 27] (sO [om 28 5,ZO 29 0 10,ZX 30 29,BX 31 215 28 30,o 11 (.al [bF,bF,bF,bF,bF,bF,.VC,.VC,.VC] 220),YC 9 11 31] (sQ (.raw ads) (oP [om 45 6,ZO 46 7 11,ZX 47 46,Zw 48 7 10,Fc 49 47 48,PE 50 3 1 1 0 0 1 49,VN 51 3 1 8 45 50,om 6 51]))))) (oP [YM 52 3 24 1,om 24 52]))))
noncomputable def tj:RC:=(sO [Y_ 18 3 17 16] (sQ (cS 18 (.exit 0)) (sQ (.block 1 (sO [Zq 19 7 15 17,Zw 20 7 19,NF 8 0 0 0 0 78,YC 7 8 20] (sO [Zw 21 7 8,Zk 22 137 21,Za 23 22,ZA 24 0] (.block 2 (.loop zU))))) (oP [YM 53 3 17 1,om 17 53]))))
noncomputable def r92:RC:=(sO [oR 2 128,XF 3] (sO [om 12 0,o 13 (.RR [.ZQ,.ZQ,.ZQ] [(0,1,(.t 12))]),oR 4 128,YC 3 4 13] (sO [Od 14 136,om 5 14] (sO [XF 6] (sQ (sO [om 15 0,Za 16 15,ZA 17 0] (.block 0 (.loop tj))) (sO [Zw 54 3 4,om 55 6,YC 3 2 54,om 3 55] .ret))))))
def k92:Zm 67=some ([.cell 2 128,.tmp 3],r92):=It
noncomputable def adt:Code:=JU 69 0
def ail:OH U adt=some (9,[(om 16 1,none),
 (o 17 (.QE (.t 16)),none),
 (⟨some 18,none,some 2,false,.raw (.makeSlice 48 (.tmp 17) (.tmp 17))⟩,none),
 (om 19 1,none),
 (o 20 (.QE (.t 19)),some (0,0)),
 (⟨some 21,none,some 5,false,.raw (.makeSlice 72 (.tmp 20) (.tmp 20))⟩,none),
 (⟨some 9,none,some 6,false,.al [.ZQ] 72⟩,none),
 (om 8 18,none),
 (⟨none,none,none,true,.st 1 (.t 9) (.t 21)⟩,none)]):=It
noncomputable def adu:Code:=JU 69 1
def ajy:OH U adu=some (23,[(om 31 8,none),
 (om 32 10,none),
 (o 33 (.Sr (.t 9)),some (0,2)),
 (om 34 10,none),
 (o 35 (.fa 2 (.t 3)),none),
 (o 36 (.Sr (.t 35)),none),
 (om 37 10,none),
 (o 38 (.FI 1 (.t 36) (.t 37)),none),
 (o 39 (.Sr (.t 38)),none),
 (o 40 (.Mx 7 (.t 11)),none),
 (om 41 1,none),
 (om 42 10,none),
 (o 43 (.FI 1 (.t 41) (.t 42)),none),
 (o 44 (.Sr (.t 43)),none),
 (o 45 (.Mx 3 (.t 5)),none),
 (⟨some 46,none,none,true,.Rg (.t 39) [(.t 40),(.t 44),(.t 45)]⟩,none),
 (om 30 46,none),
 (o 47 (.ext (.t 30) 0),none),
 (o 48 (.ext (.t 30) 1),none),
 (o 49 (.FI 1 (.t 31) (.t 32)),none),
 (⟨none,none,none,true,.st 1 (.t 49) (.t 47)⟩,none),
 (o 50 (.FI 1 (.t 33) (.t 34)),none),
 (⟨none,none,none,true,.st 1 (.t 50) (.t 48)⟩,none)]):=It
noncomputable def zL:RC:=(sO [Y_ 26 3 25 24] (sQ (cS 26 (.exit 0)) (sQ (.block 1 (sO [om 27 25,Zq 28 7 23 25,Zw 29 7 28,NF 11 0 0 0 0 78,om 10 27,YC 7 11 29] (.raw adu))) (oP [YM 51 3 25 1,om 25 51]))))
noncomputable def Aa:RC:=(sO [Y_ 56 3 55 54] (sQ (cS 56 (.exit 2)) (sQ (.block 3 (sO [Zq 57 7 53 55,Zw 58 7 57,NF 15 0 0 0 0 78,YC 7 15 58] (oP [om 59 13,Zw 60 7 15,o 61 (.mkf 141 [] [(.t 12),(.t 9)]),YU 62 140 60 61,o 63 (.Uc 4 1 1 [bF] [(0,1,(.t 62))]),VN 64 4 1 1 59 63,om 13 64]))) (oP [YM 65 3 55 1,om 55 65]))))
noncomputable def r93:RC:=(sO [YL 3 128 0,YL 5 137 2,XF 6,XF 7] (sQ (.raw adt) (sQ (sO [ZO 22 1 3,ZX 23 22,Za 24 23,ZA 25 0] (.block 0 (.loop zL))) (sO [o 12 (.al [(iI 0)] 3),oS (.st 1 (.t 12) (vI (-1)))] (sO [XF 13] (sQ (sO [ZO 52 0 3,ZX 53 52,Za 54 53,ZA 55 0] (.block 2 (.loop Aa))) (sO [om 66 8,om 67 13,om 6 66,om 7 67] .ret)))))))
def k93:Zm 69=some ([.tmp 6,.tmp 7],r93):=It
def ZD.stay {s s1:St}{B:Nat}{t t':TypeId}{n n' i i':Nat}{cs i_:List AV}{v v':AV}(h:ZD s B t n i cs v)(h':ZD s B t' n' i' i_ v')(ht:t≠t')(hn:s.next<=s1.next)
  (hg:∀j,j<s.next->v'≠.sl j 0 i' none n'->s1.get j=s.get j):ZD s1 B t n i cs v:=by
 rcases h with⟨h0,h1,h2⟩|⟨h0,h1,b,h2,h3,h4,h5⟩
 ·exact .inl ⟨h0,h1,h2⟩
 ·exact .inr ⟨h0,h1,b,h2,J,h4,by rw[hg b h3 (h'.other h5 ht)];exact h5⟩
structure CRow (s:St)(v:AV)(l:List Z0):Prop where
 len:U1 v=some (.int .i64 l.length)
 elem:∀i (h:i<l.length),∃x,UJ 7 v (.int .i64 (i:Int))=some x/\∀s',(∀j,j<s.next->s'.get j=s.get j)->Mx 7 x s'=some (Zo l[i])
 plain:Zu v=true
 cells:v.cells=[v]
def Xm (c:Z0):Int:=match Zs c.kind with
 |.setup=>c.mi
 |_=>0
def tC (c:Z0)(hd:(Zs c.kind).leaf=true)(s:St):Kx U (RU (Zs c.kind)) [Zo c] s=some (.int .i64 (Xm c),s):=by
 unfold Xm
 cases hk:Zs c.kind <;> rw[hk] at hd <;> first|cases hd|skip
 all_goals simp only[RU,Sf,aqQ,aqw,ald,ale,UO]
def Xg (c:Z0):AV:=OQ (Zs c.kind)
def HD (c:Z0):(Xg c).cells=[Xg c]:=by unfold Xg;cases Zs c.kind <;> rfl
def Nu (c:Z0):Zu (Xg c)=true:=by unfold Xg;cases Zs c.kind <;> rfl
def wJ (d:Kd):Zu (OR d)=true/\Zu (RU d)=true/\Zu (OQ d)=true:=by cases d <;> exact⟨rfl,rfl,rfl⟩
structure F92 (s0:St)(v:AV)(acc:List Z0)(e:Env)(s:St):Prop where
 t2:e.get 2=.ptr s0.next 0
 t4:e.get 4=.ptr (s0.next+1) 0
 t5:e.get 5=.fm Jn Jm
 nx:s0.next+2<=s.next
 fr:Fr s
 old:∀j,j<s0.next->s.get j=s0.get j
 g2:s.get s0.next=some (.cells [.ZQ,.ZQ,.ZQ] 128 false 0 0)
 rows:∃lv sv st,s.get (s0.next+1)=some (.cells [v,lv,sv] 128 false 0 0)/\e.get 6=st/\ZD s (s0.next+2) 78 7 acc.length (Yh acc) lv /\
  ZD s (s0.next+2) 218 1 acc.length (acc.map Xg) sv/\ZD s (s0.next+2) 3 1 acc.length (ints (acc.map Xm)) st
def l92 {β:Type}{fin:Fl->β}{ks:List K}{ZC:β->Prop}(s0:St)(v:AV)(hv:Zu v=true/\v.cells=[v])(acc:List Z0)(L:List Z0)(hL:L≠[])(hw:∀c∈L,(Zs c.kind).leaf=true)(hlen:acc.length+L.length<=2^20)(x15 x16 x17:AV)
  (hk:∀e s,F92 s0 v (acc++L) e s->e.get 15=x15->e.get 16=x16->e.get 17=x17->ZC (goN U fin ks e s)){e:Env}{s:St}
  (hI:F92 s0 v acc e s)(h15:e.get 15=x15)(h16:e.get 16=x16)(h17:e.get 17=x17)(h22:e.get 22=.fz (L.map Zo))(h23:e.get 23=.int .i64 L.length)(h24:e.get 24=.int .i64 (0:Nat)) :
  ZC (SJ U fin (.bk 2::ks) zU e s):=by
 obtain⟨v1,v2⟩:=hv;refine YT (σ:=Nat) (λi=>L.length-i) (λi e s=>i<=L.length/\F92 s0 v (acc++L.take i) e s/\e.get 15=x15/\e.get 16=x16/\e.get 17=x17/\e.get 22=.fz (L.map Zo)/\e.get 23=.int .i64 L.length/\e.get 24=.int .i64 (i:Nat)) 0 ?_
  ⟨apW _,by rw[List.take_zero,aqw];exact hI,h15,h16,h17,h22,h23,h24⟩
 clear hI h15 h16 h17 h22 h23 h24 e s;rintro Lp i e s ⟨hi,hF,h15,h16,h17,h22,h23,h24⟩ IH;by_cases hd:i<L.length
 ·have hx:(L.map Zo)[i]? = some (Zo L[i]):=by rw[aqc,aaa hd];rfl
  have Ql:=ZI hd J;have Ow:=hw _ (adm hd);obtain⟨t2,t4,t5,nx,fr,old,g2,lv,sv,st,g4,t6,R1,R2,R3⟩:=hF;have hal:(acc++L.take i).length=acc.length+i:=by rw[ann,aqO];omega
  rw[hal] at R1 R2 R3;have lj:=Me L[i].kind;have W_:=tC L[i] Ow;obtain⟨n1,n2,n3⟩:=wJ (Zs L[i].kind);have ai0:OQ (Zs L[i].kind)=Xg L[i]:=rfl;rw[Vh] at lj;rw[ai0] at lj n3;rw[ZH] at hx W_;simp only[Z0.cells] at hx W_;have ne:∀k,(s.next+k=s0.next+1)=False:=λk=>F_
  have ne':(s.next=s0.next+1)=False:=F_;have TV:(acc.length+(i+1))*88<=1099511627776:=J;have U5:acc.length+(i+1)<=1099511627776:=J;have zo:(acc.length+(i+1))*8<=1099511627776:=J;have la1:=R1.WV;have la2:=R2.WV;have la3:=R3.WV;have na1:=R1.Zu;have na2:=R2.Zu;have na3:=R3.Zu;have Ps:=fr.at;have sf:∀k,(s.next=s.next+(k+1))=False:=λk=>by simp
  have sg:∀k,(s.next+(k+1)=s.next)=False:=λk=>by simp
  simp only[go_sem,zU,t4,t5,h22,h23,h24,Z9,hd,hx,ZV,lj,n1,n2,n3,TT ai1,g4,ne,ne',Ps,la1,TV,U5,Zx,Nat.reducePow,aqP,ap2,sf,sg,Option.isNone_none];have RS:∀(y1 y2 y3 y4 y5:Uf) {t:TypeId} {n k:Nat} {cs:List AV} {w:AV},ZD s (s0.next+2) t n k cs w->ZD ((((((s.new y1).put s.next y2).new y3).put (s.next+1) y4).upto (s.next+17)).put (s.next+5) y5) (s0.next+2) t n k cs w:=λy1 y2 y3 y4 y5 _ _ _ _ _ h =>
   h.mono O0 λj _ hj=>by simp only[Z7,ZR,Z5,Z_,Z'];rw[O3 J,O3 J,O3 J,O3 J,O3 J]
  have GS:∀(y1 y2 y3 y4 y5:Uf) (j:Nat),j<s.next->((((((s.new y1).put s.next y2).new y3).put (s.next+1) y4).upto (s.next+17)).put (s.next+5) y5).get j=s.get j:=λy1 y2 y3 y4 y5 j hj=>by
   simp only[Z7,ZR,Z5,Z_,Z'];rw[O3 J,O3 J,O3 J,O3 J,O3 J]
  have FS:∀(y1 y2 y3 y4 y5:Uf),Fr ((((((s.new y1).put s.next y2).new y3).put (s.next+1) y4).upto (s.next+17)).put (s.next+5) y5):=λy1 y2 y3 y4 y5 =>
   (((((fr.new _).put O0 _).new _).put O0 _).upto O0).put O0 _
  generalize hY1:Uf.cells [.str [],.int .i64 0,.int .i64 0,.int .i64 0,.int .i64 0,.str [],.ZQ] 78 false 0 0=Y1;generalize hY3:Uf.cells [.bool false,.bool false,.bool false,.bool false,.bool false,.bool false,.VC,.VC,.VC] 220 false 0 0=Y3;generalize hY4:Uf.cells [AV.bool (Yt (Zs L[i].kind)).a,AV.bool (Yt (Zs L[i].kind)).b,AV.bool (Yt (Zs L[i].kind)).mi,AV.bool (Yt (Zs L[i].kind)).ma,AV.bool (Yt (Zs L[i].kind)).pat,AV.bool (Yt (Zs L[i].kind)).kids,OR (Zs L[i].kind),RU (Zs L[i].kind),Xg L[i]] 220 false 0 0=Y4;generalize hY5:Uf.cells [AV.str L[i].kind,AV.int IntKind.i64 L[i].a,AV.int IntKind.i64 L[i].b,AV.int IntKind.i64 L[i].mi,AV.int IntKind.i64 L[i].ma,AV.str L[i].pat,ZU L[i].nl (UF L[i].kids)] 78 false 0 0=Y5;obtain⟨s1,e1,DO,er1,eg1,ef1⟩:=(RS Y1 Y5 Y3 Y4 Y5 R1).FA O0 (m:=1) (new:=L[i].cells) J rfl (by simp only[Z0.cells,go_sem,ZV]);simp only[Z0.cells] at e1;have k4:s1.get (s0.next+1)=some (.cells [v,lv,sv] 128 false 0 0):=by rw[eg1 _ O0 (R1.xQ (.inr J)),GS _ _ _ _ _ _ J,g4]
  have kt:s1.get (s.next+1)=some Y4:=by
   rw[eg1 _ O0 (R1.xQ (.inl J))];simp only[Z7,ZR,↓reduceIte];rw[O3 J]
  have kx:s1.get s.next=some Y5:=by
   rw[eg1 _ O0 (R1.xQ (.inl J))];simp only[Z7,ZR,Z5,Z_,Z',↓reduceIte];rw[O3 J,O3 J,O3 J]
  have k9:s1.get (s.next+11)=none:=by
   rw[eg1 _ O0 (R1.xQ (.inl J))];simp only[Z7,ZR,Z5,Z_,Z'];rw[O3 J,O3 J,O3 J,O3 J,O3 J];exact Ps 11
  simp only[Z_,Z6] at DO;rw[<-hY4] at kt;rw[<-hY5] at kx;simp only[go_sem,e1,k4,kt,k9,t4,la2,U5,zo,Zx,Nat.reducePow,ap3,ap2,Option.isNone_none,HD];have R2':ZD s1 (s0.next+2) 218 1 (acc.length+i) ((acc++L.take i).map Xg) sv :=
   (RS Y1 Y5 Y3 Y4 Y5 R2).stay (RS Y1 Y5 Y3 Y4 Y5 R1) Mo (by rw[DO];simp only[Z_,Z6];omega) λj hj hv=>eg1 j (by simp only[Z_,Z6] at hj ⊢;omega) hv
  have R3':ZD s1 (s0.next+2) 3 1 (acc.length+i) (ints ((acc++L.take i).map Xm)) st :=
   (RS Y1 Y5 Y3 Y4 Y5 R3).stay (RS Y1 Y5 Y3 Y4 Y5 R1) Mo (by rw[DO];simp only[Z_,Z6];omega) λj hj hv=>eg1 j (by simp only[Z_,Z6] at hj ⊢;omega) hv
  generalize hY6:Uf.cells [Xg L[i]] 218 false 0 0=Y6;have P1:∀{t:TypeId} {n k:Nat} {cs:List AV} {w:AV},ZD s1 (s0.next+2) t n k cs w->(∀lo,s1.get (s.next+11)=lo->lo=none)->ZD (s1.put (s.next+11) Y6) (s0.next+2) t n k cs w:=λ{t n k cs w} h _=>by
   rcases h with⟨h0,h1,h2⟩|⟨h0,h1,b,h2,h3,h4,h5⟩
   ·exact .inl ⟨h0,h1,h2⟩
   ·refine .inr ⟨h0,h1,b,h2,h3,h4,?_⟩;have:s.next+11≠b:=λe=>by rw[<-e,k9] at h5;cases h5
    rw[Z7,O3 this];exact h5
  have Q2:=P1 R2' (λlo h=>by rw[<-h,k9]);have Q3:=P1 R3' (λlo h=>by rw[<-h,k9]);have Q1:=P1 er1 (λlo h=>by rw[<-h,k9]);obtain⟨s2,e2,oB,er2,eg2,ef2⟩:=Q2.FA (by rw[Z_,DO];omega) (m:=1) (new:=[Xg L[i]]) J rfl (by simp[Nu]);rw[Z_,DO] at e2 oB er2 eg2;have j4:s2.get (s0.next+1)=some (.cells [v,lv,sv] 128 false 0 0):=by rw[eg2 _ J (R2.xQ (.inr J)),Z7,O3 J,k4]
  have jt:s2.get (s.next+1)=s1.get (s.next+1):=by rw[eg2 _ J (R2.xQ (.inl J)),Z7,O3 J]
  have jx:s2.get s.next=s1.get s.next:=by rw[eg2 _ J (R2.xQ (.inl J)),Z7,O3 J]
  rw[kt] at jt;rw[kx] at jx;have nf:∀k,(s0.next+1=s.next+k)=False:=λk=>F_
  have nf':(s0.next+1=s.next)=False:=F_;have hp8:cellOf (some Y4) 8=some (Xg L[i]):=by rw[<-hY4];rfl
  simp only[go_sem,hp8,e2,j4,jt,jx,k4,kt,t4,t6,oB,g4,ne,ne',nf,nf',la3,U5,zo,Zx,Nat.reducePow,ap3,ap2,W_];have V3:ZD s2 (s0.next+2) 3 1 (acc.length+i) (ints ((acc++L.take i).map Xm)) st :=
   Q3.stay Q2 Mo (by rw[oB,Z_,DO];omega) λj hj hv=>eg2 j (by rw[Z_,DO] at hj;omega) hv
  have V1:ZD s2 (s0.next+2) 78 7 (acc.length+i+1) (Yh (acc++L.take i)++L[i].cells) (.sl (s.next+17) 0 (acc.length+i+1) none 7) :=
   Q1.stay Q2 Mo (by rw[oB,Z_,DO];omega) λj hj hv=>eg2 j (by rw[Z_,DO] at hj;omega) hv
  generalize hZ1:Uf.cells [v,.sl (s.next+17) 0 (acc.length+(i+1)) none 7,sv] 128 false 0 0=Z1;generalize hZ2:Uf.cells [v,.sl (s.next+17) 0 (acc.length+(i+1)) none 7,.sl (s.next+18) 0 (acc.length+(i+1)) none 1] 128 false 0 0=Z2;generalize hZ3:Uf.cells [.int .i64 (Xm L[i])] 3 false 0 0=Z3;have TS:∀{t:TypeId} {n k:Nat} {cs:List AV} {w:AV},ZD s2 (s0.next+2) t n k cs w->ZD (((s2.put (s0.next+1) Z1).put (s0.next+1) Z2).new Z3) (s0.next+2) t n k cs w:=λh =>
   h.mono O0 λj hj Dq=>by rw[Z5,Z_,Z_,O3 J,Z7,O3 J,Z7,O3 J]
  obtain⟨s3,e3,en3,er3,eg3,ef3⟩:=(TS V3).FA O0 (m:=1) (new:=[.int .i64 (Xm L[i])]) J rfl rfl;simp only[Z_,Z',oB] at e3 en3 er3 eg3;rw[e3];simp only[go_sem,h24,Ql];have lh:∀{t:TypeId} {n k:Nat} {cs:List AV} {w:AV} {s':St},ZD s' (s0.next+2) t n k cs w->∀j,j<s0.next+2->w≠.sl j 0 k none n:=λh j hj=>h.xQ (.inr hj)
  have G:∀j,j<s0.next+1->s3.get j=s.get j:=λj hj=>by
   rw[eg3 j J (lh V3 j J),Z5,Z_,Z_,O3 J,Z7,O3 J,Z7,O3 J,eg2 j J (lh R2 j J),Z7,O3 J,eg1 j O0 (lh R1 j J),GS _ _ _ _ _ j J]
  have G4:s3.get (s0.next+1)=some Z2:=by
   rw[eg3 _ J (lh V3 _ J),Z5,Z_,Z_,O3 J,Z7,Of rfl]
  have K_:acc++L.take (i+1)=(acc++L.take i)++[L[i]]:=by rw[ap7 hd,aqs]
  have dT:(acc++L.take (i+1)).length=acc.length+i+1:=by rw[K_,ann,hal];rfl
  refine IH (i+1) _ _ J ⟨J,⟨?_,?_,?_,by rw[en3];omega,?_,λj hj=>by rw[G j J,old j hj],by rw[G _ J,g2],_,_,.sl (s.next+20) 0 (acc.length+i+1) none 1,by rw[G4,<-hZ2],?_,?_,?_,?_⟩,?_,?_,?_,?_,?_,?_⟩
  case refine_4 =>
   refine ef3 (((ef2 ?_).put (by rw[oB];omega) _).put (by rw[Z_,oB];omega) _ |>.new _);exact (ef1 (FS _ _ _ _ _)).put (by rw[DO];omega) _
  case refine_6 =>
   rw[dT,K_,Yh,List.flatMap_append];refine ((TS V1).stay (TS V3) Mo (by rw[en3,Z',Z_,Z_,oB];omega) λj hj hv=>eg3 j (by simp only[Z_,Z',oB] at hj;omega) hv:ZD s3 _ _ _ _ (Yh (acc++L.take i)++L[i].cells) _) |> λh=>?_
   simpa[Yh,ZH,Qi,ap2] using h
  case refine_7 =>
   rw[dT,K_,aqf];exact (TS er2).stay (TS V3) Mo (by rw[en3,Z',Z_,Z_,oB];omega) λj hj hv=>eg3 j (by simp only[Z_,Z',oB] at hj;omega) hv
  case refine_8 =>
   rw[dT,K_,aqf,ints,aqf];exact er3
  all_goals simp only[go_sem,t2,t4,t5,h15,h16,h17,h22,h23]
 ·have:i=L.length:=J;subst this;rw[aqN] at hF;simp only[go_sem,zU,h23,h24,Z9,ap5];refine hk _ _ ⟨?_,?_,?_,hF.nx,hF.fr,hF.old,hF.g2,?_⟩ ?_ ?_ ?_
  case refine_4 =>
   obtain⟨lv,sv,st,g4,t6,R⟩:=hF.rows;exact⟨lv,sv,st,g4,by simp only[go_sem,t6],R⟩
  all_goals simp only[go_sem,hF.t2,hF.t4,hF.t5,h15,h16,h17]
def UM:∀(a b:List Z0),ZL (a++b)=ZL a++ZL b
 |[],b=>by simp[ZL]
 |c::a,b=>by rw[aqk,ZL,ZL,UM a b,aqs]
def NR {c:Z0}:∀{l:List Z0},c∈ZL l->∃x∈l,c∈VE x
 |[],h=>by simp[ZL] at h
 |x::l,h=>by
  rw[ZL,aqm] at h;rcases h with h|h
  ·exact⟨x,aba ..,h⟩
  ·obtain⟨y,h1,h2⟩:=NR h;exact⟨y,aab _ h1,h2⟩
def NQ:∀c:Z0,c.wf->∀x∈VE c,x.wf/\(Zs x.kind).leaf=true:=by
 intro c
 induction c using Z0.ind with
 |h k a b mi ma p nl kids ih =>
 intro h x hx;have DW:=Ph h;have h':=h;rw[Z0.wf] at h';obtain⟨-,-,-,-,-,-,zu,-,-,-,-,-,hk⟩:=h';rw[VE] at hx
 cases hc:Xn k with
 |true =>
  rw[hc] at hx;obtain⟨y,h1,h2⟩:=NR hx;exact ih y h1 (hk y h1) x h2
 |false =>
  rw[hc] at hx;simp only[cond_false,apY] at hx;subst hx;refine⟨h,?_⟩;rw[Qk k zu] at hc;show (Zs k).leaf=true
  simpa using hc
def P92 (s0:St)(v:AV)(l:List Z0)(r:Option (AV×St)):Prop:=∃s' lv sv st,r=some (.XQ [.agg [v,lv,sv],st],s')/\Fr s'/\s0.next+2<=s'.next/\(∀j,j<s0.next->s'.get j=s0.get j) /\
   ZD s' (s0.next+2) 78 7 (ZL l).length (Yh (ZL l)) lv/\ZD s' (s0.next+2) 218 1 (ZL l).length ((ZL l).map Xg) sv/\ZD s' (s0.next+2) 3 1 (ZL l).length (ints ((ZL l).map Xm)) st
def c92 (s0:St)(v:AV)(l:List Z0)(hl:∀c∈l,c.wf)(Hm:l.length<=2^20)(hlen:(ZL l).length<=2^20)(hr:CRow s0 v l)(hf:Fr s0) :
  ∃s' lv sv st,UN U 67 [v] s0=some (.XQ [.agg [v,lv,sv],st],s')/\Fr s'/\s0.next+2<=s'.next/\(∀j,j<s0.next->s'.get j=s0.get j) /\
   ZD s' (s0.next+2) 78 7 (ZL l).length (Yh (ZL l)) lv/\ZD s' (s0.next+2) 218 1 (ZL l).length ((ZL l).map Xg) sv/\ZD s' (s0.next+2) 3 1 (ZL l).length (ints ((ZL l).map Xm)) st:=by
 have key:∃s' lv sv st,go U (Us U [.cell 2 128,.tmp 3]) [] r92 (Zr 0 [v] .nil) s0=some (.XQ [.agg [v,lv,sv],st],s')/\Fr s'/\s0.next+2<=s'.next/\(∀j,j<s0.next->s'.get j=s0.get j) /\
   ZD s' (s0.next+2) 78 7 (ZL l).length (Yh (ZL l)) lv/\ZD s' (s0.next+2) 218 1 (ZL l).length ((ZL l).map Xg) sv/\ZD s' (s0.next+2) 3 1 (ZL l).length (ints ((ZL l).map Xm)) st:=by
  have v1:=hr.plain;have v2:=hr.cells;have v3:=hr.len;simp (maxSteps:=2000000) +contextual only[go_sem,r92,v1,v2,v3,adI];show P92 s0 v l _;refine YT (σ:=Nat) (ZC:=P92 s0 v l)
   (λi=>l.length-i) (λi e s=>i<=l.length/\F92 s0 v (ZL (l.take i)) e s/\e.get 15=v/\e.get 16=.int .i64 l.length/\e.get 17=.int .i64 (i:Nat)) 0 ?_ ?_
  ·rintro L i e s ⟨hi,hF,h15,h16,h17⟩ IH;by_cases hd:i<l.length
   ·obtain⟨t2,t4,t5,nx,fr,old,g2,lv,sv,st,g4,t6,R1,R2,R3⟩:=hF;obtain⟨x,hx1,zt⟩:=hr.elem i hd;have zt:=zt s old;have Ql:=ZI hd J;have SE:=adm hd;have Jk:ZL l=ZL (l.take i)++(VE l[i]++ZL (l.drop (i+1))):=by
     conv=>lhs;rw[<-List.take_append_drop i l,UM,aea hd,ZL]
    have HY:(ZL (l.take i)).length+((VE l[i]).length+(ZL (l.drop (i+1))).length)=(ZL l).length:=by rw[Jk];simp
    have hc:=ak_ l[i] (hl _ SE) J;have K_:ZL (l.take (i+1))=ZL (l.take i)++VE l[i]:=by
     rw[ap7 hd,UM];simp[ZL]
    rw[ZH] at zt hc;simp only[Z0.cells] at zt hc;simp (maxSteps:=2000000) +contextual only[go_sem,tj,h15,h16,h17,Z9,hd,hx1,zt,hc,ZV,ala];refine l92 s0 v ⟨v1,v2⟩ (ZL (l.take i)) (VE l[i]) (A_ _ (hl _ SE)) (λc hc=>(NQ _ (hl _ SE) c hc).2) J v (.int .i64 l.length) (.int .i64 (i:Nat)) ?_ ⟨?_,?_,?_,?_,?_,?_,?_,lv,sv,st,?_,?_,?_,?_,?_⟩ ?_ ?_ ?_ ?_ ?_ ?_
    case refine_1 =>
     intro e' s' hF' q15 q16 q17;simp (maxSteps:=2000000) +contextual only[go_sem,q17,Ql];refine IH (i+1) _ _ J ⟨J,?_,?_,?_,?_⟩
     ·rw[K_];obtain⟨lv',K9,st',y4,y6,yR⟩:=hF'.rows;exact⟨by simp +contextual only[go_sem,hF'.t2],by simp +contextual only[go_sem,hF'.t4],by simp +contextual only[go_sem,hF'.t5],hF'.nx,hF'.fr,hF'.old,hF'.g2,lv',K9,st',y4,by simp +contextual only[go_sem,y6],yR⟩
     all_goals simp +contextual only[go_sem,q15,q16]
    case refine_5=>simp only[Z_,Z'];omega
    case refine_6=>exact (fr.new _).put O0 _
    case refine_7 =>
     intro j hj;rw[Z7,O3 J,Z5,O3 J,old j hj]
    case refine_8=>rw[Z7,O3 J,Z5,O3 J,g2]
    case refine_9=>rw[Z7,O3 J,Z5,O3 J,g4]
    case refine_11=>exact R1.mono O0 λj _ hj=>by rw[Z7,O3 J,Z5,O3 J]
    case refine_12=>exact R2.mono O0 λj _ hj=>by rw[Z7,O3 J,Z5,O3 J]
    case refine_13=>exact R3.mono O0 λj _ hj=>by rw[Z7,O3 J,Z5,O3 J]
    all_goals simp +contextual only[go_sem,t2,t4,t5,t6,h15,h16,h17]
    all_goals rfl
   ·have:i=l.length:=J;subst this;rw[aqN] at hF;obtain⟨t2,t4,t5,nx,fr,old,g2,lv,sv,st,g4,t6,R1,R2,R3⟩:=hF;have na1:=R1.Zu;have na2:=R2.Zu;simp (maxSteps:=2000000) +contextual only[go_sem,tj,h16,h17,t2,t4,t6,g2,g4,Z9,ap5,na1,na2,v1];refine⟨_,lv,sv,st,rfl,fr.put J _,by rw[Z_];exact nx,λj hj=>by rw[Z7,O3 J,old j hj],?_,?_,?_⟩
    ·exact R1.mono O0 λj hj _=>by rw[Z7,O3 J]
    ·exact R2.mono O0 λj hj _=>by rw[Z7,O3 J]
    ·exact R3.mono O0 λj hj _=>by rw[Z7,O3 J]
  ·refine⟨apW _,⟨?_,?_,?_,?_,?_,?_,?_,.ZQ,.ZQ,.ZQ,?_,?_,ZD.nil _ _ _ _,ZD.nil _ _ _ _,ZD.nil _ _ _ _⟩,?_,?_,?_⟩
   case refine_5=>exact ((hf.new _).new _).put O0 _
   case refine_6 =>
    intro j hj;simp only[Z7,Z5,Z'];rw[O3 J,O3 J,O3 J]
   all_goals simp +contextual only[go_sem]
   all_goals first|rfl|omega|(rw[O3 J])|skip
 obtain⟨s',lv,sv,st,h1,h2⟩:=key;exact⟨s',lv,sv,st,Yi k92 It h1,h2⟩
mutual
def jd:Z0->List Bool->Bool
 |.mk k _ _ _ _ _ _ kids,hs=>bif Xn k then (match Zs k with
   |.Jl=>!(oZ kids hs false true).1
   |.Gi=>(oZ kids hs false true).1
   |_=>(oZ kids hs false true).2) else hs.headD false
def oZ:List Z0->List Bool->Bool->Bool->Bool×Bool
 |[],_,s,a=>(s,a)
 |c::l,hs,s,a=>oZ l (hs.drop (VE c).length) (s||jd c hs) (a&&jd c hs)
end
def adh (args:List AV)(s:St):Yx U (ZE U 140 args) 140 args s=UN U 140 args s:=(YJ U 140 args s).symm
def akW (args:List AV)(s:St):Yx U (ZE U 141 args) 141 args s=UN U 141 args s:=(YJ U 141 args s).symm
def apb {p q b n:Nat}{cap:Option Nat}{H:List Bool}{k:Nat}{s:St}(ja:p≠q)(a8:p≠b)(hk:k<H.length)(hn:H.length=n)(C0:n<=2^30)
  (hp:s.get p=some (.cells [.int .i64 ((k:Int)-1)] 3 false 0 0))(hq:s.get q=some (.cells [.sl b 0 n cap 1] 72 false 0 0))(hb:s.get b=some (.cells (Zt H) 4 false 0 0)) :
  UN U 141 [.ptr p 0,.ptr q 0] s=some (.bool H[k],s.put p (.cells [.int .i64 (k:Int)] 3 false 0 0)):=by
 refine Yi aoO It ?_;have hw:IntKind.i64.wrap ((k:Int)-1+1)=(k:Int):=by rw[wrap_i64] <;> omega
 have hx:(Zt H)[k]? = some (.bool H[k]):=by rw[B4,aaa hk];rfl
 have Lz:k<n:=J;simp only[go_sem,aks,hp,hq,hb,hw,ja,a8,hx,Lz,ap4,ap3]
def agB (p:Nat)(s0:St)(v:Bool)(m:Nat)(r:Option (AV×St)):Prop :=
 ∃s',r=some (.bool v,s')/\s'.get p=some (.cells [.int .i64 ((m:Int)-1)] 3 false 0 0)/\(∀j,j<s0.next->j≠p->s'.get j=s0.get j)/\s0.next<=s'.next/\Fr s'
def amD (p q b n:Nat)(cap:Option Nat)(H:List Bool)(ja:p≠q)(a8:p≠b)(hn:H.length=n)(C0:n<=2^30):∀c:Z0,c.wf->∀(k:Nat) (s:St),Fr s->p<s.next->q<s.next->b<s.next ->
  s.get p=some (.cells [.int .i64 ((k:Int)-1)] 3 false 0 0)->s.get q=some (.cells [.sl b 0 n cap 1] 72 false 0 0)->s.get b=some (.cells (Zt H) 4 false 0 0)->k+(VE c).length<=n ->
  agB p s (jd c (H.drop k)) (k+(VE c).length) (UN U 140 [Zo c,.fn (.func 141) [] [.ptr p 0,.ptr q 0]] s):=by
 intro c
 induction c using Z0.ind with
 |h kind a bb mi ma pat nl kids ih =>
 intro Ot k s0 Qs iU hq0 BW hp hq hb zu;have h213:=adP (.mk kind a bb mi ma pat nl kids);rw[show (Z0.mk kind a bb mi ma pat nl kids).kind=kind from rfl] at h213;have hcw:=Ot;rw[Z0.wf] at hcw;obtain⟨-,-,-,-,-,-,aaj,-,-,-,-,hk8,hkw⟩:=hcw
 suffices K':agB p s0 (jd (.mk kind a bb mi ma pat nl kids) (H.drop k)) (k+(VE (.mk kind a bb mi ma pat nl kids)).length) (go U (Us U [.tmp 4]) [] acC (Zr 0 [Zo (.mk kind a bb mi ma pat nl kids),.fn (.func 141) [] [.ptr p 0,.ptr q 0]] .nil) s0) by
  obtain⟨s',h1,h2⟩:=K';exact⟨s',Yi aoN It h1,h2⟩
 rw[VE] at zu ⊢;rw[jd]
 cases DW:Xn kind with
 |false =>
  rw[DW] at h213 zu;simp only[cond_false,aqh] at zu ⊢;have hk:k<H.length:=J;have VY:=@apb _ p q b n cap H k (s0.new (.cells (Z0.mk kind a bb mi ma pat nl kids).cells 78 false 0 0)) ja a8 hk hn C0 (by rw[Z5,O3 J];exact hp) (by rw[Z5,O3 J];exact hq) (by rw[Z5,O3 J];exact hb);have hhd:(H.drop k).headD false=H[k]:=by rw[aea hk];rfl
  rw[hhd];rw[Zo] at h213 ⊢;simp only[Z0.cells,Z0.kind,Z0.a,Z0.b,Z0.mi,Z0.ma,Z0.pat,Z0.nl,Z0.kids] at VY;simp only[go_sem,acC,h213,akW,VY];refine⟨_,rfl,?_,?_,?_,?_⟩
  ·rw[Z7,Of rfl,show ((k+1:Nat):Int)-1=(k:Int) by omega]
  ·intro j hj hjp;rw[Z7,O3 (λe=>hjp e.symm),Z5,O3 J]
  ·rw[Z_,Z'];omega
  ·exact (Qs.new _).put O0 _
 |true =>
  rw[DW] at h213 zu;simp only[cond_true] at zu ⊢;rw[Zo] at h213 ⊢;have ne:∀k,(s0.next+1+k=s0.next)=False:=λk=>F_
  simp only[go_sem,acC,h213,ZN,Xw];refine YT (σ:=Nat) (λi=>kids.length-i) (λi e s=>i<=kids.length/\(∃sm al,oZ (kids.drop i) (H.drop (k+(ZL (kids.take i)).length)) sm al=oZ kids (H.drop k) false true/\e.get 5=.bool sm/\e.get 6=.bool al) /\
   e.get 1=.fn (.func 141) [] [.ptr p 0,.ptr q 0]/\e.get 2=.ptr s0.next 0/\e.get 16=ZU nl (UF kids)/\e.get 17=.int .i64 kids.length/\e.get 18=.int .i64 (i:Nat) /\
   Fr s/\s0.next<s.next/\s.get s0.next=some (.cells [.str kind,.int .i64 a,.int .i64 bb,.int .i64 mi,.int .i64 ma,.str pat,ZU nl (UF kids)] 78 false 0 0)/\(∀j,j<s0.next->j≠p->s.get j=s0.get j) /\
   s.get p=some (.cells [.int .i64 (((k+(ZL (kids.take i)).length:Nat):Int)-1)] 3 false 0 0)) 0 ?_ ?_
  ·rintro L i e s ⟨hi,⟨sm,al,hj,g5,g6⟩,g1,g2,Ny,g17,qI,fr,Vq,hs,hold,Jk⟩ IH;by_cases hd:i<kids.length
   ·have hx:(UF kids)[i]? = some (Zo kids[i]):=by rw[TU,aaa hd];rfl
    have hw:=ZI hd J;have SE:=adm hd;have K_:ZL (kids.take (i+1))=ZL (kids.take i)++VE kids[i]:=by
     rw[ap7 hd,UM];simp[ZL]
    have aeI:ZL kids=ZL (kids.take i)++(VE kids[i]++ZL (kids.drop (i+1))):=by
     conv=>lhs;rw[<-List.take_append_drop i kids,UM,aea hd,ZL]
    have HY:(ZL (kids.take i)).length+((VE kids[i]).length+(ZL (kids.drop (i+1))).length)=(ZL kids).length:=by rw[aeI];simp
    have hQ:∀y z j,j<s.next->((s.new y).put s.next z).get j=s.get j:=λy z j hj=>by rw[Z7,O3 J,Z5,O3 J]
    obtain⟨s',e1,e2,e3,e4,e5⟩:=ih kids[i] SE (hkw _ SE) (k+(ZL (kids.take i)).length) ((s.new (.cells [.str [],.int .i64 0,.int .i64 0,.int .i64 0,.int .i64 0,.str [],.ZQ] 78 false 0 0)).put s.next (.cells kids[i].cells 78 false 0 0))
     ((fr.new _).put O0 _) O0 O0 O0
     (by rw[hQ _ _ _ J];exact Jk) (by rw[hQ _ _ _ J,hold _ hq0 (λe=>ja e.symm)];exact hq) (by rw[hQ _ _ _ J,hold _ BW (λe=>a8 e.symm)];exact hb) J
    rw[ZH] at hx e1;simp only[Z0.cells] at hx e1;rw[Yz (WK hd)] at Ny;simp only[go_sem,zC,g1,g5,g6,Ny,g17,qI,Z9,hd,hx,ZV,adh,e1,hw];rw[Z_,Z'] at e4;rw[aea hd,oZ,List.drop_drop] at hj;refine IH (i+1) _ _ J ⟨J,⟨sm||jd kids[i] (H.drop (k+(ZL (kids.take i)).length)),al&&jd kids[i] (H.drop (k+(ZL (kids.take i)).length)),?_,?_,?_⟩,?_,?_,?_,?_,?_,e5,J,?_,?_,?_⟩
    case refine_1 =>
     rw[K_,ann,<-ap2];exact hj
    case refine_9=>rw[e3 _ O0 J,hQ _ _ _ J,hs]
    case refine_10=>exact λj hj hjp=>by rw[e3 _ O0 hjp,hQ _ _ _ J,hold j hj hjp]
    case refine_11=>rw[K_,ann,<-ap2];exact e2
    all_goals simp only[go_sem,g1,g2,Ny,g17,Yz (WK hd)]
    all_goals first|(cases sm <;> rfl)|(cases al <;> rfl)|skip
   ·have:i=kids.length:=J;subst this;rw[aqi,oZ] at hj;rw[aqN] at Jk;rw[<-hj];obtain⟨h0,h1,h2,h3,h4,h5,h6,h7,h8,h9,h10,h11,h12,h13,h14⟩:=Qn kind;have Ow:=Qk kind aaj;rw[DW] at Ow;have eW:∀v,v=(match Zs kind with|.Jl=>!sm|.Gi=>sm|_=>al)->agB p s0 (match Zs kind with|.Jl=>!(sm,al).1|.Gi=>(sm,al).1|_=>(sm,al).2) (k+(ZL kids).length) (some (.bool v,s)):=λv hv =>
     ⟨s,by rw[hv],Jk,hold,J,fr⟩
    generalize Zs kind=dd at *
    cases dd <;> first|(simp[Kd.leaf] at Ow;done)|skip
    all_goals simp only[reduceCtorEq,decide_true,decide_false] at h12 h14
    all_goals simp only[go_sem,zC,g2,g5,g6,g17,qI,hs,Z9,ap5,h12,h14]
    all_goals first|exact eW _ rfl|(exfalso;simp[Kd.known] at aaj)
  ·refine⟨apW _,⟨false,true,?_,?_,?_⟩,?_,?_,?_,?_,?_,Qs.new _,O0,?_,?_,?_⟩
   case refine_1=>rw[aqy,List.take_zero,ZL];rfl
   case refine_10=>exact λj hj hjp=>by rw[Z5,O3 J]
   case refine_11=>rw[Z5,O3 J,List.take_zero,ZL];exact hp
   all_goals simp only[go_sem]
   all_goals rfl
end Go.Am
namespace Go.Am
open Go
variable [Z8]
def mK {base i a:Nat}{e:Env}{s:St}{n:Nat}(h:e.get a=.int .i64 (n:Int))(hn:n<=2^20) :
  Ws U base (some i) e s (.raw (.makeSlice 48 (.tmp a) (.tmp a)))=some (.sl (base+i) 0 n (some n) 1,s.put (base+i) (.cells (ints (List.replicate n 0)) 3 false 0 0)):=by
 have h40:U.Zd 48=some (.slice 3):=It;have hz:zero U 3=some (.int .i64 0):=It;have hi:(U.inf 3).map (λi=>(i.bytes,i.size))=some (8,1):=It;have e1:ints (List.replicate n 0)=List.replicate n (.int .i64 0):=by simp[ints]
 cases hj:U.inf 3 with
 |none=>rw[hj] at hi;cases hi
 |some j =>
  rw[hj] at hi;simp only[aqG,Option.some.injEq,Prod.mk.injEq] at hi;obtain⟨h1,h2⟩:=hi;rw[e1,<-T5];simp only[Ws,mJ,Yn,eval,h,h40,hj,hz];rw[Of ⟨J,J,by rw[h1];omega,J,by rw[h2];rfl,J⟩,h2];rfl
def mI {base i a:Nat}{e:Env}{s:St}{n:Nat}(h:e.get a=.int .i64 (n:Int))(hn:n<=2^20) :
  Ws U base (some i) e s (.raw (.makeSlice 72 (.tmp a) (.tmp a)))=some (.sl (base+i) 0 n (some n) 1,s.put (base+i) (.cells (Zt (List.replicate n false)) 4 false 0 0)):=by
 have h40:U.Zd 72=some (.slice 4):=It;have hz:zero U 4=some (.bool false):=It;have hi:(U.inf 4).map (λi=>(i.bytes,i.size))=some (1,1):=It;have e1:Zt (List.replicate n false)=List.replicate n (.bool false):=by simp[Zt]
 cases hj:U.inf 4 with
 |none=>rw[hj] at hi;cases hi
 |some j =>
  rw[hj] at hi;simp only[aqG,Option.some.injEq,Prod.mk.injEq] at hi;obtain⟨h1,h2⟩:=hi;rw[e1,<-T5];simp only[Ws,mJ,Yn,eval,h,h40,hj,hz];rw[Of ⟨J,J,by rw[h1];omega,J,by rw[h2];rfl,J⟩,h2];rfl
def ints_set (l:List Int)(i:Nat)(x:Int):(ints l).set i (.int .i64 x)=ints (l.set i x):=by rw[ints,ints,List.map_set]
def mH (l:List Bool)(i:Nat)(x:Bool):(Zt l).set i (.bool x)=Zt (l.set i x):=by rw[Zt,Zt,List.map_set]
def Ve (now last:Int)(first:Bool)(c:Z0)(st:Int):Int×Bool:=stP (Zs c.kind) c st now last first
def XS (now last:Int)(first:Bool):List Z0->List Int->List Int
 |c::l,st::YI=>(Ve now last first c st).1::XS now last first l YI
 |_,_=>[]
def XZ (now last:Int)(first:Bool):List Z0->List Int->List Bool
 |c::l,st::YI=>(Ve now last first c st).2::XZ now last first l YI
 |_,_=>[]
def MO (now last:Int)(first:Bool):∀(l:List Z0) (YI:List Int),YI.length=l.length->(XS now last first l YI).length=l.length
 |[],[],_=>rfl
 |c::l,st::YI,h=>by rw[XS,ap1,MO now last first l YI (by simpa using h)];rfl
def PI (now last:Int)(first:Bool):∀(l:List Z0) (YI:List Int),YI.length=l.length->(XZ now last first l YI).length=l.length
 |[],[],_=>rfl
 |c::l,st::YI,h=>by rw[XZ,ap1,PI now last first l YI (by simpa using h)];rfl
def BB (now last:Int)(first:Bool):∀(l:List Z0) (YI:List Int) (i:Nat) (h1:i<l.length) (h2:i<YI.length) (h3:i<(XS now last first l YI).length),(XS now last first l YI)[i]=(Ve now last first l[i] YI[i]).1
 |c::l,st::YI,0,_,_,_=>rfl
 |c::l,st::YI,i+1,h1,h2,h3=>by
  simp only[XS,List.getElem_cons_succ];exact BB now last first l YI i (by simpa using h1) (by simpa using h2) _
def BA (now last:Int)(first:Bool):∀(l:List Z0) (YI:List Int) (i:Nat) (h1:i<l.length) (h2:i<YI.length) (h3:i<(XZ now last first l YI).length),(XZ now last first l YI)[i]=(Ve now last first l[i] YI[i]).2
 |c::l,st::YI,0,_,_,_=>rfl
 |c::l,st::YI,i+1,h1,h2,h3=>by
  simp only[XZ,List.getElem_cons_succ];exact BA now last first l YI i (by simpa using h1) (by simpa using h2) _
def outs:List Z0->List Bool->List Bool
 |[],_=>[]
 |c::l,hs=>jd c hs::outs l (hs.drop (VE c).length)
section
variable (C L:List Z0)(YI:List Int)(now last:Int)(first:Bool)
structure F93 (n i:Nat)(N:List Int)(B:List Bool)(e:Env)(s:St):Prop where
 t1:e.get 1=.fz (ints YI)
 t3:e.get 3=.ptr 8 0
 t5:e.get 5=.ptr 9 0
 t8:e.get 8=.sl 12 0 n (some n) 1
 t9:e.get 9=.ptr 16 0
 fr:Fr s
 nx:19<=s.next
 g8:s.get 8=some (.cells [.fz (C.map Zo),.fz (L.map Zo),.fz (L.map Xg)] 128 false 0 0)
 g9:s.get 9=some (.cells [.int .i64 now,.int .i64 last,.bool first] 137 false 0 0)
 Jj:s.get 12=some (.cells (ints (part N 0 n i)) 3 false 0 0)
 wZ:s.get 15=some (.cells (Zt (part B false n i)) 4 false 0 0)
 Ny:s.get 16=some (.cells [.sl 15 0 n (some n) 1] 72 false 0 0)
def amE {β:Type}{fin:Fl->β}{ks:List K}{ZC:β->Prop}(hL:∀c∈L,c.wf/\(Zs c.kind).leaf=true)(hs:∀x∈YI,0<=x/\x<=256)(hlen:YI.length=L.length)(hL2:L.length<=2^20)(hn:Fg now)(hl:Fg last)
  (hk:∀e s,F93 C L YI now last first L.length L.length (XS now last first L YI) (XZ now last first L YI) e s->ZC (goN U fin ks e s)){e:Env}{s:St}
  (hI:F93 C L YI now last first L.length 0 (XS now last first L YI) (XZ now last first L YI) e s)(h23:e.get 23=.fz (L.map Zo))(h24:e.get 24=.int .i64 L.length)(h25:e.get 25=.int .i64 (0:Nat)) :
  ZC (SJ U fin (.bk 0::ks) zL e s):=by
 have lN:=MO now last first L YI hlen
 have lB:=PI now last first L YI hlen
 refine YT (σ:=Nat) (λi=>L.length-i) (λi e s=>i<=L.length/\F93 C L YI now last first L.length i (XS now last first L YI) (XZ now last first L YI) e s/\e.get 23=.fz (L.map Zo)/\e.get 24=.int .i64 L.length/\e.get 25=.int .i64 (i:Nat)) 0 ?_ ⟨apW _,hI,h23,h24,h25⟩;clear hI h23 h24 h25 e s;rintro Lp i e s ⟨hi,hF,h23,h24,h25⟩ IH;by_cases hd:i<L.length
 ·obtain⟨t1,t3,t5,t8,t9,fr,nx,g8,g9,Jj,wZ,Ny⟩:=hF;have hx:(L.map Zo)[i]? = some (Zo L[i]):=by rw[aqc,aaa hd];rfl
  have hxs:(L.map Xg)[i]? = some (Xg L[i]):=by rw[aqc,aaa hd];rfl
  have mL:i<YI.length:=J;have hxt:(ints YI)[i]? = some (.int .i64 YI[i]):=by rw[Ru,aaa mL];rfl
  have Ql:=ZI hd J;have SE:=adm hd;obtain⟨w1,w2⟩:=hL _ SE;have W_:∀s,Kx U (Xg L[i]) [Zo L[i],.int .i64 YI[i],X4 now last first] s=some (.XQ [.int .i64 (Ve now last first L[i] YI[i]).1,.bool (Ve now last first L[i] YI[i]).2],s) :=
   λs=>jM L[i] w1.Lc YI[i] now last first hn hl (hs _ (adm mL)) _ w2 s
  rw[<-BB now last first L YI i hd mL J,<-BA now last first L YI i hd mL J] at W_;have hy1:lay i [.int .i64 ((XS now last first L YI)[i]'J)] (ints (part (XS now last first L YI) 0 L.length i))=some (ints (part (XS now last first L YI) 0 L.length (i+1))):=by
   rw[Kt _ _ _ (by rw[YB,w8 _ _ lN hi];exact hd),ints_set,w7 _ _ lN hd]
  have hy2:lay i [.bool ((XZ now last first L YI)[i]'J)] (Zt (part (XZ now last first L YI) false L.length i))=some (Zt (part (XZ now last first L YI) false L.length (i+1))):=by
   rw[Kt _ _ _ (by rw[WE,w8 _ _ lB hi];exact hd),mH,w7 _ _ lB hd]
  rw[X4] at W_;rw[ZH] at hx W_;simp only[Z0.cells] at hx W_;generalize (XS now last first L YI)[i]'J=vN at *;generalize (XZ now last first L YI)[i]'J=vB at *;have ne:∀k,k<19->(s.next=k)=False:=λk hk=>F_
  have ne':∀j k,k<19->(s.next+j=k)=False:=λj k hk=>F_
  simp only[go_sem,zL,t1,t3,t5,t8,t9,g8,g9,Jj,wZ,Ny,h23,h24,h25,Z9,hd,hx,hxs,hxt,ZV,HD,TT ajy,ne,W_,hy1,hy2,Ql,ap3,ap4];have ZB:∀k,k<19->¬s.next=k:=λk hk=>J
  refine IH (i+1) _ _ J ⟨J,⟨?_,?_,?_,?_,?_,?_,?_,?_,?_,?_,?_,?_⟩,?_,?_,?_⟩
  case refine_6 =>
   repeat first|exact fr|apply Fr.new|apply Fr.put|apply Fr.upto
   all_goals simp only[Z_,Z',Z6]
   all_goals omega
  case refine_7=>simp only[Z_,Z6];omega
  all_goals simp only[go_sem,t1,t3,t5,t8,t9,h23,h24,g8,g9,Ny,Nat.reduceEqDiff,ZB,Nat.reduceLT]
 ·have:i=L.length:=J;subst this;simp only[go_sem,zL,h24,h25,Z9,ap5];obtain⟨t1,t3,t5,t8,t9,fr,nx,g8,g9,Jj,wZ,Ny⟩:=hF;refine hk _ _ ⟨?_,?_,?_,?_,?_,fr,nx,g8,g9,Jj,wZ,Ny⟩
  all_goals simp only[go_sem,t1,t3,t5,t8,t9]
end
end Go.Am
namespace Go.Am
open Go
variable [Z8]
section
variable (C:List Z0)(N:List Int)(B:List Bool)
def amC {β:Type}{fin:Fl->β}{ks:List K}{ZC:β->Prop}(p:Nat)(hp:19<=p)(hC:∀c∈C,c.wf)(hC2:C.length<=2^20)(hB:B.length=(ZL C).length)(hB2:B.length<=2^20)
  (hk:∀e s v,e.get 8=.sl 12 0 B.length (some B.length) 1->e.get 13=v->ZD s (p+1) 4 1 (outs C B).length (Zt (outs C B)) v->s.get 12=some (.cells (ints N) 3 false 0 0)->ZC (goN U fin ks e s)){e:Env}{s:St}
  (h8:e.get 8=.sl 12 0 B.length (some B.length) 1)(h9:e.get 9=.ptr 16 0)(h12:e.get 12=.ptr p 0)(h13:e.get 13=.ZQ)(h53:e.get 53=.fz (C.map Zo))(h54:e.get 54=.int .i64 C.length)(h55:e.get 55=.int .i64 (0:Nat))
  (fr:Fr s)(nx:p<s.next)(gp:s.get p=some (.cells [.int .i64 (-1)] 3 false 0 0))(Jj:s.get 12=some (.cells (ints N) 3 false 0 0))(wZ:s.get 15=some (.cells (Zt B) 4 false 0 0))(Ny:s.get 16=some (.cells [.sl 15 0 B.length (some B.length) 1] 72 false 0 0)) :
  ZC (SJ U fin (.bk 2::ks) Aa e s):=by
 refine YT (σ:=Nat) (λi=>C.length-i) (λi e s=>i<=C.length/\e.get 8=.sl 12 0 B.length (some B.length) 1/\e.get 9=.ptr 16 0/\e.get 12=.ptr p 0/\e.get 53=.fz (C.map Zo)/\e.get 54=.int .i64 C.length/\e.get 55=.int .i64 (i:Nat) /\
  Fr s/\p<s.next/\s.get p=some (.cells [.int .i64 (((ZL (C.take i)).length:Int)-1)] 3 false 0 0)/\s.get 12=some (.cells (ints N) 3 false 0 0)/\s.get 15=some (.cells (Zt B) 4 false 0 0)/\s.get 16=some (.cells [.sl 15 0 B.length (some B.length) 1] 72 false 0 0) /\
  ∃v acc,e.get 13=v/\acc.length=i/\ZD s (p+1) 4 1 i (Zt acc) v/\acc++outs (C.drop i) (B.drop (ZL (C.take i)).length)=outs C B) 0 ?_
  ⟨apW _,h8,h9,h12,h53,h54,h55,fr,nx,by rw[List.take_zero,ZL,gp];rfl,Jj,wZ,Ny,.ZQ,[],h13,rfl,ZD.nil _ _ _ _,by rw[List.take_zero,ZL];rfl⟩
 clear h8 h9 h12 h13 h53 h54 h55 fr nx gp Jj wZ Ny e s;rintro Lp i e s ⟨hi,h8,h9,h12,h53,h54,h55,fr,nx,gp,Jj,wZ,Ny,v,acc,h13,Ho,hv,ho⟩ IH;by_cases hd:i<C.length
 ·have hx:(C.map Zo)[i]? = some (Zo C[i]):=by rw[aqc,aaa hd];rfl
  have hw:=ZI hd J;have SE:=adm hd;have K_:ZL (C.take (i+1))=ZL (C.take i)++VE C[i]:=by
   rw[ap7 hd,UM];simp[ZL]
  have aeI:ZL C=ZL (C.take i)++(VE C[i]++ZL (C.drop (i+1))):=by
   conv=>lhs;rw[<-List.take_append_drop i C,UM,aea hd,ZL]
  have HY:(ZL (C.take i)).length+((VE C[i]).length+(ZL (C.drop (i+1))).length)=(ZL C).length:=by rw[aeI];simp
  have hQ:∀y z j,j<s.next->((s.new y).put s.next z).get j=s.get j:=λy z j hj=>by rw[Z7,O3 J,Z5,O3 J]
  obtain⟨s',e1,e2,e3,e4,e5⟩:=amD p 16 15 B.length (some B.length) B J J rfl J C[i] (hC _ SE) (ZL (C.take i)).length ((s.new (.cells [.str [],.int .i64 0,.int .i64 0,.int .i64 0,.int .i64 0,.str [],.ZQ] 78 false 0 0)).put s.next (.cells C[i].cells 78 false 0 0))
   ((fr.new _).put O0 _) O0 O0 O0
   (by rw[hQ _ _ _ J];exact gp) (by rw[hQ _ _ _ J];exact Ny) (by rw[hQ _ _ _ J];exact wZ) J
  rw[Z_,Z'] at e3 e4;rw[ZH] at hx e1;simp only[Z0.cells] at hx e1;have Oi:=hv.WV;have Pq:=hv.Zu;have TV:(i+1)*1<=1099511627776:=J;have U5:i+1<=1099511627776:=J;simp only[go_sem,Aa,h9,h12,h13,h53,h54,h55,Z9,hd,hx,ZV,adh,e1,Zx,Nat.reducePow,aqP,Oi,TV,U5];generalize hjv:jd C[i] (B.drop (ZL (C.take i)).length)=jv at *;have D0:ZD (s'.new (.cells [.bool jv] 4 false 0 0)) (p+1) 4 1 i (Zt acc) v:=hv.mono O0 λj hj Dq=>by
   rw[Z5,O3 J,e3 j J J,hQ _ _ _ Dq]
  obtain⟨s1,f1,f2,f3,f4,f5⟩:=D0.FA O0 (m:=1) (new:=[.bool jv]) J rfl rfl;rw[Z'] at f1 f2 f3 f4;rw[f1];have low:∀j,j<p+1->s1.get j=s'.get j:=λj hj=>by rw[f4 j J (D0.xQ (.inr hj)),Z5,O3 J]
  simp only[go_sem,h55,hw];rw[aea hd,outs,hjv,List.drop_drop] at ho;refine IH (i+1) _ _ J ⟨J,?_,?_,?_,?_,?_,?_,f5 (e5.new _),by rw[f2];omega,?_,?_,?_,?_,.sl (s'.next+1) 0 (i+1) none 1,acc++[jv],?_,?_,?_,?_⟩
  case refine_7=>rw[low p J,e2,K_,ann]
  case refine_8=>rw[low 12 J,e3 _ J J,hQ _ _ _ J,Jj]
  case refine_9=>rw[low 15 J,e3 _ J J,hQ _ _ _ J,wZ]
  case refine_10=>rw[low 16 J,e3 _ J J,hQ _ _ _ J,Ny]
  case refine_12=>rw[ann,Ho];rfl
  case refine_13=>rw[Zt,aqf];exact f3
  case refine_14=>rw[K_,ann,aqs];exact ho
  all_goals simp only[go_sem,h8,h9,h12,h53,h54]
 ·have:i=C.length:=J;subst this;rw[aqi,outs,aqw] at ho;rw[<-ho] at hk;simp only[go_sem,Aa,h54,h55,Z9,ap5];refine hk _ _ v ?_ ?_ (by rw[Ho];exact hv) Jj
  all_goals simp only[go_sem,h8,h13]
end
def Fu:∀(C:List Z0) (B:List Bool),(outs C B).length=C.length
 |[],_=>rfl
 |c::l,B=>by rw[outs,ap1,Fu l,ap1]
def P93 (N:List Int)(O:List Bool)(r:Option (AV×St)):Prop:=∃s' v B,r=some (.XQ [.sl 12 0 N.length (some N.length) 1,v],s')/\s'.get 12=some (.cells (ints N) 3 false 0 0)/\ZD s' B 4 1 O.length (Zt O) v
def g93 (C:List Z0)(YI:List Int)(now last:Int)(first:Bool)(hC:∀c∈C,c.wf)(hC2:C.length<=2^20)(hs:∀x∈YI,0<=x/\x<=256)(hlen:YI.length=(ZL C).length)(hL2:(ZL C).length<=2^20)(hn:Fg now)(hl:Fg last) :
  P93 (XS now last first (ZL C) YI) (outs C (XZ now last first (ZL C) YI)) (go U (Us U [.tmp 6,.tmp 7]) [] r93 (Zr 0 [.agg [.fz (C.map Zo),.fz ((ZL C).map Zo),.fz ((ZL C).map Xg)],.fz (ints YI),X4 now last first] .nil) (Ym U)):=by
 have lN:=MO now last first (ZL C) YI hlen
 have lB:=PI now last first (ZL C) YI hlen
 have hLw:∀c∈ZL C,c.wf/\(Zs c.kind).leaf=true:=λc hc=>by
  obtain⟨x,h1,h2⟩:=NR hc;exact NQ x (hC x h1) c h2
 rw[X4];have m1:=λ(e:Env) (s:St) (h:e.get 17=.int .i64 ((ZL C).length:Int))=>@mK _ 10 2 17 e s _ h hL2
 have m2:=λ(e:Env) (s:St) (h:e.get 20=.int .i64 ((ZL C).length:Int))=>@mI _ 10 5 20 e s _ h hL2
 simp only[go_sem,r93,TT ail,YB,hlen,m1,m2,ala];refine amE C (ZL C) YI now last first (ZC:=P93 (XS now last first (ZL C) YI) (outs C (XZ now last first (ZL C) YI))) hLw hs hlen hL2 hn hl ?_ ⟨?_,?_,?_,?_,?_,?_,?_,?_,?_,?_,?_,?_⟩ ?_ ?_ ?_
 case refine_1 =>
  rintro e s ⟨t1,t3,t5,t8,t9,fr,nx,g8,g9,Jj,wZ,Ny⟩;rw[B3 _ _ lN] at Jj;rw[B3 _ _ lB] at wZ;have ne:∀k,k<19->(s.next=k)=False:=λk hk=>F_
  rw[<-lB] at t8 Ny;simp only[go_sem,t3,g8,ne,Nat.reduceLT,ala];refine amC C (XS now last first (ZL C) YI) (XZ now last first (ZL C) YI) (ZC:=P93 (XS now last first (ZL C) YI) (outs C (XZ now last first (ZL C) YI))) s.next nx hC hC2 lB J ?_ ?_ ?_ ?_ ?_ ?_ ?_ ?_ ?_ ?_ ?_ ?_ ?_ ?_
  case refine_1 =>
   intro e' s' v q8 La hv uy;have el:(XZ now last first (ZL C) YI).length=(XS now last first (ZL C) YI).length:=by rw[lB,lN]
   rw[el] at q8;simp only[go_sem,q8,La];exact⟨s',v,_,rfl,uy,hv⟩
  case refine_9 =>
   repeat first|exact fr|apply Fr.new|apply Fr.put|apply Fr.upto
   all_goals simp only[Z']
   all_goals omega
  case refine_10=>simp only[Z_,Z'];omega
  all_goals simp only[go_sem,t8,t9,Jj,wZ,Ny,ne,Nat.reduceLT]
  all_goals rfl
 case refine_7 =>
  repeat first|exact Fr.own|apply Fr.new|apply Fr.put|apply Fr.upto
  all_goals simp only[go_sem]
 all_goals simp only[go_sem,lI]
 all_goals rfl
end Go.Am
namespace Go.Am
open Go
variable [Z8]
variable {s:St}
def oX {b d n:Nat}{cap:Option Nat}{t:TypeId}{l:List AV}(hn:n=l.length)(hg:s.get b=some (.cells l t false 0 0))(Dl:Ys U t=some false)(Vt:size U t=some 1)(Pq:l.all Zu=true)(hf:YS (Xe U s d) l=some l) :
  Xe U s (d+1) (.sl b 0 n cap 1)=some (.fz l):=by
 subst hn;simp only[Xe,hg,ap3,VA,Dl,Vt];rw[Of ⟨trivial,J,λ_=>⟨trivial,Pq⟩⟩,UK,hf]
def lK (s:St)(d:Nat)(l:List Int):YS (Xe U s (d+1)) (ints l)=some (ints l):=U' λx hx=>by
 obtain⟨b,_,rfl⟩:=ap0.1 hx;rfl
def Ls (s:St)(d:Nat)(l:List Bool):YS (Xe U s (d+1)) (Zt l)=some (Zt l):=U' λx hx=>by
 obtain⟨b,_,rfl⟩:=ap0.1 hx;rfl
def ZD.Ls {B:Nat}{l:List Bool}{v:AV}(h:ZD s B 4 1 l.length (Zt l) v)(d:Nat):Xe U s (d+2) v=some (ZU true (Zt l)):=by
 rcases h with⟨h0,rfl,_⟩|⟨h0,h1,b,_,_,rfl,hg⟩
 ·have:l=[]:=aqo.1 h0;subst this;rfl
 ·rw[oX (WE l).symm hg m9 m8 (S4 l) (Go.Am.Ls s d l)]
  cases l with
  |nil=>simp at h0
  |cons x l=>rfl
def B5 {d:Nat}{a b a' b':AV}(h1:Xe U s d a=some a')(h2:Xe U s d b=some b'):Xe U s (d+1) (.XQ [a,b])=some (.XQ [a',b']):=by
 have e:YS (Xe U s d) [a,b]=some [a',b']:=by
  rw[YS,h1,YS,h2,YS]
 rw[Xe,e]
def ahG (C:List Z0)(YI:List Int)(now last:Int)(first:Bool)(hC:∀c∈C,c.wf)(hC2:C.length<=2^20)(hs:∀x∈YI,0<=x/\x<=256)(hlen:YI.length=(ZL C).length)(hL2:(ZL C).length<=2^20)(hn:Fg now)(hl:Fg last)(s:St) :
  UX U 69 (some [.agg [.fz (C.map Zo),.fz ((ZL C).map Zo),.fz ((ZL C).map Xg)],.fz (ints YI),X4 now last first]) s =
   some (.XQ [.fz (ints (XS now last first (ZL C) YI)),ZU true (Zt (outs C (XZ now last first (ZL C) YI)))],s):=by
 refine XM U s ?_;obtain⟨s',v,B,h1,h2,h3⟩:=g93 C YI now last first hC hC2 hs hlen hL2 hn hl
 obtain⟨fn,c,f1,f2,f3,f4⟩:=PG k93;have hB:=NA U f1 f2 f3 f4 h1;unfold X7;rw[hB];have Mw:flat (.XQ [.sl 12 0 (XS now last first (ZL C) YI).length (some (XS now last first (ZL C) YI).length) 1,v])=false:=rfl;have e1:=oX (d:=38) (cap:=some (XS now last first (ZL C) YI).length) (YB _).symm h2 AW AU (UR _) (lK _ _ _);have e2:=h3.Ls 37;have e3:=B5 e1 e2;have hd:Ui=38+1+1:=rfl;simp only[aqa,if_false,Mw];rw[hd];exact e3
def r4:RC:=(sO [YL 4 106 1,Zf 6] (sQ (sO [Od 10 8,WU 11 10,om 12 11,S6 13 12 7 4,KR 14 12 72 13 12,US 15 12 14,YO 16 12 15,om 17 16,XI 18 17 2,KR 19 17 22 18 60,US 20 17 19,YO 21 17 20] (cT 21 (sO [Od 22 8,om 6 22] .ret))) (sO [om 24 0,Zw 25 7 4,Zk 26 82 25,om 27 2,Og 28 39 24 26 27,om 23 28,YN 29 23 0,YN 30 23 1,om 7 29,om 8 30] (sQ (.Uu 8 [om 31 0,Zk 32 73 31,om 33 0,Zw 34 7 4,o 35 (.call 74 [(.t 33),(.t 34),(vI 1)]),⟨some 36,none,some 5,false,.Uc 3 1 2 [(iI 0),(iI 0)] [(0,1,(.t 32)),(1,1,(.t 35))]⟩,Zk 37 25 36,om 9 37]) (sQ (sO [om 38 9,Wq 39 3 38 0] (cT 39 (oP [om 40 0,om 41 2,YU 42 31 40 41,om 9 42]))) (sQ (sO [om 43 9,Vp 44 3 43 0] (cT 44 (sO [om 45 7,Za 46 45,Wq 47 3 46 0,om 48 47,YV 49 48 8,YV 50 48 9,KU 51 48 3 49 50,YP 52 48 51,om 6 52] .ret))) (sO [om 53 8,Wq 54 26 53 0,om 55 54,YV 56 55 7,Wg 57 55 7 4,YV 58 55 2,Tt 59 55 30 57 58,Tt 60 55 44 56 59,YP 61 55 60,om 6 61] .ret)))))))
def mC (s:St)(d:Nat)(c:Z0):Ya U s (d+3) (Xg c)=some (Xg c):=by
 unfold Xg
 cases Zs c.kind <;> rfl
def Cn (s:St)(d:Nat)(l:List Z0):YS (Ya U s (d+3)) (l.map Xg)=some (l.map Xg):=U' λx hx=>by
 obtain⟨c,_,rfl⟩:=ap0.1 hx;exact mC s d c
def z93 {args:List AV}(h:ZT args=false):Yx U (ZE U 69 args) 69 args s=UX U 69 (YS (Ya U s 40) args) s:=LR It s h
def ahk (args:List AV)(s:St):Yx U (ZE U 67 args) 67 args s=UN U 67 args s:=(YJ U 67 args s).symm
def fT:Ys U 218=some false:=It
def fS:size U 218=some 1:=It
def aee {c:Z0}(hc:c.Lc){st now last:Int}{first:Bool}(hs:0<=st/\st<=256)(d:Kd):0<=(stP d c st now last first).1/\(stP d c st now last first).1<=256:=by
 have h1:=hc.mi;have h2:=hc.ma
 cases d <;> simp only[stP,Hg,NT,RH,N7]
 case UB=>cases !(Xf now c.a==true) <;> cases first <;> cases !(Xf last c.a==true) <;> simp only[cond_true,cond_false] <;> omega
 case gap=>cases !(Xf now c.a==false) <;> cases first <;> cases !(Xf last c.a==false) <;> simp only[cond_true,cond_false] <;> omega
 case idle=>cases (first||Xf now c.a != Xf last c.a) <;> simp only[cond_true,cond_false] <;> omega
 case setup=>cases (Xf now c.a != Xf last c.a) <;> simp only[cond_true,cond_false] <;> omega
 case TC=>cases !Xf now c.a <;> cases (!first&&!Xf now c.b&&(!Xf last c.a||st==2)) <;> simp only[cond_true,cond_false] <;> omega
 all_goals exact hs
def yh {now last:Int}{first:Bool}:∀{l:List Z0} {YI:List Int},(∀c∈l,c.Lc)->(∀x∈YI,0<=x/\x<=256)->∀x∈XS now last first l YI,0<=x/\x<=256
 |[],_,_,_,x,hx=>by simp[XS] at hx
 |_::_,[],_,_,x,hx=>by simp[XS] at hx
 |c::l,st::YI,h1,h2,x,hx=>by
  rw[XS] at hx;rcases ap9.1 hx with rfl|hx
  ·exact aee (h1 c (aba ..)) (h2 st (aba ..)) _
  ·exact yh (λc hc=>h1 c (aab _ hc)) (λy hy=>h2 y (aab _ hy)) x hx
def mB {c:Z0}(hc:c.Lc):0<=Xm c/\Xm c<=256:=by
 have:=hc.mi;unfold Xm
 cases Zs c.kind <;> simp only <;> omega
def VQ {A:Type}{f:A->AV}{l:List A}(h:l≠[]):ZU true (l.map f)=.fz (l.map f):=by
 cases l with
 |nil=>exact absurd rfl h
 |cons x l=>rfl
def eB {lines:Int}{l:List Int}(h1:lines<=16)(h:Sl lines l=0):pc l:=by
 unfold Sl at h;obtain⟨q1,h⟩:=Xq h Mo;have q2:Nz lines l=false:=by
  cases hb:Nz lines l with
  |false=>rfl
  |true=>rw[hb] at h;exact absurd h Mo
 have hp:=Rj lines h1;refine⟨by simp at q1;omega,λx hx=>?_⟩;have:=Tk (by simpa using List.any_eq_false.1 q2 x hx:outside x 0 (2^lines.toNat-1)=false);omega
def aS (f:Z0->Bool):∀(kids:List Z0),(∀x∈kids,∀rest,jd x ((VE x).map f++rest)=f x)->∀(rest:List Bool) (s a:Bool),oZ kids ((ZL kids).map f++rest) s a=(s||kids.any f,a&&kids.all f)
 |[],_,rest,s,a=>by simp[oZ]
 |c::l,h,rest,s,a=>by
  have h1:=h c (aba ..) ((ZL l).map f++rest);have e:(ZL (c::l)).map f++rest=(VE c).map f++((ZL l).map f++rest):=by rw[ZL,aqf,aqs]
  have hd:((VE c).map f++((ZL l).map f++rest)).drop (VE c).length=(ZL l).map f++rest:=by
   rw[<-ala (f:=f),aqT]
  rw[e,oZ,h1,hd,aS f l (λx hx=>h x (aab _ hx)),List.any_cons,List.all_cons,Bool.or_assoc,Bool.and_assoc]
def vg (l:List Int)(t:Nat):∀kids:List Z0,decide (((Mj l t kids:Nat):Int)>0)=kids.any (atR l t)
 |[]=>by simp[Mj]
 |c::k=>by
  have ih:=vg l t k;rw[Mj,List.any_cons,<-ih]
  cases atR l t c with
  |true=>simp;omega
  |false=>simp
def nU (l:List Int)(t:Nat):∀kids:List Z0,Mj l t kids<=kids.length
 |[]=>by simp[Mj]
 |c::k=>by
  have ih:=nU l t k;rw[Mj,ap1]
  cases atR l t c <;> simp <;> omega
def Eb (l:List Int)(t:Nat):∀kids:List Z0,(((Mj l t kids:Nat):Int)==((kids.length:Nat):Int))=kids.all (atR l t)
 |[]=>by simp[Mj]
 |c::k=>by
  have ih:=Eb l t k;have hle:=nU l t k;rw[Mj,List.all_cons,<-ih,ap1]
  cases atR l t c with
  |true =>
   simp only[cond_true,aqr];rw[aqI];simp;omega
  |false =>
   simp only[cond_false,aqK,ap4];simp;omega
def aj6 (l:List Int)(t:Nat):∀c:Z0,c.wf->∀rest,jd c ((VE c).map (atR l t)++rest)=atR l t c:=by
 intro c
 induction c using Z0.ind with
 |h k a b mi ma p nl kids ih =>
 intro h rest;have DW:=Ph h;have h':=h;rw[Z0.wf] at h';obtain⟨-,-,-,-,-,-,zu,adY,-,ZB,-,-,hk⟩:=h';have Ow:=Qk k zu;rw[jd,VE]
 cases hc:Xn k with
 |false =>
  simp only[cond_false,aqe,List.map_nil,aqk,List.headD_cons]
 |true =>
  have hL:=aS (atR l t) kids (λx hx=>ih x hx (hk x hx)) rest false true;simp only[cond_true];rw[hL,atR];rw[hc] at Ow DW;generalize Zs k=d at *
  cases d <;> first|(simp[Kd.leaf] at Ow;done)|(simp[Kd.known] at zu;done)|skip
  ·obtain⟨x,rfl⟩:=List.length_eq_one_iff.1 (adY rfl);simp[lg]
  ·simp only[reduceCtorEq,decide_false,aqK,Bool.or_false,aqr];rw[Eb]
  ·simp only[decide_true,aqr,aqE];rw[Eb,vg]
   cases Xx:kids.all (atR l t) with
   |false=>simp
   |true =>
    cases kids with
    |nil=>exact absurd rfl (ZB rfl)
    |cons x y =>
     rw[List.all_cons,ahe] at Xx;rw[List.any_cons,Xx.1];rfl
def N8 (l:List Int)(t:Nat):VU l ((t+1:Nat):Int)=XG l (t:Int):=by
 unfold VU;congr 1;omega
def F0 (l:List Int):VU l ((0:Nat):Int)=XG l ((0:Nat):Int):=by
 unfold VU;congr 1
def adz (n k:Int):(Xf n k==true)=(Zi n k==1)/\(Xf n k==false)=(Zi n k==0):=by
 unfold Xf;rcases KC n k with h|h <;> rw[h] <;> decide
def tJ (l:List Int)(a lev ma:Int)(t:Nat):Int :=
 bif Zi (XG l (t:Int)) a==lev then (if runN l a t=0 then ma+1 else min ((t:Int)+1-(runN l a t:Nat)) (ma+1)) else 0
def Va (lv:Bool):Int:=bif lv then 1 else 0
def Eg (lv:Bool)(n k:Int):(Xf n k==lv)=(Zi n k==Va lv):=by
 cases lv
 ·exact (adz n k).2
 ·exact (adz n k).1
def N6 (l:List Int)(a:Int)(t:Nat):runN l a (t+1)=if Zi (XG l (t:Int)) a=Zi (XG l ((t+1:Nat):Int)) a then runN l a t else t+1:=by
 rw[runN];by_cases h:Zi (XG l (t:Int)) a=Zi (XG l ((t+1:Nat):Int)) a
 ·rw[Of h,h];simp
 ·rw[O3 h];have:(Zi (XG l (t:Int)) a==Zi (XG l ((t+1:Nat):Int)) a)=false:=by simpa using h
  rw[this];rfl
def gD (l:List Int)(lv:Bool)(c:Z0)(hM:0<=c.ma)(st:Int):Hg lv c st (Xf (XG l ((0:Nat):Int)) c.a) (Xf (VU l ((0:Nat):Int)) c.a) true=(tJ l c.a (Va lv) c.ma 0,false):=by
 rw[F0];unfold Hg tJ;rw[Eg]
 cases Zi (XG l ((0:Nat):Int)) c.a==Va lv with
 |true=>simp[runN]
 |false=>simp
def gC (l:List Int)(lv:Bool)(c:Z0)(hM:0<=c.ma)(t:Nat):Hg lv c (tJ l c.a (Va lv) c.ma t) (Xf (XG l ((t+1:Nat):Int)) c.a) (Xf (VU l ((t+1:Nat):Int)) c.a) false =
  (tJ l c.a (Va lv) c.ma (t+1),QR l c.a (Va lv) (t+1)&&!outside (((t+1:Nat):Int)-(TN l c.a (Va lv) (t+1):Nat)) c.mi c.ma):=by
 rw[N8];unfold Hg;rw[Eg,Eg];have hr:=G7 l c.a t;have hz:(((t+1:Nat):Int)==0)=false:=F_;unfold QR TN FZ tJ;rw[hz,Nat.add_sub_cancel,aqE];have ZB:∀x y:Int,(x != y)=!(x==y):=λ_ _=>rfl
 rw[ZB];by_cases hn:Zi (XG l ((t+1:Nat):Int)) c.a=Va lv
 ·by_cases hw:Zi (XG l (t:Int)) c.a=Va lv
  ·have CJ:runN l c.a (t+1)=runN l c.a t:=by rw[N6,Of (hw.trans hn.symm)]
   rw[CJ];simp only[hn,hw,beq_self_eq_true,aqB,cond_false,cond_true,Bool.true_or,aqK]
   congr 1
   by_cases h0:runN l c.a t=0
   ·rw[Of h0,Of h0];omega
   ·rw[O3 h0,O3 h0];omega
  ·have Lb:(Zi (XG l (t:Int)) c.a==Va lv)=false:=by simpa using hw
   have CJ:runN l c.a (t+1)=t+1:=by rw[N6,O3 (λe=>hw (e.trans hn))]
   rw[CJ];simp only[hn,Lb,beq_self_eq_true,aqB,aqF,cond_false,cond_true,Bool.true_or,aqK]
   congr 1
   rw[O3 J];omega
 ·have uu:(Zi (XG l ((t+1:Nat):Int)) c.a==Va lv)=false:=by simpa using hn
  by_cases hw:Zi (XG l (t:Int)) c.a=Va lv
  ·simp only[uu,hw,beq_self_eq_true,aqB,aqF,cond_false,cond_true,aqE,aqr]
   congr 1
   unfold outside;by_cases h0:runN l c.a t=0
   ·rw[Of h0,h0];rw[aqI];simp;omega
   ·rw[O3 h0];rw[aqI];simp;omega
  ·have Lb:(Zi (XG l (t:Int)) c.a==Va lv)=false:=by simpa using hw
   simp only[uu,Lb,aqF,cond_true,cond_false,aqE,aqK]
def mR (l:List Int)(a mi:Int)(t:Nat):Int:=min ((t:Int)+1-(runN l a t:Nat)) (mi+1)
def ag5 (l:List Int)(c:Z0)(hm:0<=c.mi)(st:Int)(w:Bool):NT c st (Xf (XG l ((0:Nat):Int)) c.a) w true=(mR l c.a c.mi 0,(((0:Nat):Int)-(runN l c.a 0:Nat)+1==c.mi)):=by
 unfold NT mR;simp only[Bool.true_or,cond_true,runN]
 congr 1
 ·rw[aqI];simp;omega
def gF (n m k:Int):(Xf n k != Xf m k)=!(Zi m k==Zi n k):=by
 unfold Xf;rcases KC n k with h|h <;> rcases KC m k with h'|h' <;> rw[h,h'] <;> decide
def ag6 (l:List Int)(c:Z0)(hm:0<=c.mi)(t:Nat):NT c (mR l c.a c.mi t) (Xf (XG l ((t+1:Nat):Int)) c.a) (Xf (VU l ((t+1:Nat):Int)) c.a) false=(mR l c.a c.mi (t+1),(((t+1:Nat):Int)-(runN l c.a (t+1):Nat)+1==c.mi)):=by
 rw[N8];unfold NT;rw[gF,aqE];have hr:=G7 l c.a t;unfold mR;rw[N6];by_cases hb:Zi (XG l (t:Int)) c.a=Zi (XG l ((t+1:Nat):Int)) c.a
 ·rw[Of hb];simp only[hb,beq_self_eq_true,aqB,cond_false];refine Prod.ext (by simp only;omega) ?_;simp only;rw[aqI];simp;omega
 ·have SG:(Zi (XG l (t:Int)) c.a==Zi (XG l ((t+1:Nat):Int)) c.a)=false:=by simpa using hb
  rw[O3 hb];simp only[SG,aqF,cond_true];refine Prod.ext (by simp only;omega) ?_;simp only;rw[aqI];simp;omega
def jN (l:List Int)(a:Int)(u:Nat):Prop:=Zi (XG l (u:Int)) a≠Zi (XG l ((u-1:Nat):Int)) a
def oq (l:List Int)(a:Int):∀(n u:Nat) (p:Bool),chg l a u n p=true<->p=true\/∃v,u<=v/\v<u+n/\jN l a v
 |0,u,p=>by
  rw[chg]
  constructor
  ·exact .inl
  ·rintro (h|⟨v,h1,h2,_⟩)
   ·exact h
   ·omega
 |n+1,u,p=>by
  rw[chg,oq l a n (u+1)];have hc:(Zi (XG l (u:Int)) a != Zi (XG l ((u-1:Nat):Int)) a)=true<->jN l a u:=by unfold jN;simp
  rw[aq0,hc]
  constructor
  ·rintro ((h|h)|⟨v,h1,h2,h3⟩)
   ·exact .inl h
   ·exact .inr ⟨u,api _,J,h⟩
   ·exact .inr ⟨v,J,J,h3⟩
  ·rintro (h|⟨v,h1,h2,h3⟩)
   ·exact .inl (.inl h)
   ·by_cases e:v=u
    ·subst e;exact .inl (.inr h3)
    ·exact .inr ⟨v,J,J,h3⟩
def N9 (l:List Int)(a mi:Int):Nat->Int
 |0=>mi
 |t+1=>bif Zi (XG l (t:Int)) a==Zi (XG l ((t+1:Nat):Int)) a then min (N9 l a mi t+1) mi else 0
def vR (l:List Int)(a mi:Int)(hm:0<=mi):∀t,0<=N9 l a mi t
 |0=>hm
 |t+1=>by
  have:=vR l a mi hm t;rw[N9]
  cases Zi (XG l (t:Int)) a==Zi (XG l ((t+1:Nat):Int)) a <;> simp only[cond_true,cond_false] <;> omega
def oo (l:List Int)(a mi:Int)(hm:0<=mi):∀(t:Nat) (k:Int),0<=k->k<=mi->(N9 l a mi t<k<->∃v:Nat,1<=v/\(t:Int)-k+1<=v/\v<=t/\jN l a v)
 |0,k,h0,h1=>by
  rw[N9]
  constructor
  ·intro h;omega
  ·rintro⟨v,h2,h3,h4,_⟩;omega
 |t+1,k,h0,h1=>by
  have hp:=vR l a mi hm t;rw[N9];by_cases hb:Zi (XG l (t:Int)) a=Zi (XG l ((t+1:Nat):Int)) a
  ·have tV:(Zi (XG l (t:Int)) a==Zi (XG l ((t+1:Nat):Int)) a)=true:=by simpa using hb
   rw[tV,cond_true];by_cases hk:k=0
   ·subst hk
    constructor
    ·intro h;omega
    ·rintro⟨v,h2,h3,h4,_⟩;omega
   ·have ih:=oo l a mi hm t (k-1) J J
    constructor
    ·intro h;obtain⟨v,h2,h3,h4,h5⟩:=ih.1 J;exact⟨v,h2,J,J,h5⟩
    ·rintro⟨v,h2,h3,h4,h5⟩;have:v≠t+1:=λe=>by
      subst e;unfold jN at h5;rw[Nat.add_sub_cancel] at h5;exact h5 hb.symm
     have:=ih.2 ⟨v,h2,J,J,h5⟩;omega
  ·have tV:(Zi (XG l (t:Int)) a==Zi (XG l ((t+1:Nat):Int)) a)=false:=by simpa using hb
   rw[tV,cond_false]
   constructor
   ·intro h;refine⟨t+1,J,J,J,?_⟩;unfold jN;rw[Nat.add_sub_cancel];exact λe=>hb e.symm
   ·rintro⟨v,h2,h3,h4,_⟩;omega
def CB (l:List Int)(a mi:Int)(hm:0<=mi)(t:Nat):chg l a (U8 t mi) (t+1-U8 t mi) false=decide (N9 l a mi t<mi):=by
 rw[aqI,oq,decide_eq_true_iff,oo l a mi hm t mi hm J];have hs:1<=U8 t mi/\U8 t mi<=t+1/\(t:Int)-mi+1<=U8 t mi/\((U8 t mi:Int)=1\/(U8 t mi:Int)=(t:Int)-mi+1):=by unfold U8;omega
 constructor
 ·rintro (h|⟨v,h1,h2,h3⟩)
  ·cases h
  ·exact⟨v,J,J,J,h3⟩
 ·rintro⟨v,h1,h2,h3,h4⟩;exact .inr ⟨v,J,J,h4⟩
def AI (l:List Int)(b:Int):∀(n u:Nat) (p:Bool),low l b u n p=true<->p=true/\∀v,u<=v->v<u+n->Zi (XG l (v:Int)) b=0
 |0,u,p=>by
  rw[low];exact⟨λh=>⟨h,λv h1 h2=>J⟩,λh=>h.1⟩
 |n+1,u,p=>by
  rw[low]
  cases p with
  |false=>simp
  |true =>
   rw[cond_true,AI l b n (u+1)]
   constructor
   ·rintro⟨h1,h2⟩;refine⟨rfl,λv h3 h4=>?_⟩;by_cases e:v=u
    ·subst e;simpa using h1
    ·exact h2 v J J
   ·rintro⟨_,h2⟩;exact⟨by simpa using h2 u (api _) J,λv h3 h4=>h2 v J J⟩
def mT (l:List Int)(a b:Int)(t:Nat):Int :=
 bif Zi (XG l (t:Int)) a==1 then (bif decide (0<runN l a t)&&low l b (runN l a t) (t+1-runN l a t) true then 2 else 1) else 0
def Pc (n k:Int):Xf n k=(Zi n k==1):=rfl
def Pa (n k:Int):(!Xf n k)=(Zi n k==0):=by
 unfold Xf;rcases KC n k with h|h <;> rw[h] <;> decide
def adZ (l:List Int)(c:Z0)(hm:0<=c.mi)(hb wb:Bool):RH c c.mi (Xf (XG l ((0:Nat):Int)) c.a) (Xf (VU l ((0:Nat):Int)) c.a) hb wb=(N9 l c.a c.mi 0,hb&&!wb&&decide (N9 l c.a c.mi 0<c.mi)):=by
 rw[F0];unfold RH;rw[gF];simp only[beq_self_eq_true,aqB,cond_false,N9];rw[show min (c.mi+1) c.mi=c.mi by omega]
 all_goals rfl
def ad0 (l:List Int)(c:Z0)(hm:0<=c.mi)(t:Nat)(hb wb:Bool):RH c (N9 l c.a c.mi t) (Xf (XG l ((t+1:Nat):Int)) c.a) (Xf (VU l ((t+1:Nat):Int)) c.a) hb wb=(N9 l c.a c.mi (t+1),hb&&!wb&&decide (N9 l c.a c.mi (t+1)<c.mi)):=by
 rw[N8];unfold RH;rw[gF,N9]
 cases Zi (XG l (t:Int)) c.a==Zi (XG l ((t+1:Nat):Int)) c.a <;> rfl
def gE (l:List Int)(b:Int)(u t:Nat)(h:u<=t):low l b u (t+1+1-u) true=(low l b u (t+1-u) true&&(Zi (XG l ((t+1:Nat):Int)) b==0)):=by
 rw[aqI,ahe,AI,AI]
 constructor
 ·rintro⟨_,h2⟩;exact⟨⟨rfl,λv h3 h4=>h2 v h3 J⟩,by simpa using h2 (t+1) J J⟩
 ·rintro⟨⟨_,h2⟩,h3⟩;refine⟨rfl,λv h4 h5=>?_⟩;by_cases e:v=t+1
  ·subst e;simpa using h3
  ·exact h2 v h4 J
def ag3 (l:List Int)(c:Z0):N7 0 (Xf (XG l ((0:Nat):Int)) c.a) (Xf (VU l ((0:Nat):Int)) c.a) (Xf (XG l ((0:Nat):Int)) c.b) true=(mT l c.a c.b 0,low l c.b (TN l c.a 1 0) (0-TN l c.a 1 0) (QR l c.a 1 0)):=by
 have he:QR l c.a 1 0=false:=by unfold QR FZ;simp
 rw[F0,he,M0,Pc];unfold N7 mT
 cases Zi (XG l ((0:Nat):Int)) c.a==1 <;> simp[runN]
def ag4 (l:List Int)(c:Z0)(t:Nat):N7 (mT l c.a c.b t) (Xf (XG l ((t+1:Nat):Int)) c.a) (Xf (VU l ((t+1:Nat):Int)) c.a) (Xf (XG l ((t+1:Nat):Int)) c.b) false =
  (mT l c.a c.b (t+1),low l c.b (TN l c.a 1 (t+1)) (t+1-TN l c.a 1 (t+1)) (QR l c.a 1 (t+1))):=by
 have hr:=G7 l c.a t;have hz:(((t+1:Nat):Int)==0)=false:=F_;have ZB:∀x y:Int,(x != y)=!(x==y):=λ_ _=>rfl
 rw[N8,Pc,Pc];unfold N7;rw[Pa];unfold QR TN FZ mT;rw[hz,Nat.add_sub_cancel,aqE,ZB];by_cases hn:Zi (XG l ((t+1:Nat):Int)) c.a=1
 ·have hnb:(Zi (XG l ((t+1:Nat):Int)) c.a==1)=true:=by simpa using hn
  rw[hnb];simp only[Bool.true_or,cond_true,M0,aqB,cond_false,aqF,aqr];by_cases hw:Zi (XG l (t:Int)) c.a=1
  ·have CJ:runN l c.a (t+1)=runN l c.a t:=by rw[N6,Of (hw.trans hn.symm)]
   have mS:(Zi (XG l (t:Int)) c.a==1)=true:=by simpa using hw
   rw[CJ,mS,gE l c.b _ t hr]
   cases decide (0<runN l c.a t) <;> cases low l c.b (runN l c.a t) (t+1-runN l c.a t) true <;> cases (Zi (XG l ((t+1:Nat):Int)) c.b==0) <;> rfl
  ·have mS:(Zi (XG l (t:Int)) c.a==1)=false:=by simpa using hw
   have CJ:runN l c.a (t+1)=t+1:=by rw[N6,O3 (λe=>hw (e.trans hn))]
   rw[CJ,mS,show t+1+1-(t+1)=1 by omega];have h1:low l c.b (t+1) 1 true=(Zi (XG l ((t+1:Nat):Int)) c.b==0):=rfl;rw[h1];have h2:decide (0<t+1)=true:=decide_eq_true J;rw[h2]
   cases (Zi (XG l ((t+1:Nat):Int)) c.b==0) <;> rfl
 ·have hnb:(Zi (XG l ((t+1:Nat):Int)) c.a==1)=false:=by simpa using hn
  rw[hnb];simp only[aqF,cond_true,cond_false,aqE];by_cases hw:Zi (XG l (t:Int)) c.a=1
  ·have mS:(Zi (XG l (t:Int)) c.a==1)=true:=by simpa using hw
   rw[mS];simp only[aqB,cond_false,cond_true,aqr]
   cases hd:decide (0<runN l c.a t) with
   |true=>cases hlw:low l c.b (runN l c.a t) (t+1-runN l c.a t) true <;> rfl
   |false=>rw[M0];rfl
  ·have mS:(Zi (XG l (t:Int)) c.a==1)=false:=by simpa using hw
   rw[mS];simp only[aqF,cond_true,aqK,M0]
def aaE (l:List Int)(c:Z0)(t:Nat):Int:=match Zs c.kind with
 |.UB=>tJ l c.a 1 c.ma t
 |.gap=>tJ l c.a 0 c.ma t
 |.idle=>mR l c.a c.mi t
 |.setup=>N9 l c.a c.mi t
 |.TC=>mT l c.a c.b t
 |_=>0
def tI (l:List Int)(c:Z0):Nat->Int
 |0=>Xm c
 |t+1=>aaE l c t
def CD (l:List Int)(c:Z0)(hc:c.wf)(Ow:(Zs c.kind).leaf=true)(i:Nat):Ve (XG l (i:Int)) (VU l (i:Int)) ((i:Int)==0) c (tI l c i)=(aaE l c i,atR l i c):=by
 have hs:=hc.Lc;have hM:=hs.ma.1;have hm:=hs.mi.1;have hv:∀d,Zs c.kind=d->atR l i c=atR l i (.mk c.kind c.a c.b c.mi c.ma c.pat c.nl c.kids):=λd _=>by cases c;rfl
 rw[hv _ rfl,atR];unfold Ve aaE
 cases i with
 |zero =>
  have h0:(((0:Nat):Int)==0)=true:=rfl;rw[h0,tI];unfold Xm
  cases hk:Zs c.kind <;> rw[hk] at Ow <;> first|cases Ow|skip
  all_goals simp only[stP]
  case zero.low.refl=>rw[Pa]
  case zero.Gj.refl=>rw[Pa,Pc]
  case zero.fall.refl=>rw[Pa,Pc]
  case zero.UB.refl =>
   have:=gD l true c hM 0;have he:QR l c.a 1 0=false:=by unfold QR FZ;simp
   rw[this,he];rfl
  case zero.gap.refl =>
   have:=gD l false c hM 0;have he:QR l c.a 0 0=false:=by unfold QR FZ;simp
   rw[this,he];rfl
  case zero.idle.refl=>exact ag5 l c hm 0 _
  case zero.setup.refl =>
   rw[adZ l c hm,CB l c.a c.mi hm,Pa,Pc]
   congr 1
   cases (Zi (XG l ((0:Nat):Int)) c.b==1) <;> cases (Zi (VU l ((0:Nat):Int)) c.b==0) <;> cases decide (N9 l c.a c.mi 0<c.mi) <;> rfl
  case zero.TC.refl=>exact ag3 l c
  all_goals rfl
 |succ t =>
  have h0:(((t+1:Nat):Int)==0)=false:=F_;rw[h0,tI];unfold aaE
  cases hk:Zs c.kind <;> rw[hk] at Ow <;> first|cases Ow|skip
  all_goals simp only[stP]
  case succ.low.refl=>rw[Pa]
  case succ.Gj.refl=>rw[Pa,Pc]
  case succ.fall.refl=>rw[Pa,Pc]
  case succ.UB.refl=>exact gC l true c hM t
  case succ.gap.refl=>exact gC l false c hM t
  case succ.idle.refl=>exact ag6 l c hm t
  case succ.setup.refl =>
   rw[ad0 l c hm,CB l c.a c.mi hm,Pa,Pc]
   congr 1
   cases (Zi (XG l ((t+1:Nat):Int)) c.b==1) <;> cases (Zi (VU l ((t+1:Nat):Int)) c.b==0) <;> cases decide (N9 l c.a c.mi (t+1)<c.mi) <;> rfl
  case succ.TC.refl=>exact ag4 l c t
  all_goals rfl
def OZ (l:List Z0):(VM l).length=l.length:=by rw[RZ];simp
def mg (lines:Int):∀(c:Z0) (d:Int),LK lines c.norm d=LK lines c d:=by
 intro c
 induction c using Z0.ind with
 |h k a b mi ma pat nl kids ih =>
 intro d;have hL:∀l:List Z0,(∀x∈l,x∈kids)->∀d,O4 lines (VM l) d=O4 lines l d:=by
  intro l
  induction l with
  |nil=>intro _ d;rfl
  |cons c l DB =>
   intro hm d;rw[VM,O4,O4,ih c (hm c (aba ..)),DB λx hx=>hm x (aab _ hx)]
 rw[Z0.norm,LK,LK,OZ,hL kids λ_ h=>h]
def Ky:∀c:Z0,leaves c.norm=leaves c:=by
 intro c
 induction c using Z0.ind with
 |h k a b mi ma pat nl kids ih =>
 have hL:∀l:List Z0,(∀x∈l,x∈kids)->Zn (VM l)=Zn l:=by
  intro l
  induction l with
  |nil=>intro _;rfl
  |cons c l DB =>
   intro hm;rw[VM,Zn,Zn,ih c (hm c (aba ..)),DB λx hx=>hm x (aab _ hx)]
 rw[Z0.norm,leaves,leaves,hL kids λ_ h=>h]
def sY:∀c:Z0,c.fits->c.norm.fits:=by
 intro c
 induction c using Z0.ind with
 |h k a b mi ma pat nl kids ih =>
 intro h;rw[Z0.fits] at h;rw[Z0.norm,Z0.fits,OZ];refine⟨h.1,h.2.1,λx hx=>?_⟩;rw[RZ] at hx;obtain⟨y,hy,rfl⟩:=ap0.1 hx;exact ih y hy (h.2.2 y hy)
def Hv:∀{l:List Z0},(∀x∈l,(VE x).length<=leaves x)->(ZL l).length<=Zn l
 |[],_=>by simp[ZL]
 |c::l,h=>by
  rw[ZL,ann,Zn];have h1:=h c (aba ..);have h2:=Hv λx hx=>h x (aab _ hx)
  omega
def EF:∀c:Z0,(VE c).length<=leaves c:=by
 intro c
 induction c using Z0.ind with
 |h k a b mi ma p nl kids ih =>
 rw[VE,leaves]
 cases Xn k with
 |true=>have:=Hv ih;simp only[cond_true];omega
 |false=>simp
end Go.Am
