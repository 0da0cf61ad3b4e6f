/- A part of the proof of a statement of this seat: the machine on which the program is read, and what it computes; for every input. -/
import Derived.Test.YtkmaeondbkpajaaGreatDoorG26
import Derived.Test.YtkmaeondbkpajaaGreatDoorG27
import Derived.Test.YtkmaeondbkpajaaGreatDoorG11
import Derived.Test.YtkmaeondbkpajaaGreatDoorG31
set_option linter.all false
namespace Go.Am
open Go
variable [ZZ]
set_option maxRecDepth 100000
set_option maxHeartbeats 8000000
theorem P0.Bt {s:St}{bS mm mb nb N:Nat}{L:List PN}{E:List (PN×AV)}{pv:AV}(h:P0 s bS mm mb nb N L E pv){j:Nat}(hj:j<N):¬N7 5 pv j:=by
 rintro⟨n,cap,rfl⟩;rcases h.row with⟨_,h,_⟩|⟨_,_,b,h1,h2,h3,_⟩
 ·cases h
 ·cases h3;omega
theorem P0.mono {s s':St}{bS mm mb nb N:Nat}{L:List PN}{E:List (PN×AV)}{pv:AV}(h:P0 s bS mm mb nb N L E pv)(hn:s.next<=s'.next)(hg:∀j,j<s.next->s'.get j=s.get j):P0 s' bS mm mb nb N L E pv:=by
 obtain⟨n1,n2,n3,n4,n5⟩:=h.lt;exact⟨h.fst,fun p hp=>(h.vs p hp).keep fun c hc=>by rw[hg _ (by omega)];exact hc,by rw[hg _ (by omega)];exact h.map,by rw[hg _ (by omega)];exact h.B5,by rw[hg _ (by omega)];exact h.Wo,h.row.mono hn fun j _ h2=>hg j h2,by omega⟩
noncomputable def GY:RC:=(sO [Zh 71 2 1,ZP 72 1 10,Zh 73 3 72,Pf 74 16,Mh 75 70 71 73 74,Pf 70 75,Yd 76 70 0,Yd 77 70 1,AN 17 0 0 0 133,Yw 3 17 76,Pf 18 77] (oP [Pf 78 11,Pf 79 7,Pf 80 15,Zh 81 3 17,Pf 82 13,o 83 (.N_ [.ZM,(iI 0),(iI 0),(iI 0),(iI 0)] [(0,1,(.t 80)),(1,3,(.t 81)),(4,1,(.t 82))]),EK 84 79 83,Qn 85 3 1 1 0 0 1 84,VE 86 3 1 8 78 85,Pf 87 12,Pf 88 18,o 89 (.SE 4 1 1 [bF] [(0,1,(.t 88))]),VE 90 4 1 1 87 89,Pf 11 86,Pf 12 90]))
theorem Np:Jp=(.seq (.ops [o 49 (.bin .lss 3 false (.t 48) (.t 47))]) (.seq (.cond (.t 49) .skip (.exit 2)) (.seq (.block 3 (.seq (.ops [o 50 (.Qb (.t 48)),o 13 (.Qb (.t 50))]) (.seq (.ops [o 51 (.Qb (.t 13)),o 52 (.fa 4 (.t 10)),o 53 (.TB (.t 52)),o 54 (.fa 4 (.t 10)),o 55 (.TB (.t 54)),o 56 (.bin .lss 3 true (.t 55) (.v (.int .i64 0))),o 57 (.N_ [(.int .i64 0),(.int .i64 0),(.bool false)] [(0,1,(.t 51)),(1,1,(.t 53)),(2,1,(.t 56))]),o 14 (.al [(.int .i64 0),(.int .i64 0),(.bool false)] 137),oS (.st 3 (.t 14) (.t 57))]) (.seq (.seq (.ops [o 58 (.fa 2 (.t 14)),o 59 (.TB (.t 58))]) (.cond (.t 59) (.ops [o 60 (.Qb (.t 13)),o 61 (.fa 1 (.t 14)),oS (.st 1 (.t 61) (.t 60))]) .skip)) (.seq (.ops [o 63 (.P7 3 (.t 3)),o 64 (.fa 0 (.t 10)),o 65 (.TB (.t 64)),o 66 (.P7 3 (.t 14)),o 67 (.call 69 [(.t 63),(.t 65),(.t 66)]),o 62 (.Qb (.t 67)),o 68 (.ext (.t 62) 0),o 69 (.ext (.t 62) 1),o 15 (.Qb (.t 68)),o 16 (.Qb (.t 69))]) GY))))) (.ops [o 91 (.bin .add 3 true (.t 48) (.v (.int .i64 1))),o 48 (.Qb (.t 91))])))):=by
 unfold Jp GY;rfl
theorem ae6 {β:Type}{fin:Fl->β}{ks:List K}{Zu:β->Prop}{lines:Int}{sp:AV}{bs:List Bool}{z x0:PN}{bz:Bool}{bS m q y B:Nat}{L':List PN}{E':List (PN×AV)}{Gj w1 w2 V:AV}{a1:List Nat}{a2:List Bool}
  (H_:Zw U 70 [.agg [.int .i64 lines,sp],.agg [.int .i64 x0.cur.1,.int .i64 x0.cur.2.1,.int .i64 x0.cur.2.2],ZG true (ZB bs)]=some (.XF [.agg [.int .i64 z.cur.1,.int .i64 z.cur.2.1,.int .i64 z.cur.2.2],.bool bz]))
  (hpz:PB z)(hzl:z.last=(y:Int))(hL:∀x∈L',PB x)(hlen:L'.length<=2^20)(hy:y<=65536)(h8m:8<m)
  {e:Env}{s:St}(g1:Env.get e 1=.ptr 8 0)(g7:Env.get e 7=.fn (.func 132) [] [.ptr (m+2) 0,.ptr (m+3) 0])(Qo:Env.get e 10=.ptr q 0)(DZ:Env.get e 11=w1)(SB:Env.get e 12=w2)(jA:Env.get e 13=.int .i64 (y:Nat))(zb:Env.get e 15=.fz (ints z.Za))(Gt:Env.get e 16=ZG true (ZB bs))
  (u8:s.get 8=some (.cells [.int .i64 lines,sp] 25 false 0 0))(uq:s.get q=some (.cells (Wo x0 V) 210 false 0 0))(hq:q<s.next)(hN:P0 s bS (m+1) (m+2) (m+3) (m+4) L' E' Gj)(tX:ZF s B 3 1 y (ZA a1) w1)(Gx:ZF s B 4 1 y (ZB a2) w2)(hB:m+4<=B/\B<=s.next)(fr:Fr s)
  (hk:∀e' s' E2 qd w1' w2',(∀t:Nat,t<50->t≠11->t≠12->t≠17->t≠18->Env.get e' t=Env.get e t)->P0 s' bS (m+1) (m+2) (m+3) (m+4) (SX L' z) E2 qd->Env.get e' 11=w1'->ZF s' B 3 1 (y+1) (ZA (a1++[WN L' z])) w1'->Env.get e' 12=w2'->ZF s' B 4 1 (y+1) (ZB (a2++[bz])) w2' ->
   (∀j,j<B->j≠m+1->j≠m+3->¬N7 5 Gj j->s'.get j=s.get j)->s.next<=s'.next->(∀j,N7 5 qd j->N7 5 Gj j\/s.next<=j)->Fr s'->Zu (goN U fin ks e' s')) :
  Zu (go U fin ks GY e s):=by
 have f1:(s.next=8)=False:=by have:=hN.lt;simp;omega
 unfold Wo at uq;obtain⟨S,DR⟩:∃S,S=(s.new (.cells [.int .i64 0,.int .i64 0,.int .i64 0] 133 false 0 0)).put s.next (.cells [.int .i64 z.cur.1,.int .i64 z.cur.2.1,.int .i64 z.cur.2.2] 133 false 0 0):=⟨_,rfl⟩;have tu:S.next=s.next+1:=by rw[DR,Z_,Z']
 have kS:∀j,j<s.next->S.get j=s.get j:=fun j h1=>by rw[DR,Z0,if_neg (by omega),ZY,if_neg (by omega)]
 have iP:Fr S:=by rw[DR];exact (fr.new _).put (by rw[Z'];omega) _
 have hNS:=hN.mono (s':=S) (by omega) kS;obtain⟨s2,E2,qd,r1,r2,r3,r4,r5,r6,r7⟩:=ae2 hNS hL hlen hpz (V:=.fz (ints z.Za)) (.inl rfl) iP;rw[XL] at r1;unfold Wo at r1;rw[hzl] at r1;have cy:ZF s2 B 3 1 y (ZA a1) w1:=tX.Ty (by omega) fun j c h1 h2 _=>r5 j _ _ _ _ (by rw[kS j h2];exact h1) (by omega) (by decide) (by decide)
 have cx:ZF s2 B 4 1 y (ZB a2) w2:=Gx.Ty (by omega) fun j c h1 h2 _=>r5 j _ _ _ _ (by rw[kS j h2];exact h1) (by omega) (by decide) (by decide)
 have zf:=cy.Xg;have LB:=cx.Xg;have Un:(y+1)*8<=1099511627776:=by omega
 have VD:y+1<=1099511627776:=by omega
 have CU:(y+1)*1<=1099511627776:=by omega
 simp only[go_sem,GY,g1,g7,Qo,DZ,SB,jA,zb,Gt,u8,uq,H_,f1];rw[<-DR,r1];simp only[go_sem,g1,g7,Qo,DZ,SB,jA,zb,Gt,ajj,ajB,ZD,Nat.reducePow,zf,LB,Un,VD,CU];have ahP:ZF (s2.new (.cells [.int .i64 (WN L' z:Nat)] 3 false 0 0)) B 3 1 y (ZA a1) w1:=cy.mono (by rw[Z'];omega) fun j _ h2=>by rw[ZY,if_neg (by omega)]
 obtain⟨s3,d1,d2,d3,d4,d5,d6⟩:=ahP.abM (by rw[Z'];omega) (.int .i64 (WN L' z:Nat)) rfl;rw[d1];have ae7:ZF s3 B 4 1 y (ZB a2) w2:=cx.Ty (by rw[d2,Z'];omega) fun j c h1 h2 _=>d4 j _ _ _ _ (by rw[ZY,if_neg (by omega)];exact h1) (by rw[Z'];omega) (by decide)
 have ahQ:ZF (s3.new (.cells [.bool bz] 4 false 0 0)) B 4 1 y (ZB a2) w2:=ae7.mono (by rw[Z'];omega) fun j _ h2=>by rw[ZY,if_neg (by omega)]
 rw[Z'] at d1 d2 d3;have ahR:=ae7.Xg;simp only[go_sem,SB,ajj,ajB,ZD,Nat.reducePow,ahR,CU,VD];obtain⟨s4,c1,c2,c3,c4,c5,c6⟩:=ahQ.abM (by rw[Z'];omega) (.bool bz) rfl;rw[c1];rw[Z'] at c1 c2 c3;simp only[go_sem];have k4:∀j c t,s2.get j=some (.cells c t false 0 0)->j<s2.next->t≠3->t≠4->s4.get j=some (.cells c t false 0 0):=fun j c t h1 h2 h3 h4=>c4 j c t 0 0 (by rw[ZY,if_neg (by omega)];exact d4 j c t 0 0 (by rw[ZY,if_neg (by omega)];exact h1) (by rw[Z'];omega) h3) (by rw[Z'];omega) h4
 have k5:∀j,j<B->s4.get j=s2.get j:=fun j h1=>by rw[c5 j h1,ZY,if_neg (by omega),d5 j h1,ZY,if_neg (by omega)]
 obtain⟨n1,n2,n3,n4,n5⟩:=r2.lt;have DT:P0 s4 bS (m+1) (m+2) (m+3) (m+4) (SX L' z) E2 qd :=
  ⟨r2.fst,fun p hp=>(r2.vs p hp).keep fun c hc=>by rw[k5 bS (by omega)];exact hc,by rw[k5 _ (by omega)];exact r2.map,by rw[k5 _ (by omega)];exact r2.B5,by rw[k5 _ (by omega)];exact r2.Wo,by
   rcases r2.row with⟨h0,h1,h2⟩|⟨h0,h1,b,h2,h3,h4,h5⟩
   ·exact .inl ⟨h0,h1,h2⟩
   ·exact .inr ⟨h0,h1,b,h2,by omega,h4,k4 b _ _ h5 h3 (by decide) (by decide)⟩,by omega⟩
 have e1:ZA (a1++[WN L' z])=ZA a1++[.int .i64 (WN L' z:Nat)]:=by simp[ZA,ints,NU]
 have e2:ZB (a2++[bz])=ZB a2++[.bool bz]:=by simp[ZB]
 refine hk _ _ E2 qd _ _ (fun t h1 h2 h3 h4 h5=>?_) DT ?_ (e1 ▸ d3.Ty (by rw[c2];omega) fun j c h1 h2 _=>c4 j _ _ 0 0 (by rw[ZY,if_neg (by omega)];exact h1) (by rw[Z'];omega) (by decide)) ?_ (e2 ▸ c3) (fun j h1 h2 h3 h4=>?_) (by omega) (fun j hj=>?_) (c6 ((d6 (r3.new _)).new _))
 ·have Zv:∀k:Nat,50<=k->(k=t)=False:=fun k hk=>by simp;omega
  have r_:(11=t)=False:=by simp;omega
  have uQ:(12=t)=False:=by simp;omega
  have n17:(17=t)=False:=by simp;omega
  have n18:(18=t)=False:=by simp;omega
  simp only[go_sem,Zv,r_,uQ,n17,n18]
 ·simp only[go_sem]
 ·simp only[go_sem]
 ·rw[k5 j h1,r6 j (by omega) h2 h3 h4,kS j (by omega)]
 ·rcases r7 j hj with h|h
  ·exact .inl h
  ·right;omega
theorem acx {β:Type}{fin:Fl->β}{ks:List K}{Zu:β->Prop}{p:Prog}(hS:YN p.steps)(bD:p.steps.length<=8)(hL:(ZQ (p.steps.map Step.cond)).length<=2^20){m0:Nat}(hm:2<=m0/\m0<=16)(hz:Wu p.steps m0<=512){bS m q:Nat}{v lv sv V pv:AV}{L0 L1 F:List PN}{E0:List (PN×AV)}{x0:PN}{sm:St}
  (hI:∀x∈L0,Si p.steps m0 x)(ti:Si p.steps m0 x0)(bC:Uz (fun y=>(YX p.steps x0 y).1) m0 0 L0=L1)(jn:L1.length<=2^20)(hF:∃R,F=L1++R)(pn:still lv=false)
  (py:∀s',(∀j,j<=m->s'.get j=sm.get j)->m<s'.next->Yc U s' 40 (.agg [v,lv,sv])=some (.agg [.fz ((p.steps.map Step.cond).map Zt),.fz ((ZQ (p.steps.map Step.cond)).map Zt),.fz ((ZQ (p.steps.map Step.cond)).map XD)]))
  (gm:sm.get m=some (.cells [v,lv,sv] 128 false 0 0))(gp:sm.get 8=some (.cells [.int .i64 p.lines,ZG p.nl (Zr p.steps)] 25 false 0 0))(h8m:8<m)(hbS:bS<m)(hV:kG sm bS x0.Za V)
  {e:Env}{s:St}(g1:Env.get e 1=.ptr 8 0)(g3:Env.get e 3=.ptr m 0)(g7:Env.get e 7=.fn (.func 132) [] [.ptr (m+2) 0,.ptr (m+3) 0])(Qo:Env.get e 10=.ptr q 0)(DZ:Env.get e 11=.ZM)(SB:Env.get e 12=.ZM)(g47:Env.get e 47=.int .i64 (m0:Nat))(g48:Env.get e 48=.int .i64 (0:Nat))
  (old:∀j,j<=m->s.get j=sm.get j)(gq:s.get q=some (.cells (Wo x0 V) 210 false 0 0))(hq:m+4<=q/\q<s.next)(hqv:¬N7 5 pv q)(hN:P0 s bS (m+1) (m+2) (m+3) (m+4) L0 E0 pv)(fr:Fr s)
  (hk:∀e' s' Gj E' w1 w2,(∀t:Nat,t<11->Env.get e' t=Env.get e t)->P0 s' bS (m+1) (m+2) (m+3) (m+4) L1 E' Gj->Env.get e' 11=w1->ZF s' s.next 3 1 m0 (ZA (Xq (YX p.steps) F m0 x0)) w1->Env.get e' 12=w2->ZF s' s.next 4 1 m0 (ZB (Xf (YX p.steps) m0 x0)) w2 ->
   (∀j,j<s.next->j≠m+1->j≠m+3->¬N7 5 pv j->s'.get j=s.get j)->s.next<=s'.next->(∀j,N7 5 Gj j->N7 5 pv j\/s.next<=j)->Fr s'->Zu (goN U fin ks e' s')) :
  Zu (SC U fin (.bk 2::ks) Jp e s):=by
 have je:=fun x hx=>Si.pb hS bD hm hz hL (x:=x) hx
 have jo:=hS.qh;refine YG (σ:=Nat) (fun y=>m0-y) (fun y e' s'=>y<=m0/\(∀t:Nat,t<11->Env.get e' t=Env.get e t)/\Env.get e' 47=.int .i64 (m0:Nat)/\Env.get e' 48=.int .i64 (y:Nat)/\(∀j,j<s.next->j≠m+1->j≠m+3->¬N7 5 pv j->s'.get j=s.get j)/\s.next<=s'.next/\Fr s' /\
   ∃L' E' Gj w1 w2,P0 s' bS (m+1) (m+2) (m+3) (m+4) L' E' Gj/\Uz (fun y=>(YX p.steps x0 y).1) (m0-y) y L'=L1/\(∀z∈L',Si p.steps m0 z)/\(∀j,N7 5 Gj j->N7 5 pv j\/s.next<=j)/\Env.get e' 11=w1/\ZF s' s.next 3 1 y (ZA (Xq (YX p.steps) F y x0)) w1/\Env.get e' 12=w2/\ZF s' s.next 4 1 y (ZB (Xf (YX p.steps) y x0)) w2) 0 ?_
  ⟨aji _,fun _ _=>rfl,g47,g48,fun _ _ _ _ _=>rfl,ajg _,fr,L0,E0,pv,.ZM,.ZM,hN,by rw[Nat.sub_zero];exact bC,hI,fun j hj=>.inl hj,DZ,ZF.nil _ _ _ _,SB,ZF.nil _ _ _ _⟩
 rintro Lp y e' s' ⟨hy,hold,q47,q48,hs,UL,UB,L',E',Gj,w1,w2,zm,X',vS,hB,jD,tX,pV,Gx⟩ IH;have q1:=(hold 1 (by omega)).trans g1;have q3:=(hold 3 (by omega)).trans g3;have q7:=(hold 7 (by omega)).trans g7;have cV:=(hold 10 (by omega)).trans Qo;have ez:∀j,j<=m->s'.get j=sm.get j:=fun j hj=>(hs j (by have:=hN.lt;omega) (by omega) (by omega) (hN.Bt (by omega))).trans (old j hj)
 have uq:=(hs q hq.2 (by omega) (by omega) hqv).trans gq;have um:=(ez m (ajg _)).trans gm;have up:=(ez 8 (by omega)).trans gp;by_cases hd:y<m0
 ·have Qp:=ZE hd (by omega);rw[show m0-y=(m0-(y+1))+1 by omega,Uz] at X';obtain⟨dy,hsb,LA⟩:=je x0 ti;have ey:Gs p.steps x0.cur:=(ti.Zj hS).2.2.1;have KD:=(ti.Zj hS).2.1;have hzI:=tQ hS ti hd;have hpz:=(je _ hzI).1;have Vg:∀S:St,(∀j,j<=m->S.get j=sm.get j)->m<S.next->XR U (Zw U 69 [.agg [v,lv,sv],V,.agg [.int .i64 (y:Int),.int .i64 (XO x0.last y),.bool (decide (x0.last<0))]]) 69 [.agg [v,lv,sv],V,.agg [.int .i64 (y:Int),.int .i64 (XO x0.last y),.bool (decide (x0.last<0))]] S =
    some (.XF [.fz (ints (YX p.steps x0 y).1.Za),ZG true (ZB (outs (p.steps.map Step.cond) (Yk (y:Int) (XO x0.last y) (decide (x0.last<0)) (ZQ (p.steps.map Step.cond)) x0.Za)))],S):=fun S h1 h2=>by
   rw[z93 (by simp[ZO,still,pn])];have e1:=py S h1 h2;have e2:=(hV.keep (s':=S) fun c hc=>by rw[h1 bS (by omega)];exact hc).Yc 38;have e3:YT (Yc U S 40) [.agg [v,lv,sv],V,.agg [.int .i64 (y:Int),.int .i64 (XO x0.last y),.bool (decide (x0.last<0))]] =
     some [.agg [.fz ((p.steps.map Step.cond).map Zt),.fz ((ZQ (p.steps.map Step.cond)).map Zt),.fz ((ZQ (p.steps.map Step.cond)).map XD)],.fz (ints x0.Za),.agg [.int .i64 (y:Int),.int .i64 (XO x0.last y),.bool (decide (x0.last<0))]]:=by
    rw[Yf,e1,Yf,e2,Yf,Us,WK];rfl
   rw[e3];have hz:=adb (p.steps.map Step.cond) x0.Za (y:Int) (XO x0.last y) (decide (x0.last<0)) jo (by rw[aje];omega) hsb LA hL ⟨by omega,by omega⟩ (by unfold XO;cases hc:decide (x0.last<0) with
    |true=>exact⟨by rw[cond_true];omega,by rw[cond_true];omega⟩
    |false=>have:=of_decide_eq_false hc;exact⟨by rw[cond_false];omega,by rw[cond_false];omega⟩) S
   rw[Yn] at hz;rw[hz];rfl
  have qw:=ey.a;have hkb:0<=x0.cur.2.1/\x0.cur.2.1<=2^40:=by
   have h1:=ey.k;rw[BS qw] at h1;have:=hS.tm _ (ajc qw);omega
  have hgb:0<=x0.cur.2.2/\x0.cur.2.2<=2^40:=by
   have h1:=ey.g;rw[vD qw] at h1;have:=hS.wi _ (ajc qw);omega
  have H_:=c99 p (outs (p.steps.map Step.cond) (Yk (y:Int) (XO x0.last y) (decide (x0.last<0)) (ZQ (p.steps.map Step.cond)) x0.Za)) true x0.cur.1 x0.cur.2.1 x0.cur.2.2 ey.a (by rw[Ib,aje]) (by omega) hkb hgb;rw[Yg] at H_;have hmv:(NL (Wn p.steps) (Tm p.steps) p.steps.length (Fz (outs (p.steps.map Step.cond) (Yk (y:Int) (XO x0.last y) (decide (x0.last<0)) (ZQ (p.steps.map Step.cond)) x0.Za))) x0.cur.1 x0.cur.2.1 x0.cur.2.2)=((YX p.steps x0 y).1.cur,(YX p.steps x0 y).2):=rfl;rw[hmv] at H_;simp only[La] at H_;have hzl:(YX p.steps x0 y).1.last=(y:Int):=rfl;have f1:∀k,(s'.next+k=8)=False:=fun k=>by simp;omega
  have f1':(s'.next=8)=False:=by simp;omega
  have f2:(s'.next=m)=False:=by simp;omega
  have f3:(s'.next=q)=False:=by simp;omega
  have N4:XO x0.last y=bif decide (x0.last<0) then (y:Int) else x0.last:=rfl;unfold Wo at uq;have hLb:∀x∈L',PB x:=fun x hx=>(je x (vS x hx)).1
  obtain⟨RL,hRL⟩:=Fj (fun y=>(YX p.steps x0 y).1) (m0-(y+1)) (y+1) (SX L' (YX p.steps x0 y).1);have ahS:L'.length<=2^20:=by
   rw[X'] at hRL;have h1:(SX L' (YX p.steps x0 y).1).length<=L1.length:=by rw[hRL,ajh];omega
   obtain⟨R0,e0⟩:=Iw L' (YX p.steps x0 y).1;rw[e0,ajh] at h1;omega
  have aeL:WN F (YX p.steps x0 y).1=WN L' (YX p.steps x0 y).1:=by
   obtain⟨R,hR⟩:=hF;rw[X'] at hRL;rw[hR,hRL,ajQ,zT _ _ _ (zS L' _)];by_cases Sd:(YX p.steps x0 y).1∈L'
   ·rw[SX,if_pos Sd]
   ·rw[SX,if_neg Sd,zR _ L' Sd,CK _ L' Sd]
  have hrN:Xq (YX p.steps) F y x0++[WN L' (YX p.steps x0 y).1]=Xq (YX p.steps) F (y+1) x0:=by
   rw[<-aeL];unfold Xq;rw[List.range_succ,ajA];rfl
  have hrF:Xf (YX p.steps) y x0++[(YX p.steps x0 y).2]=Xf (YX p.steps) (y+1) x0:=by
   unfold Xf;rw[List.range_succ,ajA];rfl
  have npv:¬N7 5 Gj q:=fun h=>by
   rcases hB q h with h|h
   ·exact hqv h
   ·omega
  have tail:∀(ee:Env) (S:St),S.next=s'.next+1->(∀j,j<s'.next->S.get j=s'.get j)->Fr S->(∀t:Nat,t<11->Env.get ee t=Env.get e' t)->Env.get ee 11=w1->Env.get ee 12=w2->Env.get ee 13=.int .i64 (y:Nat)->Env.get ee 15=.fz (ints (YX p.steps x0 y).1.Za)->Env.get ee 16=ZG true (ZB (outs (p.steps.map Step.cond) (Yk (y:Int) (XO x0.last y) (decide (x0.last<0)) (ZQ (p.steps.map Step.cond)) x0.Za)))->Env.get ee 47=.int .i64 (m0:Nat)->Env.get ee 48=.int .i64 (y:Nat) ->
    Zu (go U fin (.bk 3::.sq (.ops [o 91 (.bin .add 3 true (.t 48) (.v (.int .i64 1))),o 48 (.Qb (.t 91))])::.lp Lp::.bk 2::ks) GY ee S):=by
   intro ee S h1 h2 h3 h4 h11 h12 h13 h15 h16 h47 h48;refine ae6 (Zu:=Zu) (bS:=bS) (m:=m) (q:=q) (y:=y) (B:=s.next) (x0:=x0) (V:=V) (w1:=w1) (w2:=w2) (L':=L') (E':=E') (Gj:=Gj) (a1:=Xq (YX p.steps) F y x0) (a2:=Xf (YX p.steps) y x0) H_ hpz hzl hLb ahS (by omega) h8m ((h4 1 (by omega)).trans q1) ((h4 7 (by omega)).trans q7) ((h4 10 (by omega)).trans cV) h11 h12 h13 h15 h16 ((h2 8 (by have:=zm.lt;omega)).trans up) ((h2 q (by omega)).trans uq) (by omega) (zm.mono (by omega) h2) (tX.mono (by omega) fun j _ hj=>h2 j hj) (Gx.mono (by omega) fun j _ hj=>h2 j hj) (by have:=hN.lt;omega) h3 ?_;intro e2 s2 E2 qd w1' w2' g2 n2 k11 r1 dD r2 kp kn kb IV;have j48:=(g2 48 (by omega) (by omega) (by omega) (by omega) (by omega)).trans h48;have j47:=(g2 47 (by omega) (by omega) (by omega) (by omega) (by omega)).trans h47;simp only[go_sem,j48,Qp];rw[hrN] at r1;rw[hrF] at r2;refine IH (y+1) _ _ (by omega) ⟨by omega,fun t ht=>?_,?_,?_,fun j a1 a2 a3 a4=>?_,by omega,IV,SX L' (YX p.steps x0 y).1,E2,qd,w1',w2',n2,X',fun z jE=>?_,fun j hj=>?_,?_,r1,?_,r2⟩
   ·have Zv:∀k:Nat,11<=k->(k=t)=False:=fun k hk=>by simp;omega
    simp only[go_sem,Zv];exact ((g2 t (by omega) (by omega) (by omega) (by omega) (by omega)).trans (h4 t ht)).trans (hold t ht)
   ·simp only[go_sem,j47]
   ·simp only[go_sem]
   ·rw[kp j a1 a2 a3 (fun h=>by
     rcases hB j h with h|h
     ·exact a4 h
     ·omega),h2 j (by omega),hs j a1 a2 a3 a4]
   ·rcases tP jE with h|h
    ·exact vS z h
    ·rw[h];exact hzI
   ·rcases kb j hj with h|h
    ·exact hB j h
    ·right;omega
   ·simp only[go_sem,k11]
   ·simp only[go_sem,dD]
  have tz:∀t:Nat,t<11->∀k:Nat,11<=k->(k=t)=False:=fun t ht k hk=>by simp;omega
  have yY:=zm.lt
  cases hc:decide (x0.last<0) with
  |true =>
   rw[hc] at Vg N4 tail;rw[cond_true] at N4;rw[N4] at Vg tail;simp only[go_sem,Np,q1,q3,q7,cV,jD,pV,q47,q48,Z9,hd,uq,um,up,f1,f1',f2,f3,hc];rw[Vg _ (fun j hj=>by rw[Z0,if_neg (by omega),Z0,if_neg (by omega),ZY,if_neg (by omega)];exact ez j hj) (by simp only[Z_,Z'];omega)];simp only[go_sem];refine tail _ _ (by simp only[Z_,Z']) (fun j hj=>by rw[Z0,if_neg (by omega),Z0,if_neg (by omega),ZY,if_neg (by omega)]) (((UB.new _).put (by rw[Z'];omega) _).put (by rw[Z_,Z'];omega) _) (fun t ht=>?_) ?_ ?_ ?_ ?_ ?_ ?_ ?_
   ·have Zv:=tz t ht;simp only[go_sem,Zv]
   all_goals simp only[go_sem,jD,pV,q47,q48]
  |false =>
   rw[hc] at Vg N4 tail;rw[cond_false] at N4;rw[N4] at Vg tail;simp only[go_sem,Np,q1,q3,q7,cV,jD,pV,q47,q48,Z9,hd,uq,um,up,f1,f1',f2,f3,hc];rw[Vg _ (fun j hj=>by rw[Z0,if_neg (by omega),ZY,if_neg (by omega)];exact ez j hj) (by simp only[Z_,Z'];omega)];simp only[go_sem];refine tail _ _ (by simp only[Z_,Z']) (fun j hj=>by rw[Z0,if_neg (by omega),ZY,if_neg (by omega)]) ((UB.new _).put (by rw[Z'];omega) _) (fun t ht=>?_) ?_ ?_ ?_ ?_ ?_ ?_ ?_
   ·have Zv:=tz t ht;simp only[go_sem,Zv]
   all_goals simp only[go_sem,jD,pV,q47,q48]
 ·have hye:y=m0:=by omega
  subst hye;rw[Nat.sub_self,Uz] at X';subst X';simp only[go_sem,Np,q47,q48,Z9,ajp];refine hk _ _ Gj E' w1 w2 (fun t ht=>?_) zm ?_ tX ?_ Gx hs UL hB UB
  ·have Zv:∀k:Nat,11<=k->(k=t)=False:=fun k hk=>by simp;omega
   simp only[go_sem,Zv];exact hold t ht
  ·simp only[go_sem,jD]
  ·simp only[go_sem,pV]
theorem acr {β:Type}{fin:Fl->β}{ks:List K}{Zu:β->Prop}{i ob N:Nat}{ln:Int}{cN cF:List AV}{v w:AV}{jr jc m:Nat}(hi9:i<=2^20)
  {e:Env}{s:St}(g8:Env.get e 8=.ptr ob 0)(acs:Env.get e 11=.sl jr 0 m none 1)(acu:Env.get e 12=.sl jc 0 m none 1)(Qe:s.get ob=some (.cells [.int .i64 ln,v,w] 42 false 0 0))(zo:ob<s.next)(hN:N<=s.next)(hv:ZF s N 48 1 i cN v)(hw:ZF s N 72 1 i cF w)(fr:Fr s)
  (hk:∀e' s' v' w',(∀t:Nat,t<92->Env.get e' t=Env.get e t)->s'.get ob=some (.cells [.int .i64 ln,v',w'] 42 false 0 0)->ZF s' N 48 1 (i+1) (cN++[.sl jr 0 m none 1]) v'->ZF s' N 72 1 (i+1) (cF++[.sl jc 0 m none 1]) w' ->
   (∀j,j<s.next->j≠ob->¬Xi v j->¬Xi w j->s'.get j=s.get j)->s.next<=s'.next->Fr s'->Zu (goN U fin ks e' s')) :
  Zu (go U fin ks (.raw yO) e s):=by
 rw[UZ bE];have LC:=fr.at;have FK:∀t:Nat,t<92->(∀k:Nat,92<=k->(k=t)=False):=fun t ht=>fun k hk=>by simp;omega
 have Q5:∀j q,j<s.next->(j=s.next+q)=False:=fun j q hj=>by simp;omega
 have Tp:∀j q,j<s.next->(s.next+q=j)=False:=fun j q hj=>by simp;omega
 have DU:∀q,q≠0->(s.next+q=s.next)=False:=fun q hq=>by simp;omega
 have DT:∀q,q≠0->(s.next=s.next+q)=False:=fun q hq=>by simp;omega
 have Un:(i+1)*24<=1099511627776:=by omega
 have VD:i+1<=1099511627776:=by omega
 have key:∀(E:Env) (S:St),(∀t:Nat,t<92->Env.get E t=Env.get e t) ->
   S.get ob=some (.cells [.int .i64 ln,.sl (s.next+14) 0 (i+1) none 1,.sl (s.next+15) 0 (i+1) none 1] 42 false 0 0) ->
   S.get (s.next+14)=some (.cells (cN++[.sl jr 0 m none 1]) 48 false 0 0)->S.get (s.next+15)=some (.cells (cF++[.sl jc 0 m none 1]) 72 false 0 0) ->
   (∀j,j<s.next->j≠ob->¬Xi v j->¬Xi w j->S.get j=s.get j)->s.next+15<S.next->Fr S->cN.length=i->cF.length=i->Zu (goN U fin ks E S):=by
  intro E S k1 k2 k3 k4 k6 k7 k8 k9 zn;exact hk E S (.sl (s.next+14) 0 (i+1) none 1) (.sl (s.next+15) 0 (i+1) none 1) k1 k2 (.inr ⟨by omega,by simp[k9],s.next+14,by omega,by omega,rfl,k3⟩) (.inr ⟨by omega,by simp[zn],s.next+15,by omega,by omega,rfl,k4⟩) k6 (by omega) k8
 rcases hv with⟨i0,rfl,rfl⟩|⟨i0,tk,bv,v1,v2,rfl,v4⟩
 ·rcases hw with⟨_,rfl,rfl⟩|⟨i1,_⟩
  ·subst i0;simp only[go_sem,g8,acs,acu,Qe,Wq,ZD,ajj,ajB,Nat.reducePow,ajr,ajf,LC,zo,Q5,Tp,DU,DT,Un,VD];refine key _ _ (fun t ht=>?_) ?_ ?_ ?_ (fun j h1 h2 _ _=>?_) ?_ ?_ rfl rfl
   ·have Zv:=FK t ht;simp only[go_sem,Zv]
   ·simp only[go_sem,ajr]
   ·simp[go_sem,Q5,Tp,zo,ajf]
   ·simp[go_sem,Q5,Tp,zo,ajf]
   ·have e0:∀q,(s.next+q=j)=False:=fun q=>by simp;omega
    simp only[Z0,ZY,Z_,Z',ZV,ZH,ajf,Nat.reduceAdd,e0,eq_false h2.symm,if_false]
   ·simp only[Z_,Z',ZV];omega
   ·repeat first|exact fr|apply Fr.new|apply Fr.put|apply Fr.upto
    all_goals try simp only[Z_,Z',ZV]
    all_goals omega
  ·omega
 ·rcases hw with⟨i1,_⟩|⟨_,tj,bw,w1,w2,rfl,w4⟩
  ·omega
  ·rw[ajj] at tk tj;have n1:=Wp v4 w4 (by decide);have n2:=Wp v4 Qe (by decide);have n3:=Wp w4 Qe (by decide);have y1:(bv=bw)=False:=eq_false n1;have y2:(bv=ob)=False:=eq_false n2;have y3:(bw=ob)=False:=eq_false n3;have y8:(ob=bv)=False:=eq_false n2.symm;have y9:(ob=bw)=False:=eq_false n3.symm;have y10:(bw=bv)=False:=eq_false n1.symm;have a1:=fun (S:St) (h:S.get bv=some (.cells cN 48 false 0 0))=>vU tk h (.sl jr 0 m none 1) rfl
   have a2:=fun (S:St) (h:S.get bw=some (.cells cF 72 false 0 0))=>vU tj h (.sl jc 0 m none 1) rfl
   simp only[go_sem,g8,acs,acu,Qe,ZD,ajj,ajB,Nat.reducePow,ajr,ajf,LC,zo,Q5,Tp,DU,DT,Un,VD,v2,v4,w2,w4,y1,y2,y3,y8,y9,y10,a1,a2];refine key _ _ (fun t ht=>?_) ?_ ?_ ?_ (fun j h1 h2 h3 h4=>?_) ?_ ?_ tk tj
   ·have Zv:=FK t ht;simp only[go_sem,Zv]
   ·simp only[go_sem]
   ·simp[go_sem,Q5,Tp,zo,v2,w2,ajf]
   ·simp[go_sem,Q5,Tp,zo,v2,w2,ajf]
   ·have e0:∀q,(s.next+q=j)=False:=fun q=>by simp;omega
    rw[Yu] at h3 h4;simp only[Z0,ZY,Z_,Z',ZV,ZH,ajf,Nat.reduceAdd,e0,eq_false h2.symm,eq_false h3,eq_false h4,if_false]
   ·simp only[Z_,Z',ZV];omega
   ·repeat first|exact fr|apply Fr.new|apply Fr.put|apply Fr.upto
    all_goals try simp only[Z_,Z',ZV]
    all_goals omega
theorem B8 (p:PN×AV)(E:List (PN×AV)):dK (p::E)=p.2::.int .i64 p.1.cur.1::.int .i64 p.1.cur.2.1::.int .i64 p.1.cur.2.2::.int .i64 p.1.last::dK E:=rfl
theorem B7:∀(E:List (PN×AV)) (i:Nat) (h:i<E.length),XE 5 (i*5) (dK E)=some (Wo E[i].1 E[i].2)
 |p::E,0,_=>by
  rw[B8,Nat.zero_mul];simp[Lr,Lq,Wo]
 |p::E,i+1,h=>by
  have:=B7 E i (by rw[ajk] at h;omega);rw[show (i+1)*5=i*5+5 by omega,B8];exact this
theorem acv {β:Type}{fin:Fl->β}{ks:List K}{Zu:β->Prop}{p:Prog}(hS:YN p.steps)(bD:p.steps.length<=8)(hL:(ZQ (p.steps.map Step.cond)).length<=2^20)(hl:1<=p.lines/\p.lines<=4)(hz:Wu p.steps (2^p.lines.toNat)<=512){bS m ob:Nat}{v lv sv pv:AV}{E0:List (PN×AV)}
  (pn:still lv=false){e:Env}{s:St}
  (py:∀s',(∀j,j<=m->s'.get j=s.get j)->m<s'.next->Yc U s' 40 (.agg [v,lv,sv])=some (.agg [.fz ((p.steps.map Step.cond).map Zt),.fz ((ZQ (p.steps.map Step.cond)).map Zt),.fz ((ZQ (p.steps.map Step.cond)).map XD)]))
  (gm:s.get m=some (.cells [v,lv,sv] 128 false 0 0))(gp:s.get 8=some (.cells [.int .i64 p.lines,ZG p.nl (Zr p.steps)] 25 false 0 0))(h8m:9<m)(hbS:bS<m)
  (g1:Env.get e 1=.ptr 8 0)(g2:Env.get e 2=.ptr 9 0)(g3:Env.get e 3=.ptr m 0)(g6:Env.get e 6=.ptr (m+3) 0)(g7:Env.get e 7=.fn (.func 132) [] [.ptr (m+2) 0,.ptr (m+3) 0])(g8:Env.get e 8=.ptr ob 0)(g9:Env.get e 9=.int .i64 (0:Nat))
  (Qe:s.get ob=some (.cells [.int .i64 p.lines,.ZM,.ZM] 42 false 0 0))(zo:m+4<=ob/\ob<s.next)(hN:P0 s bS (m+1) (m+2) (m+3) (m+4) [DS p.steps] E0 pv)(fr:Fr s)
  (hk:∀e' s' v w,Env.get e' 2=.ptr 9 0->Env.get e' 8=.ptr ob 0->s'.get ob=some (.cells [.int .i64 p.lines,v,w] 42 false 0 0)->(∀j,j<=m->s'.get j=s.get j)->s.next<=s'.next->Zx v=true->Zx w=true->v.cells=[v]->w.cells=[w] ->
   (∀x d,Yc U (s'.put 9 x) (d+3) v=some (ZG true ((S_ p.steps (2^p.lines.toNat)).map fun c=>AV.fz (ZA (Xq (YX p.steps) (S_ p.steps (2^p.lines.toNat)) (2^p.lines.toNat) c)))))->(∀x d,Yc U (s'.put 9 x) (d+3) w=some (ZG true ((S_ p.steps (2^p.lines.toNat)).map fun c=>AV.fz (ZB (Xf (YX p.steps) (2^p.lines.toNat) c)))))->Fr s'->Zu (goN U fin ks e' s')) :
  Zu (SC U fin (.bk 0::ks) JO e s):=by
 have Gk:2<=2^p.lines.toNat/\2^p.lines.toNat<=16:=by
  have:p.lines.toNat=1\/p.lines.toNat=2\/p.lines.toNat=3\/p.lines.toNat=4:=by omega
  rcases this with h|h|h|h <;> rw[h] <;> decide
 have SF:=Va U 3 true .i64 (n:=p.lines) (by omega);have jG:((2:Int)^p.lines.toNat)=((2^p.lines.toNat:Nat):Int):=by simp
 rw[jG] at SF;generalize hm:2^p.lines.toNat=m0 at *;obtain⟨hFA,hFn,_⟩:=RI hS m0;generalize hF:S_ p.steps m0=F at *;have jy:PZ (fun x y=>(YX p.steps x y).1) m0 (Wu p.steps m0+1) 0 [DS p.steps]=F:=hF;have hlen:=fun i L (h:Cw (fun x y=>(YX p.steps x y).1) m0 (Si p.steps m0) i L)=>h.len (n:=Wu p.steps m0) (κ:=tB p.steps m0) (fun x=>D2 hS) (fun x y=>Jd hS)
 have hn5:=hN.lt.2.2.2.2;refine YG (σ:=Nat) (fun i=>Wu p.steps m0-i) (fun i e' s'=>(∀t:Nat,t<9->Env.get e' t=Env.get e t)/\Env.get e' 9=.int .i64 (i:Nat)/\(∀j,j<=m->s'.get j=s.get j)/\s.next<=s'.next/\Fr s' /\
   ∃L' E' Gj v w cN cF,PZ (fun x y=>(YX p.steps x y).1) m0 (Wu p.steps m0+1-i) i L'=F/\Cw (fun x y=>(YX p.steps x y).1) m0 (Si p.steps m0) i L'/\P0 s' bS (m+1) (m+2) (m+3) (m+4) L' E' Gj/\s'.get ob=some (.cells [.int .i64 p.lines,v,w] 42 false 0 0)/\ZF s' s.next 48 1 i cN v/\ZF s' s.next 72 1 i cF w/\cN.length=i/\cF.length=i /\
    (∀j (h:j<F.length) (h':j<cN.length),TJ s' ob 3 cN[j] (ZA (Xq (YX p.steps) F m0 F[j])))/\(∀j (h:j<F.length) (h':j<cF.length),TJ s' ob 4 cF[j] (ZB (Xf (YX p.steps) m0 F[j])))) 0 ?_
  ⟨fun _ _=>rfl,g9,fun _ _=>rfl,ajg _,fr,[DS p.steps],E0,pv,.ZM,.ZM,[],[],jy,pI0 hS,hN,Qe,ZF.nil _ _ _ _,ZF.nil _ _ _ _,rfl,rfl,fun j _ h=>by simp at h,fun j _ h=>by simp at h⟩
 rintro Lp i e' s' ⟨hold,q9,hs,UL,UB,L',E',Gj,v1,w1,cN,cF,X',vS,zm,acw,hv,hw,tk,tj,hBN,hBF⟩ IH;have vR:=hlen i L' vS;have aiS:=vS.le;have q1:=(hold 1 (by omega)).trans g1;have q2:=(hold 2 (by omega)).trans g2;have q3:=(hold 3 (by omega)).trans g3;have q6:=(hold 6 (by omega)).trans g6;have q7:=(hold 7 (by omega)).trans g7;have q8:=(hold 8 (by omega)).trans g8;have uP:=(hs 8 (by omega)).trans gp;have uc:=zm.Wo;have vQ:=zm.row.len;rw[show Wu p.steps m0+1-i=(Wu p.steps m0-i)+1 by omega,PZ] at X';by_cases hd:i<L'.length
 ·have Qp:=ZE hd (by omega);have ti:=aaa hd;rw[ti] at X';simp only at X';obtain⟨i1,R1,hR1⟩:=vS.row (pIn hS) hd;have hcI:=vS.inv _ (ajc hd);have hEl:E'.length=L'.length:=by rw[<-zm.fst,aje]
  have hiE:i<E'.length:=by omega
  have hEi:E'[i].1=L'[i]:=by
   have h1:(E'.map (·.1))[i]? = some L'[i]:=by rw[zm.fst];exact ti
   rw[ajv,aaa hiE] at h1;exact Option.some.inj h1
  have gr:=B7 E' i hiE;have TA:=zm.vs E'[i] (ajc hiE);rw[hEi] at gr TA;generalize E'[i].2=V at *;generalize hc:L'[i]=c at *;obtain⟨L1,bC⟩:∃L1,Uz (fun y=>(YX p.steps c y).1) m0 0 L'=L1:=⟨_,rfl⟩;rw[bC] at X' i1 hR1;have aiT:=hlen _ _ i1;obtain⟨_,_,R2,hR2⟩:=QU (n:=Wu p.steps m0) (κ:=tB p.steps m0) (pIn hS) (fun x=>D2 hS) (fun x y=>Jd hS) (Wu p.steps m0-i) (i+1) L1 i1 (by omega);rw[X'] at hR2;have hFi:∀h:i<F.length,F[i]=c:=fun h=>by
   have e:F[i]? = some c:=by
    rw[hR2,hR1,ajQ,ajM (by omega)];exact ti
   rw[aaa h] at e;exact Option.some.inj e
  rcases zm.row with⟨h0,_⟩|⟨_,Tz,bp,hp5,hp6,hpv,dJ⟩
  ·omega
  have uc':=uc;rw[hpv] at uc' vQ;have gr':=gr;unfold Wo at gr';have f1:(s'.next=8)=False:=by have:=zm.lt;simp;omega
  have f2:(s'.next=m+3)=False:=by have:=zm.lt;simp;omega
  have f3:(s'.next=bp)=False:=by simp;omega
  have Ub:=TA.Zx;simp only[go_sem,JO,q1,q6,q9,uc',vQ,Z9,hd,dJ,gr',uP,SF,f1,f2,f3,Ub,IU,ajr];obtain⟨S,DR⟩:∃S,S=(s'.new (.cells [.ZM,.int .i64 0,.int .i64 0,.int .i64 0,.int .i64 0] 210 false 0 0)).put s'.next (.cells [V,.int .i64 c.cur.1,.int .i64 c.cur.2.1,.int .i64 c.cur.2.2,.int .i64 c.last] 210 false 0 0):=⟨_,rfl⟩;rw[<-DR];have tu:S.next=s'.next+1:=by rw[DR,Z_,Z']
  have kS:∀j,j<s'.next->S.get j=s'.get j:=fun j h1=>by rw[DR,Z0,if_neg (by omega),ZY,if_neg (by omega)]
  have gq:S.get s'.next=some (.cells (Wo c V) 210 false 0 0):=by rw[DR,Z0,if_pos rfl];rfl
  have iP:Fr S:=by rw[DR];exact (UB.new _).put (by rw[Z'];omega) _
  have YH:=zm.lt;refine acx (Zu:=Zu) hS bD hL Gk hz (bS:=bS) (m:=m) (q:=s'.next) (v:=v) (lv:=lv) (sv:=sv) (V:=V) (pv:=Gj) (L0:=L') (L1:=L1) (F:=F) (E0:=E') (x0:=c) (sm:=s) vS.inv hcI bC (by omega) ⟨_,hR2⟩ pn py gm gp (by omega) hbS (TA.keep fun x hx=>by rw[<-hs bS (by omega)];exact hx) ?_ ?_ ?_ ?_ ?_ ?_ ?_ ?_ (fun j hj=>(kS j (by omega)).trans (hs j hj)) gq (by omega) (by rw[hpv,DQ];omega) (zm.mono (by omega) kS) iP ?_
  case refine_9 =>
   intro e2 s2 qd E2 x1 x2 h2 Tp p11 B6 p12 bB Se qf hB2 IV;obtain⟨jr,rfl,hjr,jr1,jr2⟩:∃jr,x1=.sl jr 0 m0 none 1/\s2.get jr=some (.cells (ZA (Xq (YX p.steps) F m0 c)) 3 false 0 0)/\S.next<=jr/\jr<s2.next:=by
    rcases B6 with⟨h,_⟩|⟨_,_,j,h1,h2,h3,h4⟩
    ·omega
    ·exact⟨j,h3,h4,h1,h2⟩
   obtain⟨jc,rfl,hjc,jc1,jc2⟩:∃jc,x2=.sl jc 0 m0 none 1/\s2.get jc=some (.cells (ZB (Xf (YX p.steps) m0 c)) 4 false 0 0)/\S.next<=jc/\jc<s2.next:=by
    rcases bB with⟨h,_⟩|⟨_,_,j,h1,h2,h3,h4⟩
    ·omega
    ·exact⟨j,h3,h4,h1,h2⟩
   have E2':∀t:Nat,t<10->Env.get e2 t=Env.get e' t:=fun t ht=>by
    rw[h2 t (by omega)];have Zv:∀k:Nat,10<=k->(k=t)=False:=fun k hk=>by simp;omega
    simp only[go_sem,Zv]
   have k2:∀j,j<s'.next->j≠m+1->j≠m+3->j≠bp->s2.get j=s'.get j:=fun j h1 h3 h4 h5=>by
    rw[Se j (by omega) h3 h4 (by rw[hpv,DQ];omega),kS j h1]
   have kT:∀j cs t,j<s'.next->s'.get j=some (.cells cs t false 0 0)->t≠210->t≠208->s2.get j=some (.cells cs t false 0 0):=fun j cs t h1 h3 h4 h5=>by
    rw[k2 j h1 (fun e=>by have:=zm.map;rw[<-e,h3] at this;cases this) (fun e=>by rw[<-e,h3] at uc;cases uc;exact h5 rfl) (Wp h3 dJ h4)];exact h3
   have uo:=kT ob _ _ (by omega) acw (by decide) (by decide);have Cv:ZF s2 s.next 48 1 i cN v1:=hv.Ty (by omega) fun j c' h1 h2 h3=>kT j _ _ h2 h1 (by decide) (by decide)
   have Gx:ZF s2 s.next 72 1 i cF w1:=hw.Ty (by omega) fun j c' h1 h2 h3=>kT j _ _ h2 h1 (by decide) (by decide)
   simp only[go_sem];refine acr (Zu:=Zu) (i:=i) (ob:=ob) (N:=s.next) (by omega) ((E2' 8 (by omega)).trans q8) p11 p12 uo (by omega) (by omega) Cv Gx IV ?_;intro e3 s3 v' w' FM uo3 hv3 hw3 yQ iT tn;have E3:∀t:Nat,t<10->Env.get e3 t=Env.get e' t:=fun t ht=>(FM t (by omega)).trans (E2' t ht)
   have p9:=(E3 9 (by omega)).trans q9;simp only[go_sem,p9,Qp];have nv:∀j c t,s2.get j=some (.cells c t false 0 0)->t≠48->¬Xi v1 j:=fun j c t h1 h2 h3=>Wp h1 (Cv.M6 h3).2.2 h2 rfl
   have nw:∀j c t,s2.get j=some (.cells c t false 0 0)->t≠72->¬Xi w1 j:=fun j c t h1 h2 h3=>Wp h1 (Gx.M6 h3).2.2 h2 rfl
   have pr:∀j c t,j<s2.next->j≠ob->s2.get j=some (.cells c t false 0 0)->t≠48->t≠72->s3.get j=some (.cells c t false 0 0):=fun j c t h1 h2 h3 h4 h5=>by
    rw[yQ j h1 h2 (nv j c t h3 h4) (nw j c t h3 h5)];exact h3
   have low:∀j,j<m+4->s3.get j=s2.get j:=fun j hj=>yQ j (by omega) (by omega) (fun h=>by have:=(Cv.M6 h).1;omega) fun h=>by have:=(Gx.M6 h).1;omega
   have bj3:∀c l,TJ s2 ob 3 c l->TJ s3 ob 3 c l:=fun c l h=>h.mono iT fun k h1 h2 h3 h4=>⟨h2,pr k _ _ h1 h2 h4 (by decide) (by decide)⟩
   have bj4:∀c l,TJ s2 ob 4 c l->TJ s3 ob 4 c l:=fun c l h=>h.mono iT fun k h1 h2 h3 h4=>⟨h2,pr k _ _ h1 h2 h4 (by decide) (by decide)⟩
   have bm3:∀c l t,t≠210->t≠208->TJ s' ob t c l->TJ s2 ob t c l:=fun c l t a1 a2 h=>h.mono (by omega) fun k h1 h2 h3 h4=>⟨h2,kT k _ _ h1 h4 a1 a2⟩
   have bA:∀b cs,s2.get b=some (.cells cs 210 false 0 0)->b≠ob:=fun b cs h=>Wp h uo (by decide)
   obtain⟨n1,n2,n3,n4,n5⟩:=Tp.lt;have DU:P0 s3 bS (m+1) (m+2) (m+3) (m+4) L1 E2 qd :=
    ⟨Tp.fst,fun p hp=>(Tp.vs p hp).keep fun c hc=>by rw[low bS (by omega)];exact hc,by rw[low _ (by omega)];exact Tp.map,by rw[low _ (by omega)];exact Tp.B5,by rw[low _ (by omega)];exact Tp.Wo,by
     rcases Tp.row with⟨h0,h1,h2⟩|⟨h0,h1,b,h2,h3,h4,h5⟩
     ·exact .inl ⟨h0,h1,h2⟩
     ·exact .inr ⟨h0,h1,b,h2,by omega,h4,pr b _ _ h3 (bA b _ h5) h5 (by decide) (by decide)⟩,by omega⟩
   refine IH (i+1) _ _ (by omega) ⟨fun t ht=>?_,?_,fun j h1=>?_,by omega,tn,L1,E2,qd,v',w',cN++[.sl jr 0 m0 none 1],cF++[.sl jc 0 m0 none 1],?_,i1,DU,uo3,hv3,hw3,by simp[tk],by simp[tj],fun j h h'=>?_,fun j h h'=>?_⟩
   ·have Zv:∀k:Nat,9<=k->(k=t)=False:=fun k hk=>by simp;omega
    simp only[go_sem,Zv];exact (E3 t (by omega)).trans (hold t ht)
   ·simp only[go_sem]
   ·rw[low j (by omega),k2 j (by omega) (by omega) (by omega) (by omega),hs j h1]
   ·rw[show Wu p.steps m0+1-(i+1)=Wu p.steps m0-i by omega];exact X'
   ·by_cases hj:j<cN.length
    ·rw[aj9 hj];exact bj3 _ _ (bm3 _ _ _ (by decide) (by decide) (hBN j h hj))
    ·have hj:j=i:=by rw[ajh,ajR] at h';omega
     subst hj;rw[ake (by omega)];simp only[List.getElem_singleton];rw[hFi h];exact bj3 _ _ ⟨jr,none,by rw[U',yN],jr2,by omega,by omega,hjr⟩
   ·by_cases hj:j<cF.length
    ·rw[aj9 hj];exact bj4 _ _ (bm3 _ _ _ (by decide) (by decide) (hBF j h hj))
    ·have hj:j=i:=by rw[ajh,ajR] at h';omega
     subst hj;rw[ake (by omega)];simp only[List.getElem_singleton];rw[hFi h];exact bj4 _ _ ⟨jc,none,by rw[Wm,yM],jc2,by omega,by omega,hjc⟩
  all_goals simp only[go_sem,q1,q3,q7]
  all_goals rfl
 ·have hie:i=L'.length:=by omega
  rw[akb (by omega)] at X';simp only at X';have hFl:F.length=i:=by rw[<-X'];omega
  have hle:decide ((i:Int)<(L'.length:Int))=false:=by rw[Z9];simp;omega
  simp only[go_sem,JO,q6,q9,uc,vQ,hle];have kP:∀(x:Vr) j,j≠9->(s'.put 9 x).get j=s'.get j:=fun x j h=>by rw[Z0,if_neg h.symm]
  refine hk _ _ v1 w1 ?_ ?_ acw hs UL hv.Zx hw.Zx hv.cells hw.cells (fun x d=>?_) (fun x d=>?_) UB
  ·simp only[go_sem,q2]
  ·simp only[go_sem,q8]
  ·have k1:ZF (s'.put 9 x) s.next 48 1 cN.length cN v1:=by rw[tk];exact hv.Ty (by rw[Z_];omega) fun j c' h1 h2 h3=>by rw[kP x j (by omega)];exact h1
   have Ub:cN.all Zx=true:=by
    rw[ajq];intro x hx;obtain⟨j,hj,rfl⟩:=ajw.1 hx;obtain⟨_,_,e,_⟩:=hBN j (by omega) hj;rw[e];rfl
   exact k1.Sz U vP vO Ub (d:=d+2) (S9 (by omega) fun j h h'=>((hBN j h' h).mono (s':=s'.put 9 x) (b':=ob) (by rw[Z_];omega) fun k h1 h2 h3 h4=>⟨h2,by rw[kP x k (by omega)];exact h4⟩).Yc DP DO (VB _) (U_ _ _ _))
  ·have k1:ZF (s'.put 9 x) s.next 72 1 cF.length cF w1:=by rw[tj];exact hw.Ty (by rw[Z_];omega) fun j c' h1 h2 h3=>by rw[kP x j (by omega)];exact h1
   have Ub:cF.all Zx=true:=by
    rw[ajq];intro x hx;obtain⟨j,hj,rfl⟩:=ajw.1 hx;obtain⟨_,_,e,_⟩:=hBF j (by omega) hj;rw[e];rfl
   exact k1.Sz U vM vL Ub (d:=d+2) (S9 (by omega) fun j h h'=>((hBF j h' h).mono (s':=s'.put 9 x) (b':=ob) (by rw[Z_];omega) fun k h1 h2 h3 h4=>⟨h2,by rw[kP x k (by omega)];exact h4⟩).Yc tg tf (T4 _) (ON _ _ _))
theorem agn {p:Prog}(hS:YN p.steps)(bD:p.steps.length<=8)(hL:(ZQ (p.steps.map Step.cond)).length<=2^20)(hl:1<=p.lines/\p.lines<=4)(hz:Wu p.steps (2^p.lines.toNat)<=512):Zw U 64 [UU p]=some (VQ (PR p.lines (YX p.steps) (S_ p.steps (2^p.lines.toNat)))):=by
 refine ZI ag_ (by kernel_rfl) (by simp[ZO,XX]) ?_;have lF:=ZW p.nl (Zr p.steps);have Fm:=ZR p.nl (Zr p.steps);have h98:=c98 p (by omega);have jo:=hS.qh;have nD:p.steps.map Step.cond≠[]:=fun e=>by have:=hS.ne;rw[List.map_eq_nil_iff] at e;rw[e] at this;simp at this
 have AL:=CZ jo nD;have hlz:(ZQ (p.steps.map Step.cond)).length≠0:=fun e=>AL (ajI.1 e)
 have Gk:2<=2^p.lines.toNat/\2^p.lines.toNat<=16:=by
  have:p.lines.toNat=1\/p.lines.toNat=2\/p.lines.toNat=3\/p.lines.toNat=4:=by omega
  rcases this with h|h|h|h <;> rw[h] <;> decide
 have WY:=Ry hS (m:=2^p.lines.toNat);have je:=(Si.pb hS bD Gk hz hL ⟨_,WY.2,WY.1⟩).1;rw[WC nD] at h98;rw[kY,Yg] at *;simp only[go_sem,aee,lF,Fm,h98,acR];obtain⟨s0,hs0⟩:∃s0,s0=((Yl U).new (.cells [.int .i64 p.lines,ZG p.nl (Zr p.steps)] 25 false 0 0)).new (.cells [.int .i64 0,.ZM,.ZM] 42 false 0 0):=⟨_,rfl⟩;rw[<-hs0];have DL:s0.next=10:=by rw[hs0];simp only[go_sem]
 have h80:s0.get 8=some (.cells [.int .i64 p.lines,ZG p.nl (Zr p.steps)] 25 false 0 0):=by rw[hs0];simp only[go_sem]
 have h90:s0.get 9=some (.cells [.int .i64 0,.ZM,.ZM] 42 false 0 0):=by rw[hs0];simp only[go_sem]
 have fr0:Fr s0:=by rw[hs0];exact (Fr.own.new _).new _
 obtain⟨s1,lv,sv,st,e1,e2,e3,e4,R1,R2,R3⟩:=c92 s0 (.fz ((p.steps.map Step.cond).map Zt)) (p.steps.map Step.cond) jo (by rw[aje];omega) hL (ux _ _) fr0;rw[DL] at e3 e4 R1 R2 R3;rcases R3 with⟨h,_⟩|⟨_,_,bS,b1,b2,rfl,b3⟩
 ·exact absurd h hlz
 rw[e1];have dw:=R1.Zx;have ia:=R2.Zx;have hc8:=(e4 8 (by omega)).trans h80;have hc9:=(e4 9 (by omega)).trans h90;have cm:∀k,(AV.map k).cells=[AV.map k]:=fun _=>rfl
 have nm:∀k,Zx (AV.map k)=true:=fun _=>rfl
 simp only[go_sem,dw,ia,cm,nm];obtain⟨S,DR⟩:∃S,S=(((((s1.new (.cells [.ZM,.ZM,.ZM] 128 false 0 0)).put s1.next (.cells [.fz ((p.steps.map Step.cond).map Zt),lv,sv] 128 false 0 0)).new (.map [] false)).new (.cells [.QP] 207 false 0 0)).put (s1.next+1+1) (.cells [.map (s1.next+1)] 207 false 0 0)).new (.cells [.ZM] 208 false 0 0):=⟨_,rfl⟩;rw[<-DR];have tu:S.next=s1.next+4:=by rw[DR];simp only[Z_,Z']
 have kS:∀j,j<s1.next->S.get j=s1.get j:=fun j h1=>by rw[DR,ZY,Z_,Z',Z',Z_,Z',if_neg (by omega),Z0,if_neg (by omega),ZY,Z',Z_,Z',if_neg (by omega),ZY,Z_,Z',if_neg (by omega),Z0,if_neg (by omega),ZY,if_neg (by omega)]
 have k0:S.get s1.next=some (.cells [.fz ((p.steps.map Step.cond).map Zt),lv,sv] 128 false 0 0):=by rw[DR,ZY,Z_,Z',Z',Z_,Z',if_neg (by omega),Z0,if_neg (by omega),ZY,Z',Z_,Z',if_neg (by omega),ZY,Z_,Z',if_neg (by omega),Z0,if_pos rfl]
 have k1:S.get (s1.next+1)=some (.map [] false):=by rw[DR,ZY,Z_,Z',Z',Z_,Z',if_neg (by omega),Z0,if_neg (by omega),ZY,Z',Z_,Z',if_neg (by omega),ZY,Z_,Z',if_pos rfl]
 have k2:S.get (s1.next+2)=some (.cells [.map (s1.next+1)] 207 false 0 0):=by rw[DR,ZY,Z_,Z',Z',Z_,Z',if_neg (by omega),Z0,if_pos rfl]
 have k3:S.get (s1.next+3)=some (.cells [.ZM] 208 false 0 0):=by rw[DR,ZY,Z_,Z',Z',Z_,Z',if_pos rfl]
 have iP:Fr S:=by
  rw[DR]
  repeat first|exact e2|apply Fr.new|apply Fr.put|apply Fr.upto
  all_goals simp only[Z_,Z']
  all_goals omega
 have hNS:P0 S bS (s1.next+1) (s1.next+2) (s1.next+3) (s1.next+4) [] [] .ZM :=
  ⟨rfl,fun p hp=>by simp at hp,k1,k2,k3,ZF.nil _ _ _ _,by omega⟩
 have ae1:((ZQ (p.steps.map Step.cond)).map XI).length=(ZQ (p.steps.map Step.cond)).length:=aje _;obtain⟨s2,E2,qd,r1,r2,r3,r4,r5,r6,r7⟩:=ae2 hNS (fun x hx=>by simp at hx) (by simp) je (V:=.sl bS 0 (ZQ (p.steps.map Step.cond)).length none 1) (.inr ⟨by rw[show (DS p.steps).Za=(ZQ (p.steps.map Step.cond)).map XI from rfl,ae1],by rw[kS bS b2];exact b3⟩) iP;rw[XL] at r1;have qy:SX [] (DS p.steps)=[DS p.steps]:=by simp[SX]
 rw[qy] at r2;unfold Wo at r1;have z1:(((DS p.steps).cur.1:Nat):Int)=0:=rfl;have z2:(DS p.steps).cur.2.1=0:=rfl;have z3:(DS p.steps).cur.2.2=0:=rfl;have z4:(DS p.steps).last = -1:=rfl;rw[z1,z2,z3,z4] at r1;have kk:∀j,j<s1.next->s2.get j=s1.get j:=fun j h1=>by rw[r6 j (by omega) (by omega) (by omega) (by rintro⟨n,cap,h⟩;cases h),kS j h1]
 have m0:s2.get s1.next=some (.cells [.fz ((p.steps.map Step.cond).map Zt),lv,sv] 128 false 0 0):=by rw[r6 _ (by omega) (by omega) (by omega) (by rintro⟨n,cap,h⟩;cases h)];exact k0
 have ae3:=(kk 8 (by omega)).trans hc8;have f8:(s2.next=8)=False:=by simp;omega
 simp only[ajf,Nat.reduceAdd];rw[r1];simp only[go_sem,ae3,f8];obtain⟨T,hTd⟩:∃T,T=(s2.new (.cells [.int .i64 0,.ZM,.ZM] 42 false 0 0)).put s2.next (.cells [.int .i64 p.lines,.ZM,.ZM] 42 false 0 0):=⟨_,rfl⟩;rw[<-hTd];have hTn:T.next=s2.next+1:=by rw[hTd,Z_,Z']
 have kT:∀j,j<s2.next->T.get j=s2.get j:=fun j h1=>by rw[hTd,Z0,if_neg (by omega),ZY,if_neg (by omega)]
 have kTo:T.get s2.next=some (.cells [.int .i64 p.lines,.ZM,.ZM] 42 false 0 0):=by rw[hTd,Z0,if_pos rfl]
 have frT:Fr T:=by rw[hTd];exact (r3.new _).put (by rw[Z'];omega) _
 refine acv (Zu:=fun (o:Option AV)=>o=some (.agg [.int .i64 p.lines,ZG true ((S_ p.steps (2^p.lines.toNat)).map fun x=>AV.fz (ZA (Xq (YX p.steps) (S_ p.steps (2^p.lines.toNat)) (2^p.lines.toNat) x))),ZG true ((S_ p.steps (2^p.lines.toNat)).map fun x=>AV.fz (ZB (Xf (YX p.steps) (2^p.lines.toNat) x)))])) hS bD hL hl hz (bS:=bS) (m:=s1.next) (ob:=s2.next) (v:=.fz ((p.steps.map Step.cond).map Zt)) (lv:=lv) (sv:=sv) (pv:=qd) (E0:=E2) (R1.HF hlz) ?ae4 ((kT _ (by omega)).trans m0) ((kT 8 (by omega)).trans ae3) (by omega) b2 ?_ ?_ ?_ ?_ ?_ ?_ ?_ kTo (by omega) (r2.mono (by omega) kT) frT ?iM
 case ae4 =>
  intro s3 yQ iT;have K:∀{t:TypeId} {n k:Nat} {cs:List AV} {w:AV},ZF s1 12 t n k cs w->ZF s3 12 t n k cs w:=fun h=>h.mono (by omega) fun j _ hj=>by rw[yQ j (by omega),kT j (by omega),kk j hj]
  have f2:=(K R1).WK U IZ IY (by omega) RK (d:=38) (fun a=>P5 _ _ _);have f3:=(K R2);have f3:ZF s3 12 218 1 ((ZQ (p.steps.map Step.cond)).map XD).length ((ZQ (p.steps.map Step.cond)).map XD) sv:=by rw[aje];exact f3
  have f3:=f3.Sz U oK oJ (by rw[ajq];intro x hx;obtain⟨y,_,rfl⟩:=ajs.1 hx;exact So y) (d:=38) (Fg s3 35 _);rw[WK,Yf,HD,Yf,f2,Yf,f3,Us,WC AL,WC AL];rfl
 case iM =>
  intro e' s' v w p2 p8 u1 hs qf nav naw cv cw fv fw UB;have u9:s'.get 9=some (.cells [.int .i64 0,.ZM,.ZM] 42 false 0 0):=by rw[hs 9 (by omega),kT 9 (by omega),kk 9 (by omega)];exact hc9
  have fv':=fun x=>fv x 36
  have fw':=fun x=>fw x 36
  simp only[go_sem,p2,p8,u9,u1,nav,naw,fv',fw',cv,cw]
 all_goals simp only[go_sem]
 all_goals rfl
theorem sA:∀c:ZX,F8 c.norm=F8 c:=by
 intro c
 induction c using ZX.ind with
 |h k a b mi ma pat nl kids ih =>
 have hL:∀l:List ZX,(∀x∈l,x∈kids)->∀d,Oa (Wy l) d=Oa l d:=by
  intro l
  induction l with
  |nil=>intro _ d;rfl
  |cons c l Gf =>
   intro hm d;rw[Wy,Oa,Oa,ih c (hm c (aba ..)),Gf fun x hx=>hm x (aab _ hx)]
 rw[ZX.norm,F8,F8,hL kids fun _ h=>h];rfl
theorem Mj:∀(l:List Step) (n x:Int),WX (l.map Step.norm) n x=WX l n x
 |[],_,_=>rfl
 |s::l,n,x=>by
  rw[aju,WX,WX,Mj l];simp only[Step.norm,sA]
theorem Bl (p:Prog):Rt p.norm=Rt p:=by
 rw[Rt,Rt,Prog.norm];simp only[Mj]
def nA:YY:=⟨0,true,[],true,[]⟩
theorem u7:VQ nA=.agg [.int .i64 0,.ZM,.ZM]:=rfl
theorem oz (a:YY)(h:256<a.next.length):Zw U 62 [VQ a]=some (.XF [VQ nA,.int .i64 5]):=by
 refine ZI ac_ (by kernel_rfl) (by simp[ZO,Xp]) ?_;rw[WT a,u7];unfold U6 Xd;have nn:=ZW a.TN (a.next.map Zi);have nf:=ZW a.Tc (a.ZC.map Zq);have cn:=ZR a.TN (a.next.map Zi);have cf:=ZR a.Tc (a.ZC.map Zq);have ln:=ZJ a.TN (a.next.map Zi);rw[aje] at ln;have hd:decide ((a.next.length:Int)>256)=true:=by simp;omega
 simp only[go_sem,ae,nn,nf,cn,cf,ln,hd,VW]
def gV (p:Prog):Bool:=decide (p.lines>4)||decide (Rt p>65536)
def sy (S:List Step)(lines:Int):YY:=YW (PR lines (YX S) (S_ S (2^lines.toNat)))
theorem aac (p:Prog)(hf:p.fits)(h:xW p=0)(hb:gV p=false)(hL:(ZQ (p.steps.map Step.cond)).length<=2^20)(hz:Wu p.steps (2^p.lines.toNat)<=512) :
  Zw U 16 [UU p]=some (bif decide (256<(sy p.steps p.lines).next.length) then .XF [VQ nA,.int .i64 5] else .XF [VQ (sy p.steps p.lines),.int .i64 0]):=by
 refine ZI k40 (by kernel_rfl) (by simp[ZO,XX]) ?_;have h64:=c64 p hf;rw[h] at h64;have ok:=Mn ((Bk p).symm.trans h);have hS:=S4 ok;have h102:=agm p hf (by have:=ok.lines;omega) (fun s hs=>(Le p.lines s.cond 1 (ok.cond s hs)).1);unfold gV at hb;rw[ajJ] at hb;obtain⟨b1,b2⟩:=hb;have hl:1<=p.lines/\p.lines<=4:=⟨ok.lines.1,by have:=of_decide_eq_false b1;omega⟩;have h105:=agn hS ok.few hL hl hz;have Ya:=Dw hS hl hz;have h104:=ago Ya;have hm:YW (PR p.lines (YX p.steps) (S_ p.steps (2^p.lines.toNat)))=sy p.steps p.lines:=rfl;rw[hm] at h104;generalize sy p.steps p.lines=M at *;generalize PR p.lines (YX p.steps) (S_ p.steps (2^p.lines.toNat))=X at *;have nn:=ZW M.TN (M.next.map Zi);have nf:=ZW M.Tc (M.ZC.map Zq);have cn:=ZR M.TN (M.next.map Zi);have cf:=ZR M.Tc (M.ZC.map Zq)
 cases hd:decide (256<M.next.length) with
 |true =>
  have h103:=oz M (of_decide_eq_true hd);generalize VQ M=EM at *;generalize VQ X=EX at *;rw[Yg] at h64 h102 h105 ⊢;rw[u7] at *;simp only[go_sem,r40,h64,h102,h105,h104,h103,b1,b2,ZW,ZR]
 |false =>
  have h103:=agp M (by have:=of_decide_eq_false hd;omega);generalize VQ X=EX at *;rw[Yg] at h64 h102 h105 ⊢;rw[WT M] at *;unfold U6 Xd at *;simp only[go_sem,r40,h64,h102,h105,h104,h103,b1,b2,ZW,ZR,nn,nf,cn,cf,VW]
theorem Kn {n:Nat}:∀(l:List ZX),(∀c∈l,leaves c<=n)->Zs l<=l.length*n
 |[],_=>by simp[Zs]
 |c::l,h=>by
  have h1:=h c (aba ..);have h2:=Kn l fun x hx=>h x (aab _ hx)
  rw[Zs,ajk,Nat.succ_mul];omega
theorem mS {p:Prog}{n:Int}(hn:n<=12)(h:short p n=true):Zs (p.steps.map Step.cond)<=2^20/\(ZQ (p.steps.map Step.cond)).length<=2^20/\(ZQ (p.norm.steps.map Step.cond)).length<=2^20:=by
 obtain⟨Sq,Se⟩:=Im h;refine⟨?_,?_,?_⟩
 ·have:=Kn (n:=12) (p.steps.map Step.cond) fun c hc=>by
   obtain⟨s,CY,rfl⟩:=ajs.1 hc;have:=(Se s CY).2;omega
  rw[aje] at this;omega
 ·have:=HA (n:=12) (p.steps.map Step.cond) fun c hc=>by
   obtain⟨s,CY,rfl⟩:=ajs.1 hc;have h1:=Hv s.cond;have h2:=(Se s CY).2;omega
  rw[aje] at this;omega
 ·have:=HA (n:=12) (p.norm.steps.map Step.cond) fun c hc=>by
   obtain⟨s,CY,rfl⟩:=ajs.1 hc;rw[Prog.norm] at CY;obtain⟨y,hy,rfl⟩:=ajs.1 CY;have h1:=Hv y.cond.norm;rw[MP] at h1;have h2:=(Se y hy).2;show (Wd y.cond.norm).length<=12;omega
  rw[aje,show p.norm.steps.length=p.steps.length by rw[Prog.norm];simp] at this;omega
theorem mR {p:Prog}(hf:p.fits)(h:vC p=0)(hL:(ZQ (p.norm.steps.map Step.cond)).length<=2^20)(h3:p.lines<=3)(hz:Rt p<=400) :
  Zw U 16 [UU p.norm]=some (bif decide (256<(YW (PR p.lines (U7 p.steps) (PS p.steps (2^p.lines.toNat)))).next.length) then .XF [VQ nA,.int .i64 5] else .XF [VQ (YW (PR p.lines (U7 p.steps) (PS p.steps (2^p.lines.toNat)))),.int .i64 0]):=by
 have ok:=Mn h;have hS:=S4 ok;have hl:1<=p.lines/\p.lines<=4:=⟨ok.lines.1,by omega⟩;have hzN:=uy ok ok.wf hl.2 (n:=400) (ajg _) hz;have hcp:xW p.norm=0:=by rw[Bk,EF,h]
 have Tz:p.norm.lines=p.lines:=rfl;have cU:p.norm.steps=p.steps.map Step.norm:=rfl;have tu:=Dx hS;have hzn:Wu (p.steps.map Step.norm) (2^p.lines.toNat)<=512:=by rw[Ft];omega
 have hb:gV p.norm=false:=by
  unfold gV;rw[Bl,Tz,decide_eq_false (by omega),decide_eq_false (by omega)];rfl
 have q:=aac p.norm (HB hf) hcp hb hL (by rw[cU,Tz];exact hzn);have e:sy p.norm.steps p.norm.lines=YW (PR p.lines (U7 p.steps) (PS p.steps (2^p.lines.toNat))):=by
  unfold sy;rw[cU,Tz,<-IC tu hl hzn,IF,sV]
 rw[e] at q;exact q
theorem wA {L:Nat}(hL:L<=16){l:List Int}(h:DB L l):U0 (L:Nat) l=0:=by
 unfold U0;have h1:decide ((l.length:Int)>4096)=false:=by have:=h.1;exact decide_eq_false (by omega)
 have h2:Pj (L:Nat) l=false:=by
  rw[Pj,List.any_eq_false];intro x hx;have:=h.2 x hx;rw[ajD];simp[outside];omega
 rw[h1,h2,YU,YU]
section
variable {p:Prog}{A:YY}{L n:Nat}(hL:L=1\/L=2)(Tz:p.lines=(L:Nat))(hn:L*n<=6)(C:iF p A L)
include hL Tz hn C
theorem eu {ks:List K}{r:Option AV}{e:Env}{s:St}{tt:Nat}(ht:tt<=64)(H:oZ p A s)(h11:s.get 11=some (.map [] false))
  (g2:Env.get e 2=.ptr 8 0)(g5:Env.get e 5=.ptr 9 0)(g6:Env.get e 6=.ptr 10 0)(g8:Env.get e 8=.int .i64 (n:Nat))(Qo:Env.get e 10=.map 11)(DA:Env.get e 68=.int .i64 (tt:Nat))(Dz:Env.get e 69=.int .i64 0)
  (hk:∀e' s',goN U (Oe U [.tmp 4]) ks e' s'=r) :
  SC U (Oe U [.tmp 4]) (.bk 2::ks) LX e s=r:=by
 have hn6:n<=6:=by rcases hL with rfl|rfl <;> omega
 refine YG (σ:=Nat) (Zu:=fun (x:Option AV)=>x=r) (fun q=>tt-q) (fun q e s=>oZ p A s/\q<=tt/\Env.get e 2=.ptr 8 0/\Env.get e 5=.ptr 9 0/\Env.get e 6=.ptr 10 0/\Env.get e 8=.int .i64 (n:Nat)/\Env.get e 10=.map 11/\Env.get e 68=.int .i64 (tt:Nat)/\Env.get e 69=.int .i64 (q:Nat) /\
  ∃E:List ((Int×Int)×Int),s.get 11=some (.map (Qd E) false)/\MI (iC A.fa) E) 0 ?_ ⟨H,aji _,g2,g5,g6,g8,Qo,DA,Dz,[],h11,fun x hx=>(by cases hx)⟩
 clear g2 g5 g6 g8 Qo DA Dz h11 H e s;rintro Lp q e s ⟨H,hq,g2,g5,g6,g8,Qo,DA,Dz,E,h11,hE⟩ IH;by_cases hd:q<tt
 ·have hw:=ZE hd (by omega);simp only[go_sem,LX,g8,DA,Dz,Z9,hd];refine eC (A:=A) (n:=n) (q:=q) hL Tz hn (by omega) H (x6:=.ptr 10 0) (x8:=.int .i64 (n:Nat)) (x10:=.map 11) (x68:=.int .i64 (tt:Nat)) (x69:=.int .i64 (q:Nat)) ?_ ?_ ?_ ?_ ?_ ?_ ?_ ?_ ?_ ?_ ?_ ?_
  case refine_12 =>
   intro e' s' l v H' k11 hl aS hv k2 k5 k6 k8 zn dD k68 k69;have LA:DB L l:=⟨by omega,aS⟩;have q1:=C.q18 l s' 12 v LA hv;have q2:=C.aT l s' 12 v LA hv;have q3:=C.iE l s' 12 v LA hv;have hTl:=II A.fa l l.length 0 0;have q4:=dF true true (Yb A.fa l l.length 0 0).1 (Yb A.fa l l.length 0 0).1 (by omega);rw[NJ] at q4;have a8:=H'.g8;have a9:=H'.g9;have a10:=H'.Qo;have SF:=Va U 3 true .i64 (n:=p.lines) (by rw[Tz];rcases hL with rfl|rfl <;> omega);rw[show p.lines.toNat=L by rw[Tz];rfl] at SF;have h00:((0:Int) != 0)=false:=rfl;simp only[go_sem,ui,k2,k5,k6,k8,zn,dD,k68,k69,a8,a9,a10,q1,q2,q3,q4,h00,SF];refine iD hL Tz C H' (l:=l) (v:=v) (by omega) aS hv (E:=E) (k11.trans h11) hE (x6:=.ptr 10 0) (x8:=.int .i64 (n:Nat)) (x68:=.int .i64 (tt:Nat)) (x69:=.int .i64 (q:Nat)) ?_ ?_ ?_ ?_ ?_ ?_ ?_ ?_ ?_ ?_ ?_ ?_ ?_
   case refine_13 =>
    intro e2 s2 E2 H2 m11 hE2 m2 m5 m6 m8 m10 m68 m69;simp only[go_sem,m69,hw];refine IH (q+1) _ _ (by omega) ⟨H2,by omega,?_,?_,?_,?_,?_,?_,?_,E2,m11,hE2⟩ <;> simp only[go_sem,m2,m5,m6,m8,m10,m68,hw]
   all_goals simp only[go_sem,k2,k5,k6,k8,zn,dD,k68,k69]
   all_goals first|rfl|(push_cast;rfl)
  all_goals simp only[go_sem,g2,g5,g6,g8,Qo,DA,Dz]
  all_goals rfl
 ·have:q=tt:=by omega
  subst this;simp only[go_sem,LX,DA,Dz,Z9,ajp];exact hk _ _
end
end Go.Am
