/- A part of the proof of a statement of this seat: the machine on which the program is read, and what it computes; for every input. -/
import Derived.Test.YtikiipfbkfgmbaaGreatDoorZ35
import Derived.Test.YtikiipfbkfgmbaaGreatDoorZ36
import Derived.Test.YtikiipfbkfgmbaaGreatDoorZ12
set_option linter.all false
namespace Go.Am
open Go
variable [Z4]
set_option maxRecDepth 100000
set_option maxHeartbeats 8000000
theorem OR.B8 {s:St}{bS mm mb nb N:Nat}{L:List PN}{E:List (PN×AV)}{pv:AV}(h:OR s bS mm mb nb N L E pv){j:Nat}(hj:j<N):¬Sy 5 pv j:=by
 rintro⟨n,cap,rfl⟩;rcases h.row with⟨_,h,_⟩|⟨_,_,b,h1,h2,h3,_⟩
 ·cases h
 ·cases h3;omega
theorem OR.mono {s s':St}{bS mm mb nb N:Nat}{L:List PN}{E:List (PN×AV)}{pv:AV}(h:OR s bS mm mb nb N L E pv)(hn:s.next<=s'.next)(hg:∀j,j<s.next->s'.get j=s.get j):OR s' bS mm mb nb N L E pv:=by
 obtain⟨n1,n2,n3,n4,n5⟩:=h.lt;exact⟨h.fst,fun p hp=>(h.vs p hp).keep fun c hc=>by rw[hg _ (by omega)];exact hc,by rw[hg _ (by omega)];exact h.map,by rw[hg _ (by omega)];exact h.AJ,by rw[hg _ (by omega)];exact h.VZ,h.row.mono hn fun j _ h2=>hg j h2,by omega⟩
noncomputable def Fu:RC:=(sO [Zr 71 2 1,ZX 72 1 10,Zr 73 3 72,OD 74 16,MQ 75 99 71 73 74,OD 70 75,YO 76 70 0,YO 77 70 1,zP 17 0 0 0 167,YT 3 17 76,OD 18 77] (oP [OD 78 11,OD 79 7,OD 80 15,Zr 81 3 17,OD 82 13,o 83 (.On [.ZW,(iI 0),(iI 0),(iI 0),(iI 0)] [(0,1,(.t 80)),(1,3,(.t 81)),(4,1,(.t 82))]),DC 84 79 83,RQ 85 3 1 1 0 0 1 84,VT 86 3 1 8 78 85,OD 87 12,OD 88 18,o 89 (.U3 4 1 1 [bF] [(0,1,(.t 88))]),VT 90 4 1 1 87 89,OD 11 86,OD 12 90]))
theorem L3:Hu=(.seq (.ops [o 49 (.bin .lss 3 false (.t 48) (.t 47))]) (.seq (.cond (.t 49) .skip (.exit 2)) (.seq (.block 3 (.seq (.ops [o 50 (.O9 (.t 48)),o 13 (.O9 (.t 50))]) (.seq (.ops [o 51 (.O9 (.t 13)),o 52 (.fa 4 (.t 10)),o 53 (.SL (.t 52)),o 54 (.fa 4 (.t 10)),o 55 (.SL (.t 54)),o 56 (.bin .lss 3 true (.t 55) (.v (.int .i64 0))),o 57 (.On [(.int .i64 0),(.int .i64 0),(.bool false)] [(0,1,(.t 51)),(1,1,(.t 53)),(2,1,(.t 56))]),o 14 (.al [(.int .i64 0),(.int .i64 0),(.bool false)] 158),oS (.st 3 (.t 14) (.t 57))]) (.seq (.seq (.ops [o 58 (.fa 2 (.t 14)),o 59 (.SL (.t 58))]) (.cond (.t 59) (.ops [o 60 (.O9 (.t 13)),o 61 (.fa 1 (.t 14)),oS (.st 1 (.t 61) (.t 60))]) .skip)) (.seq (.ops [o 63 (.NQ 3 (.t 3)),o 64 (.fa 0 (.t 10)),o 65 (.SL (.t 64)),o 66 (.NQ 3 (.t 14)),o 67 (.call 93 [(.t 63),(.t 65),(.t 66)]),o 62 (.O9 (.t 67)),o 68 (.ext (.t 62) 0),o 69 (.ext (.t 62) 1),o 15 (.O9 (.t 68)),o 16 (.O9 (.t 69))]) Fu))))) (.ops [o 91 (.bin .add 3 true (.t 48) (.v (.int .i64 1))),o 48 (.O9 (.t 91))])))):=by
 unfold Hu Fu;rfl
theorem adi {β:Type}{fin:Fl->β}{ks:List K}{ZB:β->Prop}{lines:Int}{sp:AV}{bs:List Bool}{z x0:PN}{bz:Bool}{bS m q y B:Nat}{L':List PN}{E':List (PN×AV)}{PW w1 w2 V:AV}{a1:List Nat}{a2:List Bool}
  (oJ:ZE U 99 [.agg [.int .i64 lines,sp],.agg [.int .i64 x0.cur.1,.int .i64 x0.cur.2.1,.int .i64 x0.cur.2.2],ZG true (ZM bs)]=some (.XU [.agg [.int .i64 z.cur.1,.int .i64 z.cur.2.1,.int .i64 z.cur.2.2],.bool bz]))
  (hpz:PB z)(hzl:z.last=(y:Int))(hL:∀x∈L',PB x)(hlen:L'.length<=2^20)(hy:y<=65536)(h8m:8<m)
  {e:Env}{s:St}(g1:Env.get e 1=.ptr 8 0)(g7:Env.get e 7=.fn (.func 174) [] [.ptr (m+2) 0,.ptr (m+3) 0])(rb:Env.get e 10=.ptr q 0)(fk:Env.get e 11=w1)(Iw:Env.get e 12=w2)(Bl:Env.get e 13=.int .i64 (y:Nat))(vQ:Env.get e 15=.fz (ints z.Yy))(Il:Env.get e 16=ZG true (ZM bs))
  (u8:s.get 8=some (.cells [.int .i64 lines,sp] 25 false 0 0))(uq:s.get q=some (.cells (VZ x0 V) 254 false 0 0))(hq:q<s.next)(hN:OR s bS (m+1) (m+2) (m+3) (m+4) L' E' PW)(hw1:ZK s B 3 1 y (ZO a1) w1)(Mx:ZK s B 4 1 y (ZM a2) w2)(hB:m+4<=B/\B<=s.next)(fr:Fr s)
  (hk:∀e' s' E2 tO w1' w2',(∀t:Nat,t<50->t≠11->t≠12->t≠17->t≠18->Env.get e' t=Env.get e t)->OR s' bS (m+1) (m+2) (m+3) (m+4) (T5 L' z) E2 tO->Env.get e' 11=w1'->ZK s' B 3 1 (y+1) (ZO (a1++[XX L' z])) w1'->Env.get e' 12=w2'->ZK s' B 4 1 (y+1) (ZM (a2++[bz])) w2' ->
   (∀j,j<B->j≠m+1->j≠m+3->¬Sy 5 PW j->s'.get j=s.get j)->s.next<=s'.next->(∀j,Sy 5 tO j->Sy 5 PW j\/s.next<=j)->Fr s'->ZB (goN U fin ks e' s')) :
  ZB (go U fin ks Fu e s):=by
 have f1:(s.next=8)=False:=by have:=hN.lt;simp;omega
 unfold VZ at uq;obtain⟨S,Cw⟩:∃S,S=(s.new (.cells [.int .i64 0,.int .i64 0,.int .i64 0] 167 false 0 0)).put s.next (.cells [.int .i64 z.cur.1,.int .i64 z.cur.2.1,.int .i64 z.cur.2.2] 167 false 0 0):=⟨_,rfl⟩;have gi:S.next=s.next+1:=by rw[Cw,Z',Z_]
 have kS:∀j,j<s.next->S.get j=s.get j:=fun j h1=>by rw[Cw,Z9,if_neg (by omega),Z7,if_neg (by omega)]
 have AL:Fr S:=by rw[Cw];exact (fr.new _).put (by rw[Z_];omega) _
 have hNS:=hN.mono (s':=S) (by omega) kS;obtain⟨s2,E2,tO,r1,r2,r3,r4,r5,r6,r7⟩:=agx hNS hL hlen hpz (V:=.fz (ints z.Yy)) (.inl rfl) AL;rw[XI] at r1;unfold VZ at r1;rw[hzl] at r1;have aaz:ZK s2 B 3 1 y (ZO a1) w1:=hw1.XS (by omega) fun j c h1 h2 _=>r5 j _ _ _ _ (by rw[kS j h2];exact h1) (by omega) (by decide) (by decide)
 have aaA:ZK s2 B 4 1 y (ZM a2) w2:=Mx.XS (by omega) fun j c h1 h2 _=>r5 j _ _ _ _ (by rw[kS j h2];exact h1) (by omega) (by decide) (by decide)
 have Af:=aaz.Xj;have B_:=aaA.Xj;have UP:(y+1)*8<=1099511627776:=by omega
 have VP:y+1<=1099511627776:=by omega
 have Ba:(y+1)*1<=1099511627776:=by omega
 simp only[go_sem,Fu,g1,g7,rb,fk,Bl,vQ,Il,u8,uq,oJ];rw[<-Cw,r1];simp only[go_sem,ah1,ZH,Nat.reducePow,Af,UP,VP];have adM:ZK (s2.new (.cells [.int .i64 (XX L' z:Nat)] 3 false 0 0)) B 3 1 y (ZO a1) w1:=aaz.mono (by rw[Z_];omega) fun j _ h2=>by rw[Z7,if_neg (by omega)]
 obtain⟨s3,d1,d2,d3,d4,d5,d6⟩:=adM.wC (by rw[Z_];omega) (.int .i64 (XX L' z:Nat)) rfl;rw[d1];have adF:ZK s3 B 4 1 y (ZM a2) w2:=aaA.XS (by rw[d2,Z_];omega) fun j c h1 h2 _=>d4 j _ _ _ _ (by rw[Z7,if_neg (by omega)];exact h1) (by rw[Z_];omega) (by decide)
 have afZ:ZK (s3.new (.cells [.bool bz] 4 false 0 0)) B 4 1 y (ZM a2) w2:=adF.mono (by rw[Z_];omega) fun j _ h2=>by rw[Z7,if_neg (by omega)]
 rw[Z_] at d1 d2 d3;have af4:=adF.Xj;simp only[go_sem,Iw,ah1,ZH,Nat.reducePow,af4,VP];obtain⟨s4,c1,c2,c3,c4,c5,c6⟩:=afZ.wC (by rw[Z_];omega) (.bool bz) rfl;rw[c1];rw[Z_] at c1 c2 c3;simp only[go_sem];have k4:∀j c t,s2.get j=some (.cells c t false 0 0)->j<s2.next->t≠3->t≠4->s4.get j=some (.cells c t false 0 0):=fun j c t h1 h2 h3 h4=>c4 j c t 0 0 (by rw[Z7,if_neg (by omega)];exact d4 j c t 0 0 (by rw[Z7,if_neg (by omega)];exact h1) (by rw[Z_];omega) h3) (by rw[Z_];omega) h4
 have k5:∀j,j<B->s4.get j=s2.get j:=fun j h1=>by rw[c5 j h1,Z7,if_neg (by omega),d5 j h1,Z7,if_neg (by omega)]
 obtain⟨n1,n2,n3,n4,n5⟩:=r2.lt;have xg:OR s4 bS (m+1) (m+2) (m+3) (m+4) (T5 L' z) E2 tO :=
  ⟨r2.fst,fun p hp=>(r2.vs p hp).keep fun c hc=>by rw[k5 bS (by omega)];exact hc,by rw[k5 _ (by omega)];exact r2.map,by rw[k5 _ (by omega)];exact r2.AJ,by rw[k5 _ (by omega)];exact r2.VZ,by
   rcases r2.row with⟨h0,h1,h2⟩|⟨h0,h1,b,h2,h3,h4,h5⟩
   ·exact .inl ⟨h0,h1,h2⟩
   ·exact .inr ⟨h0,h1,b,h2,by omega,h4,k4 b _ _ h5 h3 (by decide) (by decide)⟩,by omega⟩
 have e1:ZO (a1++[XX L' z])=ZO a1++[.int .i64 (XX L' z:Nat)]:=by simp[ZO,ints,PV]
 have e2:ZM (a2++[bz])=ZM a2++[.bool bz]:=by simp[ZM]
 refine hk _ _ E2 tO _ _ (fun t h1 h2 h3 h4 h5=>?_) xg ?_ (e1 ▸ d3.XS (by rw[c2];omega) fun j c h1 h2 _=>c4 j _ _ 0 0 (by rw[Z7,if_neg (by omega)];exact h1) (by rw[Z_];omega) (by decide)) ?_ (e2 ▸ c3) (fun j h1 h2 h3 h4=>?_) (by omega) (fun j hj=>?_) (c6 ((d6 (r3.new _)).new _))
 ·have ZC:∀k:Nat,50<=k->(k=t)=False:=fun k hk=>by simp;omega
  have wR:(11=t)=False:=by simp;omega
  have xE:(12=t)=False:=by simp;omega
  have n17:(17=t)=False:=by simp;omega
  have n18:(18=t)=False:=by simp;omega
  simp only[go_sem,ZC,wR,xE,n17,n18]
 ·simp only[go_sem]
 ·simp only[go_sem]
 ·rw[k5 j h1,r6 j (by omega) h2 h3 h4,kS j (by omega)]
 ·rcases r7 j hj with h|h
  ·exact .inl h
  ·right;omega
theorem abo {β:Type}{fin:Fl->β}{ks:List K}{ZB:β->Prop}{p:Prog}(hS:Y0 p.steps)(Ha:p.steps.length<=8)(hL:(ZJ (p.steps.map Step.cond)).length<=2^20){m0:Nat}(hm:2<=m0/\m0<=16)(hz:Xl p.steps m0<=512){bS m q:Nat}{v lv sv V pv:AV}{L0 L1 F:List PN}{E0:List (PN×AV)}{x0:PN}{sm:St}
  (hI:∀x∈L0,QV p.steps m0 x)(Iv:QV p.steps m0 x0)(oh:Vh (fun y=>(YG p.steps x0 y).1) m0 0 L0=L1)(hL1:L1.length<=2^20)(hF:∃R,F=L1++R)(MZ:still lv=false)
  (ny:∀s',(∀j,j<=m->s'.get j=sm.get j)->m<s'.next->Yn U s' 40 (.agg [v,lv,sv])=some (.agg [.fz ((p.steps.map Step.cond).map Zw),.fz ((ZJ (p.steps.map Step.cond)).map Zw),.fz ((ZJ (p.steps.map Step.cond)).map WO)]))
  (gm:sm.get m=some (.cells [v,lv,sv] 152 false 0 0))(gp:sm.get 8=some (.cells [.int .i64 p.lines,ZG p.nl (Zx p.steps)] 25 false 0 0))(h8m:8<m)(hbS:bS<m)(hV:iu sm bS x0.Yy V)
  {e:Env}{s:St}(g1:Env.get e 1=.ptr 8 0)(g3:Env.get e 3=.ptr m 0)(g7:Env.get e 7=.fn (.func 174) [] [.ptr (m+2) 0,.ptr (m+3) 0])(rb:Env.get e 10=.ptr q 0)(fk:Env.get e 11=.ZW)(Iw:Env.get e 12=.ZW)(g47:Env.get e 47=.int .i64 (m0:Nat))(g48:Env.get e 48=.int .i64 (0:Nat))
  (old:∀j,j<=m->s.get j=sm.get j)(gq:s.get q=some (.cells (VZ x0 V) 254 false 0 0))(hq:m+4<=q/\q<s.next)(hqv:¬Sy 5 pv q)(hN:OR s bS (m+1) (m+2) (m+3) (m+4) L0 E0 pv)(fr:Fr s)
  (hk:∀e' s' PW E' w1 w2,(∀t:Nat,t<11->Env.get e' t=Env.get e t)->OR s' bS (m+1) (m+2) (m+3) (m+4) L1 E' PW->Env.get e' 11=w1->ZK s' s.next 3 1 m0 (ZO (YF (YG p.steps) F m0 x0)) w1->Env.get e' 12=w2->ZK s' s.next 4 1 m0 (ZM (YB (YG p.steps) m0 x0)) w2 ->
   (∀j,j<s.next->j≠m+1->j≠m+3->¬Sy 5 pv j->s'.get j=s.get j)->s.next<=s'.next->(∀j,Sy 5 PW j->Sy 5 pv j\/s.next<=j)->Fr s'->ZB (goN U fin ks e' s')) :
  ZB (SD U fin (.bk 2::ks) Hu e s):=by
 have fC:=fun x hx=>QV.pb hS Ha hm hz hL (x:=x) hx
 have hCw:=hS.rH;refine YP (σ:=Nat) (fun y=>m0-y) (fun y e' s'=>y<=m0/\(∀t:Nat,t<11->Env.get e' t=Env.get e t)/\Env.get e' 47=.int .i64 (m0:Nat)/\Env.get e' 48=.int .i64 (y:Nat)/\(∀j,j<s.next->j≠m+1->j≠m+3->¬Sy 5 pv j->s'.get j=s.get j)/\s.next<=s'.next/\Fr s' /\
   ∃L' E' PW w1 w2,OR s' bS (m+1) (m+2) (m+3) (m+4) L' E' PW/\Vh (fun y=>(YG p.steps x0 y).1) (m0-y) y L'=L1/\(∀z∈L',QV p.steps m0 z)/\(∀j,Sy 5 PW j->Sy 5 pv j\/s.next<=j)/\Env.get e' 11=w1/\ZK s' s.next 3 1 y (ZO (YF (YG p.steps) F y x0)) w1/\Env.get e' 12=w2/\ZK s' s.next 4 1 y (ZM (YB (YG p.steps) y x0)) w2) 0 ?_
  ⟨aic _,fun _ _=>rfl,g47,g48,fun _ _ _ _ _=>rfl,agB _,fr,L0,E0,pv,.ZW,.ZW,hN,by rw[Nat.sub_zero];exact oh,hI,fun j hj=>.inl hj,fk,ZK.nil _ _ _ _,Iw,ZK.nil _ _ _ _⟩
 rintro Lp y e' s' ⟨hy,hold,q47,q48,hs,Vl,Xx,L',E',PW,w1,w2,xK,YA,H',hB,tT,hw1,fK,Mx⟩ IH;have q1:=(hold 1 (by omega)).trans g1;have q3:=(hold 3 (by omega)).trans g3;have q7:=(hold 7 (by omega)).trans g7;have Cd:=(hold 10 (by omega)).trans rb;have bG:∀j,j<=m->s'.get j=sm.get j:=fun j hj=>(hs j (by have:=hN.lt;omega) (by omega) (by omega) (hN.B8 (by omega))).trans (old j hj)
 have uq:=(hs q hq.2 (by omega) (by omega) hqv).trans gq;have um:=(bG m (agB _)).trans gm;have up:=(bG 8 (by omega)).trans gp;by_cases hd:y<m0
 ·have Rm:=ZN hd (by omega);rw[show m0-y=(m0-(y+1))+1 by omega,Vh] at YA;obtain⟨eB,hsb,LP⟩:=fC x0 Iv;have Io:EY p.steps x0.cur:=(Iv.Zd hS).2.2.1;have Je:=(Iv.Zd hS).2.1;have hzI:=rY hS Iv hd;have hpz:=(fC _ hzI).1;have WE:∀S:St,(∀j,j<=m->S.get j=sm.get j)->m<S.next->X6 U (ZE U 93 [.agg [v,lv,sv],V,.agg [.int .i64 (y:Int),.int .i64 (Yv x0.last y),.bool (decide (x0.last<0))]]) 93 [.agg [v,lv,sv],V,.agg [.int .i64 (y:Int),.int .i64 (Yv x0.last y),.bool (decide (x0.last<0))]] S =
    some (.XU [.fz (ints (YG p.steps x0 y).1.Yy),ZG true (ZM (outs (p.steps.map Step.cond) (Xu (y:Int) (Yv x0.last y) (decide (x0.last<0)) (ZJ (p.steps.map Step.cond)) x0.Yy)))],S):=fun S h1 h2=>by
   rw[z93 (by simp[ZU,still,MZ])];have e1:=ny S h1 h2;have e2:=(hV.keep (s':=S) fun c hc=>by rw[h1 bS (by omega)];exact hc).Yn 38;have e3:Y' (Yn U S 40) [.agg [v,lv,sv],V,.agg [.int .i64 (y:Int),.int .i64 (Yv x0.last y),.bool (decide (x0.last<0))]] =
     some [.agg [.fz ((p.steps.map Step.cond).map Zw),.fz ((ZJ (p.steps.map Step.cond)).map Zw),.fz ((ZJ (p.steps.map Step.cond)).map WO)],.fz (ints x0.Yy),.agg [.int .i64 (y:Int),.int .i64 (Yv x0.last y),.bool (decide (x0.last<0))]]:=by
    rw[Xn,e1,Xn,e2,Xn,RF,Vi];rfl
   rw[e3];have hz:=aiL (p.steps.map Step.cond) x0.Yy (y:Int) (Yv x0.last y) (decide (x0.last<0)) hCw (by rw[agC];omega) hsb LP hL ⟨by omega,by omega⟩ (by unfold Yv;cases hc:decide (x0.last<0) with
    |true=>exact⟨by rw[cond_true];omega,by rw[cond_true];omega⟩
    |false=>have:=of_decide_eq_false hc;exact⟨by rw[cond_false];omega,by rw[cond_false];omega⟩) S
   rw[Yc] at hz;rw[hz];rfl
  have zL:=Io.a;have hkb:0<=x0.cur.2.1/\x0.cur.2.1<=2^40:=by
   have h1:=Io.k;rw[G3 zL] at h1;have:=hS.tm _ (adm zL);omega
  have hgb:0<=x0.cur.2.2/\x0.cur.2.2<=2^40:=by
   have h1:=Io.g;rw[D0 zL] at h1;have:=hS.wi _ (adm zL);omega
  have oJ:=c99 p (outs (p.steps.map Step.cond) (Xu (y:Int) (Yv x0.last y) (decide (x0.last<0)) (ZJ (p.steps.map Step.cond)) x0.Yy)) true x0.cur.1 x0.cur.2.1 x0.cur.2.2 Io.a (by rw[zu,agC]) (by omega) hkb hgb;rw[X9] at oJ;have hmv:(eS (Wn p.steps) (Tm p.steps) p.steps.length (JZ (outs (p.steps.map Step.cond) (Xu (y:Int) (Yv x0.last y) (decide (x0.last<0)) (ZJ (p.steps.map Step.cond)) x0.Yy))) x0.cur.1 x0.cur.2.1 x0.cur.2.2)=((YG p.steps x0 y).1.cur,(YG p.steps x0 y).2):=rfl;rw[hmv] at oJ;simp only[Ft] at oJ;have hzl:(YG p.steps x0 y).1.last=(y:Int):=rfl;have f1:∀k,(s'.next+k=8)=False:=fun k=>by simp;omega
  have f1':(s'.next=8)=False:=by simp;omega
  have f2:(s'.next=m)=False:=by simp;omega
  have f3:(s'.next=q)=False:=by simp;omega
  have QR:Yv x0.last y=bif decide (x0.last<0) then (y:Int) else x0.last:=rfl;unfold VZ at uq;have hLb:∀x∈L',PB x:=fun x hx=>(fC x (H' x hx)).1
  obtain⟨RL,eH⟩:=JU (fun y=>(YG p.steps x0 y).1) (m0-(y+1)) (y+1) (T5 L' (YG p.steps x0 y).1);have ad3:L'.length<=2^20:=by
   rw[YA] at eH;have h1:(T5 L' (YG p.steps x0 y).1).length<=L1.length:=by rw[eH,agy];omega
   obtain⟨R0,e0⟩:=Ll L' (YG p.steps x0 y).1;rw[e0,agy] at h1;omega
  have Aj:XX F (YG p.steps x0 y).1=XX L' (YG p.steps x0 y).1:=by
   obtain⟨R,hR⟩:=hF;rw[YA] at eH;rw[hR,eH,alS,GN _ _ _ (GM L' _)];by_cases Ue:(YG p.steps x0 y).1∈L'
   ·rw[T5,if_pos Ue]
   ·rw[T5,if_neg Ue,GL _ L' Ue,Lk _ L' Ue]
  have hrN:YF (YG p.steps) F y x0++[XX L' (YG p.steps x0 y).1]=YF (YG p.steps) F (y+1) x0:=by
   rw[<-Aj];unfold YF;rw[List.range_succ,alY];rfl
  have hrF:YB (YG p.steps) y x0++[(YG p.steps x0 y).2]=YB (YG p.steps) (y+1) x0:=by
   unfold YB;rw[List.range_succ,alY];rfl
  have npv:¬Sy 5 PW q:=fun h=>by
   rcases hB q h with h|h
   ·exact hqv h
   ·omega
  have tail:∀(ee:Env) (S:St),S.next=s'.next+1->(∀j,j<s'.next->S.get j=s'.get j)->Fr S->(∀t:Nat,t<11->Env.get ee t=Env.get e' t)->Env.get ee 11=w1->Env.get ee 12=w2->Env.get ee 13=.int .i64 (y:Nat)->Env.get ee 15=.fz (ints (YG p.steps x0 y).1.Yy)->Env.get ee 16=ZG true (ZM (outs (p.steps.map Step.cond) (Xu (y:Int) (Yv x0.last y) (decide (x0.last<0)) (ZJ (p.steps.map Step.cond)) x0.Yy)))->Env.get ee 47=.int .i64 (m0:Nat)->Env.get ee 48=.int .i64 (y:Nat) ->
    ZB (go U fin (.bk 3::.sq (.ops [o 91 (.bin .add 3 true (.t 48) (.v (.int .i64 1))),o 48 (.O9 (.t 91))])::.lp Lp::.bk 2::ks) Fu ee S):=by
   intro ee S h1 h2 h3 h4 h11 h12 h13 h15 h16 h47 h48;refine adi (ZB:=ZB) (bS:=bS) (m:=m) (q:=q) (y:=y) (B:=s.next) (x0:=x0) (V:=V) (w1:=w1) (w2:=w2) (L':=L') (E':=E') (PW:=PW) (a1:=YF (YG p.steps) F y x0) (a2:=YB (YG p.steps) y x0) oJ hpz hzl hLb ad3 (by omega) h8m ((h4 1 (by omega)).trans q1) ((h4 7 (by omega)).trans q7) ((h4 10 (by omega)).trans Cd) h11 h12 h13 h15 h16 ((h2 8 (by have:=xK.lt;omega)).trans up) ((h2 q (by omega)).trans uq) (by omega) (xK.mono (by omega) h2) (hw1.mono (by omega) fun j _ hj=>h2 j hj) (Mx.mono (by omega) fun j _ hj=>h2 j hj) (by have:=hN.lt;omega) h3 ?_;intro e2 s2 E2 tO w1' w2' g2 n2 k11 r1 k12 r2 kp kn kb O1;have j48:=(g2 48 (by omega) (by omega) (by omega) (by omega) (by omega)).trans h48;have j47:=(g2 47 (by omega) (by omega) (by omega) (by omega) (by omega)).trans h47;simp only[go_sem,j48,Rm];rw[hrN] at r1;rw[hrF] at r2;refine IH (y+1) _ _ (by omega) ⟨by omega,fun t ht=>?_,?_,?_,fun j a1 a2 a3 a4=>?_,by omega,O1,T5 L' (YG p.steps x0 y).1,E2,tO,w1',w2',n2,YA,fun z f_=>?_,fun j hj=>?_,?_,r1,?_,r2⟩
   ·have ZC:∀k:Nat,11<=k->(k=t)=False:=fun k hk=>by simp;omega
    simp only[go_sem,ZC];exact ((g2 t (by omega) (by omega) (by omega) (by omega) (by omega)).trans (h4 t ht)).trans (hold t ht)
   ·simp only[go_sem,j47]
   ·simp only[go_sem]
   ·rw[kp j a1 a2 a3 (fun h=>by
     rcases hB j h with h|h
     ·exact a4 h
     ·omega),h2 j (by omega),hs j a1 a2 a3 a4]
   ·rcases rX f_ with h|h
    ·exact H' z h
    ·rw[h];exact hzI
   ·rcases kb j hj with h|h
    ·exact hB j h
    ·right;omega
   ·simp only[go_sem,k11]
   ·simp only[go_sem,k12]
  have tz:∀t:Nat,t<11->∀k:Nat,11<=k->(k=t)=False:=fun t ht k hk=>by simp;omega
  have EV:=xK.lt
  cases hc:decide (x0.last<0) with
  |true =>
   rw[hc] at WE QR tail;rw[cond_true] at QR;rw[QR] at WE tail;simp only[go_sem,L3,q3,Cd,q47,q48,Z8,hd,uq,um,f2,f3,hc];rw[WE _ (fun j hj=>by rw[Z9,if_neg (by omega),Z9,if_neg (by omega),Z7,if_neg (by omega)];exact bG j hj) (by simp only[Z',Z_];omega)];simp only[go_sem];refine tail _ _ (by simp only[Z',Z_]) (fun j hj=>by rw[Z9,if_neg (by omega),Z9,if_neg (by omega),Z7,if_neg (by omega)]) (((Xx.new _).put (by rw[Z_];omega) _).put (by rw[Z',Z_];omega) _) (fun t ht=>?_) ?_ ?_ ?_ ?_ ?_ ?_ ?_
   ·have ZC:=tz t ht;simp only[go_sem,ZC]
   all_goals simp only[go_sem,tT,fK,q47,q48]
  |false =>
   rw[hc] at WE QR tail;rw[cond_false] at QR;rw[QR] at WE tail;simp only[go_sem,L3,q3,Cd,q47,q48,Z8,hd,uq,um,f2,f3,hc];rw[WE _ (fun j hj=>by rw[Z9,if_neg (by omega),Z7,if_neg (by omega)];exact bG j hj) (by simp only[Z',Z_];omega)];simp only[go_sem];refine tail _ _ (by simp only[Z',Z_]) (fun j hj=>by rw[Z9,if_neg (by omega),Z7,if_neg (by omega)]) ((Xx.new _).put (by rw[Z_];omega) _) (fun t ht=>?_) ?_ ?_ ?_ ?_ ?_ ?_ ?_
   ·have ZC:=tz t ht;simp only[go_sem,ZC]
   all_goals simp only[go_sem,tT,fK,q47,q48]
 ·have hye:y=m0:=by omega
  subst hye;rw[Nat.sub_self,Vh] at YA;subst YA;simp only[go_sem,L3,q47,q48,Z8,alh];refine hk _ _ PW E' w1 w2 (fun t ht=>?_) xK ?_ hw1 ?_ Mx hs Vl hB Xx
  ·have ZC:∀k:Nat,11<=k->(k=t)=False:=fun k hk=>by simp;omega
   simp only[go_sem,ZC];exact hold t ht
  ·simp only[go_sem,tT]
  ·simp only[go_sem,fK]
theorem adI {β:Type}{fin:Fl->β}{ks:List K}{ZB:β->Prop}{i ob N:Nat}{ln:Int}{cN cF:List AV}{v w:AV}{jr jc m:Nat}(hi9:i<=2^20)
  {e:Env}{s:St}(g8:Env.get e 8=.ptr ob 0)(adJ:Env.get e 11=.sl jr 0 m none 1)(adK:Env.get e 12=.sl jc 0 m none 1)(QD:s.get ob=some (.cells [.int .i64 ln,v,w] 69 false 0 0))(Bk:ob<s.next)(hN:N<=s.next)(hv:ZK s N 40 1 i cN v)(hw:ZK s N 43 1 i cF w)(fr:Fr s)
  (hk:∀e' s' v' w',(∀t:Nat,t<92->Env.get e' t=Env.get e t)->s'.get ob=some (.cells [.int .i64 ln,v',w'] 69 false 0 0)->ZK s' N 40 1 (i+1) (cN++[.sl jr 0 m none 1]) v'->ZK s' N 43 1 (i+1) (cF++[.sl jc 0 m none 1]) w' ->
   (∀j,j<s.next->j≠ob->¬Xb v j->¬Xb w j->s'.get j=s.get j)->s.next<=s'.next->Fr s'->ZB (goN U fin ks e' s')) :
  ZB (go U fin ks (.raw xi) e s):=by
 rw[Uc aaX];have Nc:=fr.at;have Ib:∀t:Nat,t<92->(∀k:Nat,92<=k->(k=t)=False):=fun t ht=>fun k hk=>by simp;omega
 have M0:∀j q,j<s.next->(j=s.next+q)=False:=fun j q hj=>by simp;omega
 have Kl:∀j q,j<s.next->(s.next+q=j)=False:=fun j q hj=>by simp;omega
 have xh:∀q,q≠0->(s.next+q=s.next)=False:=fun q hq=>by simp;omega
 have xg:∀q,q≠0->(s.next=s.next+q)=False:=fun q hq=>by simp;omega
 have UP:(i+1)*24<=1099511627776:=by omega
 have VP:i+1<=1099511627776:=by omega
 have key:∀(E:Env) (S:St),(∀t:Nat,t<92->Env.get E t=Env.get e t) ->
   S.get ob=some (.cells [.int .i64 ln,.sl (s.next+14) 0 (i+1) none 1,.sl (s.next+15) 0 (i+1) none 1] 69 false 0 0) ->
   S.get (s.next+14)=some (.cells (cN++[.sl jr 0 m none 1]) 40 false 0 0)->S.get (s.next+15)=some (.cells (cF++[.sl jc 0 m none 1]) 43 false 0 0) ->
   (∀j,j<s.next->j≠ob->¬Xb v j->¬Xb w j->S.get j=s.get j)->s.next+15<S.next->Fr S->cN.length=i->cF.length=i->ZB (goN U fin ks E S):=by
  intro E S k1 k2 k3 k4 k6 k7 k8 k9 nj;exact hk E S (.sl (s.next+14) 0 (i+1) none 1) (.sl (s.next+15) 0 (i+1) none 1) k1 k2 (.inr ⟨by omega,by simp[k9],s.next+14,by omega,by omega,rfl,k3⟩) (.inr ⟨by omega,by simp[nj],s.next+15,by omega,by omega,rfl,k4⟩) k6 (by omega) k8
 rcases hv with⟨i0,rfl,rfl⟩|⟨i0,Cz,bv,v1,v2,rfl,v4⟩
 ·rcases hw with⟨_,rfl,rfl⟩|⟨i1,_⟩
  ·subst i0;simp only[go_sem,g8,adJ,adK,QD,V_,ZH,ah1,amk,Nat.reducePow,ald,akc,Nc,Bk,Kl,xh,xg,UP,VP];refine key _ _ (fun t ht=>?_) ?_ ?_ ?_ (fun j h1 h2 _ _=>?_) ?_ ?_ rfl rfl
   ·have ZC:=Ib t ht;simp only[go_sem,ZC]
   ·simp only[go_sem,ald]
   ·simp[go_sem,M0,Bk,akc]
   ·simp[go_sem,M0,Bk,akc]
   ·have e0:∀q,(s.next+q=j)=False:=fun q=>by simp;omega
    simp only[Z9,Z7,Z',Z_,Z6,ZT,akc,Nat.reduceAdd,e0,eq_false h2.symm,if_false]
   ·simp only[Z',Z_,Z6];omega
   ·repeat first|exact fr|apply Fr.new|apply Fr.put|apply Fr.upto
    all_goals try simp only[Z',Z_,Z6]
    all_goals omega
  ·omega
 ·rcases hw with⟨i1,_⟩|⟨_,Cy,bw,w1,w2,rfl,w4⟩
  ·omega
  ·rw[ah1] at Cz Cy;have n1:=Ya v4 w4 (by decide);have n2:=Ya v4 QD (by decide);have n3:=Ya w4 QD (by decide);have y1:(bv=bw)=False:=eq_false n1;have y2:(bv=ob)=False:=eq_false n2;have y3:(bw=ob)=False:=eq_false n3;have y8:(ob=bv)=False:=eq_false n2.symm;have y9:(ob=bw)=False:=eq_false n3.symm;have y10:(bw=bv)=False:=eq_false n1.symm;have a1:=fun (S:St) (h:S.get bv=some (.cells cN 40 false 0 0))=>tP Cz h (.sl jr 0 m none 1) rfl
   have a2:=fun (S:St) (h:S.get bw=some (.cells cF 43 false 0 0))=>tP Cy h (.sl jc 0 m none 1) rfl
   simp only[go_sem,g8,adJ,adK,QD,ZH,ah1,Nat.reducePow,ald,akc,Nc,Bk,M0,Kl,xh,xg,UP,VP,v2,v4,w2,w4,y1,y2,y3,a1,a2];refine key _ _ (fun t ht=>?_) ?_ ?_ ?_ (fun j h1 h2 h3 h4=>?_) ?_ ?_ Cz Cy
   ·have ZC:=Ib t ht;simp only[go_sem,ZC]
   ·simp only[go_sem]
   ·simp[go_sem,M0,Bk,w2,akc]
   ·simp[go_sem,M0,Bk,akc]
   ·have e0:∀q,(s.next+q=j)=False:=fun q=>by simp;omega
    rw[Yl] at h3 h4;simp only[Z9,Z7,Z',Z_,Z6,ZT,akc,Nat.reduceAdd,e0,eq_false h2.symm,eq_false h3,eq_false h4,if_false]
   ·simp only[Z',Z_,Z6];omega
   ·repeat first|exact fr|apply Fr.new|apply Fr.put|apply Fr.upto
    all_goals try simp only[Z',Z_,Z6]
    all_goals omega
theorem AQ (p:PN×AV)(E:List (PN×AV)):aI (p::E)=p.2::.int .i64 p.1.cur.1::.int .i64 p.1.cur.2.1::.int .i64 p.1.cur.2.2::.int .i64 p.1.last::aI E:=rfl
theorem AP:∀(E:List (PN×AV)) (i:Nat) (h:i<E.length),XA 5 (i*5) (aI E)=some (VZ E[i].1 E[i].2)
 |p::E,0,_=>by
  rw[AQ,Nat.zero_mul];simp[Sr,Sq,VZ]
 |p::E,i+1,h=>by
  have:=AP E i (by rw[akd] at h;omega);rw[show (i+1)*5=i*5+5 by omega,AQ];exact this
theorem abl {β:Type}{fin:Fl->β}{ks:List K}{ZB:β->Prop}{p:Prog}(hS:Y0 p.steps)(Ha:p.steps.length<=8)(hL:(ZJ (p.steps.map Step.cond)).length<=2^20)(hl:1<=p.lines/\p.lines<=4)(hz:Xl p.steps (2^p.lines.toNat)<=512){bS m ob:Nat}{v lv sv pv:AV}{E0:List (PN×AV)}
  (MZ:still lv=false){e:Env}{s:St}
  (ny:∀s',(∀j,j<=m->s'.get j=s.get j)->m<s'.next->Yn U s' 40 (.agg [v,lv,sv])=some (.agg [.fz ((p.steps.map Step.cond).map Zw),.fz ((ZJ (p.steps.map Step.cond)).map Zw),.fz ((ZJ (p.steps.map Step.cond)).map WO)]))
  (gm:s.get m=some (.cells [v,lv,sv] 152 false 0 0))(gp:s.get 8=some (.cells [.int .i64 p.lines,ZG p.nl (Zx p.steps)] 25 false 0 0))(h8m:9<m)(hbS:bS<m)
  (g1:Env.get e 1=.ptr 8 0)(g2:Env.get e 2=.ptr 9 0)(g3:Env.get e 3=.ptr m 0)(g6:Env.get e 6=.ptr (m+3) 0)(g7:Env.get e 7=.fn (.func 174) [] [.ptr (m+2) 0,.ptr (m+3) 0])(g8:Env.get e 8=.ptr ob 0)(g9:Env.get e 9=.int .i64 (0:Nat))
  (QD:s.get ob=some (.cells [.int .i64 p.lines,.ZW,.ZW] 69 false 0 0))(Bk:m+4<=ob/\ob<s.next)(hN:OR s bS (m+1) (m+2) (m+3) (m+4) [AO p.steps] E0 pv)(fr:Fr s)
  (hk:∀e' s' v w,Env.get e' 2=.ptr 9 0->Env.get e' 8=.ptr ob 0->s'.get ob=some (.cells [.int .i64 p.lines,v,w] 69 false 0 0)->(∀j,j<=m->s'.get j=s.get j)->s.next<=s'.next->Zz v=true->Zz w=true->v.cells=[v]->w.cells=[w] ->
   (∀x d,Yn U (s'.put 9 x) (d+3) v=some (ZG true ((PL p.steps (2^p.lines.toNat)).map fun c=>AV.fz (ZO (YF (YG p.steps) (PL p.steps (2^p.lines.toNat)) (2^p.lines.toNat) c)))))->(∀x d,Yn U (s'.put 9 x) (d+3) w=some (ZG true ((PL p.steps (2^p.lines.toNat)).map fun c=>AV.fz (ZM (YB (YG p.steps) (2^p.lines.toNat) c)))))->Fr s'->ZB (goN U fin ks e' s')) :
  ZB (SD U fin (.bk 0::ks) Ia e s):=by
 have Nb:2<=2^p.lines.toNat/\2^p.lines.toNat<=16:=by
  have:p.lines.toNat=1\/p.lines.toNat=2\/p.lines.toNat=3\/p.lines.toNat=4:=by omega
  rcases this with h|h|h|h <;> rw[h] <;> decide
 have QC:=Tq U 3 true .i64 (n:=p.lines) (by omega);have ou:((2:Int)^p.lines.toNat)=((2^p.lines.toNat:Nat):Int):=by simp
 rw[ou] at QC;generalize hm:2^p.lines.toNat=m0 at *;obtain⟨hFA,hFn,_⟩:=Kb hS m0;generalize hF:PL p.steps m0=F at *;have oo:Rd (fun x y=>(YG p.steps x y).1) m0 (Xl p.steps m0+1) 0 [AO p.steps]=F:=hF;have hlen:=fun i L (h:Bj (fun x y=>(YG p.steps x y).1) m0 (QV p.steps m0) i L)=>h.len (n:=Xl p.steps m0) (κ:=rI p.steps m0) (fun x=>CL hS) (fun x y=>Hi hS)
 have hn5:=hN.lt.2.2.2.2;refine YP (σ:=Nat) (fun i=>Xl p.steps m0-i) (fun i e' s'=>(∀t:Nat,t<9->Env.get e' t=Env.get e t)/\Env.get e' 9=.int .i64 (i:Nat)/\(∀j,j<=m->s'.get j=s.get j)/\s.next<=s'.next/\Fr s' /\
   ∃L' E' PW v w cN cF,Rd (fun x y=>(YG p.steps x y).1) m0 (Xl p.steps m0+1-i) i L'=F/\Bj (fun x y=>(YG p.steps x y).1) m0 (QV p.steps m0) i L'/\OR s' bS (m+1) (m+2) (m+3) (m+4) L' E' PW/\s'.get ob=some (.cells [.int .i64 p.lines,v,w] 69 false 0 0)/\ZK s' s.next 40 1 i cN v/\ZK s' s.next 43 1 i cF w/\cN.length=i/\cF.length=i /\
    (∀j (h:j<F.length) (h':j<cN.length),UQ s' ob 3 cN[j] (ZO (YF (YG p.steps) F m0 F[j])))/\(∀j (h:j<F.length) (h':j<cF.length),UQ s' ob 4 cF[j] (ZM (YB (YG p.steps) m0 F[j])))) 0 ?_
  ⟨fun _ _=>rfl,g9,fun _ _=>rfl,agB _,fr,[AO p.steps],E0,pv,.ZW,.ZW,[],[],oo,pI0 hS,hN,QD,ZK.nil _ _ _ _,ZK.nil _ _ _ _,rfl,rfl,fun j _ h=>by simp at h,fun j _ h=>by simp at h⟩
 rintro Lp i e' s' ⟨hold,q9,hs,Vl,Xx,L',E',PW,v1,w1,cN,cF,YA,H',xK,rA,hv,hw,Cz,Cy,xe,xd⟩ IH;have Ee:=hlen i L' H';have ahB:=H'.le;have q1:=(hold 1 (by omega)).trans g1;have q2:=(hold 2 (by omega)).trans g2;have q3:=(hold 3 (by omega)).trans g3;have q6:=(hold 6 (by omega)).trans g6;have q7:=(hold 7 (by omega)).trans g7;have q8:=(hold 8 (by omega)).trans g8;have uP:=(hs 8 (by omega)).trans gp;have uc:=xK.VZ;have ot:=xK.row.len;rw[show Xl p.steps m0+1-i=(Xl p.steps m0-i)+1 by omega,Rd] at YA;by_cases hd:i<L'.length
 ·have Rm:=ZN hd (by omega);have Iv:=aaa hd;rw[Iv] at YA;simp only at YA;obtain⟨i1,R1,hR1⟩:=H'.row (pIn hS) hd;have hcI:=H'.inv _ (adm hd);have hEl:E'.length=L'.length:=by rw[<-xK.fst,agC]
  have ni:i<E'.length:=by omega
  have hEi:E'[i].1=L'[i]:=by
   have h1:(E'.map (·.1))[i]? = some L'[i]:=by rw[xK.fst];exact Iv
   rw[alV,aaa ni] at h1;exact Option.some.inj h1
  have gr:=AP E' i ni;have SI:=xK.vs E'[i] (adm ni);rw[hEi] at gr SI;generalize E'[i].2=V at *;generalize hc:L'[i]=c at *;obtain⟨L1,oh⟩:∃L1,Vh (fun y=>(YG p.steps c y).1) m0 0 L'=L1:=⟨_,rfl⟩;rw[oh] at YA i1 hR1;have ahC:=hlen _ _ i1;obtain⟨_,_,R2,kg⟩:=Sd (n:=Xl p.steps m0) (κ:=rI p.steps m0) (pIn hS) (fun x=>CL hS) (fun x y=>Hi hS) (Xl p.steps m0-i) (i+1) L1 i1 (by omega);rw[YA] at kg;have hFi:∀h:i<F.length,F[i]=c:=fun h=>by
   have e:F[i]? = some c:=by
    rw[kg,hR1,alS,al0 (by omega)];exact Iv
   rw[aaa h] at e;exact Option.some.inj e
  rcases xK.row with⟨h0,_⟩|⟨_,Mw,bp,aH,hp6,AN,G'⟩
  ·omega
  have uc':=uc;rw[AN] at uc' ot;have gr':=gr;unfold VZ at gr';have f1:(s'.next=8)=False:=by have:=xK.lt;simp;omega
  have f2:(s'.next=m+3)=False:=by have:=xK.lt;simp;omega
  have f3:(s'.next=bp)=False:=by simp;omega
  have Re:=SI.Zz;simp only[go_sem,Ia,q1,q6,q9,uc',ot,Z8,hd,G',gr',uP,QC,f1,Re,G_,ald];obtain⟨S,Cw⟩:∃S,S=(s'.new (.cells [.ZW,.int .i64 0,.int .i64 0,.int .i64 0,.int .i64 0] 254 false 0 0)).put s'.next (.cells [V,.int .i64 c.cur.1,.int .i64 c.cur.2.1,.int .i64 c.cur.2.2,.int .i64 c.last] 254 false 0 0):=⟨_,rfl⟩;rw[<-Cw];have gi:S.next=s'.next+1:=by rw[Cw,Z',Z_]
  have kS:∀j,j<s'.next->S.get j=s'.get j:=fun j h1=>by rw[Cw,Z9,if_neg (by omega),Z7,if_neg (by omega)]
  have gq:S.get s'.next=some (.cells (VZ c V) 254 false 0 0):=by rw[Cw,Z9,if_pos rfl];rfl
  have AL:Fr S:=by rw[Cw];exact (Xx.new _).put (by rw[Z_];omega) _
  have Yh:=xK.lt;refine abo (ZB:=ZB) hS Ha hL Nb hz (bS:=bS) (m:=m) (q:=s'.next) (v:=v) (lv:=lv) (sv:=sv) (V:=V) (pv:=PW) (L0:=L') (L1:=L1) (F:=F) (E0:=E') (x0:=c) (sm:=s) H'.inv hcI oh (by omega) ⟨_,kg⟩ MZ ny gm gp (by omega) hbS (SI.keep fun x hx=>by rw[<-hs bS (by omega)];exact hx) ?_ ?_ ?_ ?_ ?_ ?_ ?_ ?_ (fun j hj=>(kS j (by omega)).trans (hs j hj)) gq (by omega) (by rw[AN,Rc];omega) (xK.mono (by omega) kS) AL ?_
  case refine_9 =>
   intro e2 s2 tO E2 x1 x2 h2 Kl p11 AK p12 hr2 S4 rD hB2 O1;obtain⟨jr,rfl,hjr,jr1,jr2⟩:∃jr,x1=.sl jr 0 m0 none 1/\s2.get jr=some (.cells (ZO (YF (YG p.steps) F m0 c)) 3 false 0 0)/\S.next<=jr/\jr<s2.next:=by
    rcases AK with⟨h,_⟩|⟨_,_,j,h1,h2,h3,h4⟩
    ·omega
    ·exact⟨j,h3,h4,h1,h2⟩
   obtain⟨jc,rfl,hjc,jc1,jc2⟩:∃jc,x2=.sl jc 0 m0 none 1/\s2.get jc=some (.cells (ZM (YB (YG p.steps) m0 c)) 4 false 0 0)/\S.next<=jc/\jc<s2.next:=by
    rcases hr2 with⟨h,_⟩|⟨_,_,j,h1,h2,h3,h4⟩
    ·omega
    ·exact⟨j,h3,h4,h1,h2⟩
   have E2':∀t:Nat,t<10->Env.get e2 t=Env.get e' t:=fun t ht=>by
    rw[h2 t (by omega)];have ZC:∀k:Nat,10<=k->(k=t)=False:=fun k hk=>by simp;omega
    simp only[go_sem,ZC]
   have k2:∀j,j<s'.next->j≠m+1->j≠m+3->j≠bp->s2.get j=s'.get j:=fun j h1 h3 h4 h5=>by
    rw[S4 j (by omega) h3 h4 (by rw[AN,Rc];omega),kS j h1]
   have kT:∀j cs t,j<s'.next->s'.get j=some (.cells cs t false 0 0)->t≠254->t≠252->s2.get j=some (.cells cs t false 0 0):=fun j cs t h1 h3 h4 h5=>by
    rw[k2 j h1 (fun e=>by have:=xK.map;rw[<-e,h3] at this;cases this) (fun e=>by rw[<-e,h3] at uc;cases uc;exact h5 rfl) (Ya h3 G' h4)];exact h3
   have uo:=kT ob _ _ (by omega) rA (by decide) (by decide);have Mv:ZK s2 s.next 40 1 i cN v1:=hv.XS (by omega) fun j c' h1 h2 h3=>kT j _ _ h2 h1 (by decide) (by decide)
   have Mx:ZK s2 s.next 43 1 i cF w1:=hw.XS (by omega) fun j c' h1 h2 h3=>kT j _ _ h2 h1 (by decide) (by decide)
   simp only[go_sem];refine adI (ZB:=ZB) (i:=i) (ob:=ob) (N:=s.next) (by omega) ((E2' 8 (by omega)).trans q8) p11 p12 uo (by omega) (by omega) Mv Mx O1 ?_;intro e3 s3 v' w' Eg uo3 eX hw3 xm fg rC;have E3:∀t:Nat,t<10->Env.get e3 t=Env.get e' t:=fun t ht=>(Eg t (by omega)).trans (E2' t ht)
   have p9:=(E3 9 (by omega)).trans q9;simp only[go_sem,p9,Rm];have nv:∀j c t,s2.get j=some (.cells c t false 0 0)->t≠40->¬Xb v1 j:=fun j c t h1 h2 h3=>Ya h1 (Mv.LD h3).2.2 h2 rfl
   have nw:∀j c t,s2.get j=some (.cells c t false 0 0)->t≠43->¬Xb w1 j:=fun j c t h1 h2 h3=>Ya h1 (Mx.LD h3).2.2 h2 rfl
   have pr:∀j c t,j<s2.next->j≠ob->s2.get j=some (.cells c t false 0 0)->t≠40->t≠43->s3.get j=some (.cells c t false 0 0):=fun j c t h1 h2 h3 h4 h5=>by
    rw[xm j h1 h2 (nv j c t h3 h4) (nw j c t h3 h5)];exact h3
   have low:∀j,j<m+4->s3.get j=s2.get j:=fun j hj=>xm j (by omega) (by omega) (fun h=>by have:=(Mv.LD h).1;omega) fun h=>by have:=(Mx.LD h).1;omega
   have bj3:∀c l,UQ s2 ob 3 c l->UQ s3 ob 3 c l:=fun c l h=>h.mono fg fun k h1 h2 h3 h4=>⟨h2,pr k _ _ h1 h2 h4 (by decide) (by decide)⟩
   have bj4:∀c l,UQ s2 ob 4 c l->UQ s3 ob 4 c l:=fun c l h=>h.mono fg fun k h1 h2 h3 h4=>⟨h2,pr k _ _ h1 h2 h4 (by decide) (by decide)⟩
   have bm3:∀c l t,t≠254->t≠252->UQ s' ob t c l->UQ s2 ob t c l:=fun c l t a1 a2 h=>h.mono (by omega) fun k h1 h2 h3 h4=>⟨h2,kT k _ _ h1 h4 a1 a2⟩
   have aaY:∀b cs,s2.get b=some (.cells cs 254 false 0 0)->b≠ob:=fun b cs h=>Ya h uo (by decide)
   obtain⟨n1,n2,n3,n4,n5⟩:=Kl.lt;have xh:OR s3 bS (m+1) (m+2) (m+3) (m+4) L1 E2 tO :=
    ⟨Kl.fst,fun p hp=>(Kl.vs p hp).keep fun c hc=>by rw[low bS (by omega)];exact hc,by rw[low _ (by omega)];exact Kl.map,by rw[low _ (by omega)];exact Kl.AJ,by rw[low _ (by omega)];exact Kl.VZ,by
     rcases Kl.row with⟨h0,h1,h2⟩|⟨h0,h1,b,h2,h3,h4,h5⟩
     ·exact .inl ⟨h0,h1,h2⟩
     ·exact .inr ⟨h0,h1,b,h2,by omega,h4,pr b _ _ h3 (aaY b _ h5) h5 (by decide) (by decide)⟩,by omega⟩
   refine IH (i+1) _ _ (by omega) ⟨fun t ht=>?_,?_,fun j h1=>?_,by omega,rC,L1,E2,tO,v',w',cN++[.sl jr 0 m0 none 1],cF++[.sl jc 0 m0 none 1],?_,i1,xh,uo3,eX,hw3,by simp[Cz],by simp[Cy],fun j h h'=>?_,fun j h h'=>?_⟩
   ·have ZC:∀k:Nat,9<=k->(k=t)=False:=fun k hk=>by simp;omega
    simp only[go_sem,ZC];exact (E3 t (by omega)).trans (hold t ht)
   ·simp only[go_sem]
   ·rw[low j (by omega),k2 j (by omega) (by omega) (by omega) (by omega),hs j h1]
   ·rw[show Xl p.steps m0+1-(i+1)=Xl p.steps m0-i by omega];exact YA
   ·by_cases hj:j<cN.length
    ·rw[al2 hj];exact bj3 _ _ (bm3 _ _ _ (by decide) (by decide) (xe j h hj))
    ·have hj:j=i:=by rw[agy,alW] at h';omega
     subst hj;rw[al5 (by omega)];simp only[amC];rw[hFi h];exact bj3 _ _ ⟨jr,none,by rw[Ww,Sc],jr2,by omega,by omega,hjr⟩
   ·by_cases hj:j<cF.length
    ·rw[al2 hj];exact bj4 _ _ (bm3 _ _ _ (by decide) (by decide) (xd j h hj))
    ·have hj:j=i:=by rw[agy,alW] at h';omega
     subst hj;rw[al5 (by omega)];simp only[amC];rw[hFi h];exact bj4 _ _ ⟨jc,none,by rw[WX,Sb],jc2,by omega,by omega,hjc⟩
  all_goals simp only[go_sem,q1,q3,q7]
  all_goals rfl
 ·have xb:i=L'.length:=by omega
  rw[amm (by omega)] at YA;simp only at YA;have hFl:F.length=i:=by rw[<-YA];omega
  have hle:decide ((i:Int)<(L'.length:Int))=false:=by rw[Z8];simp;omega
  simp only[go_sem,Ia,q6,q9,uc,ot,hle];have kP:∀(x:Uy) j,j≠9->(s'.put 9 x).get j=s'.get j:=fun x j h=>by rw[Z9,if_neg h.symm]
  refine hk _ _ v1 w1 ?_ ?_ rA hs Vl hv.Zz hw.Zz hv.cells hw.cells (fun x d=>?_) (fun x d=>?_) Xx
  ·simp only[go_sem,q2]
  ·simp only[go_sem,q8]
  ·have k1:ZK (s'.put 9 x) s.next 40 1 cN.length cN v1:=by rw[Cz];exact hv.XS (by rw[Z'];omega) fun j c' h1 h2 h3=>by rw[kP x j (by omega)];exact h1
   have Re:cN.all Zz=true:=by
    rw[alK];intro x hx;obtain⟨j,hj,rfl⟩:=alP.1 hx;obtain⟨_,_,e,_⟩:=xe j (by omega) hj;rw[e];rfl
   exact k1.Ub U Ed Ec Re (d:=d+2) (Va (by omega) fun j h h'=>((xe j h' h).mono (s':=s'.put 9 x) (b':=ob) (by rw[Z'];omega) fun k h1 h2 h3 h4=>⟨h2,by rw[kP x k (by omega)];exact h4⟩).Yn Ka J' (XR _) (Ua _ _ _))
  ·have k1:ZK (s'.put 9 x) s.next 43 1 cF.length cF w1:=by rw[Cy];exact hw.XS (by rw[Z'];omega) fun j c' h1 h2 h3=>by rw[kP x j (by omega)];exact h1
   have Re:cF.all Zz=true:=by
    rw[alK];intro x hx;obtain⟨j,hj,rfl⟩:=alP.1 hx;obtain⟨_,_,e,_⟩:=xd j (by omega) hj;rw[e];rfl
   exact k1.Ub U Eb Ea Re (d:=d+2) (Va (by omega) fun j h h'=>((xd j h' h).mono (s':=s'.put 9 x) (b':=ob) (by rw[Z'];omega) fun k h1 h2 h3 h4=>⟨h2,by rw[kP x k (by omega)];exact h4⟩).Yn AI AH (U' _) (Sp _ _ _))
theorem adL {p:Prog}(hS:Y0 p.steps)(Ha:p.steps.length<=8)(hL:(ZJ (p.steps.map Step.cond)).length<=2^20)(hl:1<=p.lines/\p.lines<=4)(hz:Xl p.steps (2^p.lines.toNat)<=512):ZE U 105 [Vw p]=some (Wd (Kk p.lines (YG p.steps) (PL p.steps (2^p.lines.toNat)))):=by
 refine ZR ajn (by kernel_rfl) (by simp[ZU,X']) ?_;have bL:=ZL p.nl (Zx p.steps);have MT:=Zu p.nl (Zx p.steps);have h98:=c98 p (by omega);have hCw:=hS.rH;have abp:p.steps.map Step.cond≠[]:=fun e=>by have:=hS.ne;rw[List.map_eq_nil_iff] at e;rw[e] at this;simp at this
 have abk:=sB hCw abp;have hlz:(ZJ (p.steps.map Step.cond)).length≠0:=fun e=>abk (al6.1 e)
 have Nb:2<=2^p.lines.toNat/\2^p.lines.toNat<=16:=by
  have:p.lines.toNat=1\/p.lines.toNat=2\/p.lines.toNat=3\/p.lines.toNat=4:=by omega
  rcases this with h|h|h|h <;> rw[h] <;> decide
 have Xz:=Sn hS (m:=2^p.lines.toNat);have fC:=(QV.pb hS Ha Nb hz hL ⟨_,Xz.2,Xz.1⟩).1;rw[QM abp] at h98;rw[yp,X9] at *;simp only[go_sem,afA,h98,ahY];obtain⟨s0,fH⟩:∃s0,s0=((X8 U).new (.cells [.int .i64 p.lines,ZG p.nl (Zx p.steps)] 25 false 0 0)).new (.cells [.int .i64 0,.ZW,.ZW] 69 false 0 0):=⟨_,rfl⟩;rw[<-fH];have EO:s0.next=10:=by rw[fH];simp only[go_sem]
 have h80:s0.get 8=some (.cells [.int .i64 p.lines,ZG p.nl (Zx p.steps)] 25 false 0 0):=by rw[fH];simp only[go_sem]
 have h90:s0.get 9=some (.cells [.int .i64 0,.ZW,.ZW] 69 false 0 0):=by rw[fH];simp only[go_sem]
 have fr0:Fr s0:=by rw[fH];exact (Fr.own.new _).new _
 obtain⟨s1,lv,sv,st,e1,e2,e3,e4,R1,R2,R3⟩:=c92 s0 (.fz ((p.steps.map Step.cond).map Zw)) (p.steps.map Step.cond) hCw (by rw[agC];omega) hL (dU _ _) fr0;rw[EO] at e3 e4 R1 R2 R3;rcases R3 with⟨h,_⟩|⟨_,_,bS,b1,b2,rfl,b3⟩
 ·exact absurd h hlz
 rw[e1];have na1:=R1.Zz;have na2:=R2.Zz;have hc8:=(e4 8 (by omega)).trans h80;have hc9:=(e4 9 (by omega)).trans h90;have cm:∀k,(AV.map k).cells=[AV.map k]:=fun _=>rfl
 have nm:∀k,Zz (AV.map k)=true:=fun _=>rfl
 simp only[go_sem,na1,na2,cm,nm];obtain⟨S,Cw⟩:∃S,S=(((((s1.new (.cells [.ZW,.ZW,.ZW] 152 false 0 0)).put s1.next (.cells [.fz ((p.steps.map Step.cond).map Zw),lv,sv] 152 false 0 0)).new (.map [] false)).new (.cells [.PG] 251 false 0 0)).put (s1.next+1+1) (.cells [.map (s1.next+1)] 251 false 0 0)).new (.cells [.ZW] 252 false 0 0):=⟨_,rfl⟩;rw[<-Cw];have gi:S.next=s1.next+4:=by rw[Cw];simp only[Z',Z_]
 have kS:∀j,j<s1.next->S.get j=s1.get j:=fun j h1=>by rw[Cw,Z7,Z',Z_,Z_,Z',Z_,if_neg (by omega),Z9,if_neg (by omega),Z7,Z_,Z',Z_,if_neg (by omega),Z7,Z',Z_,if_neg (by omega),Z9,if_neg (by omega),Z7,if_neg (by omega)]
 have k0:S.get s1.next=some (.cells [.fz ((p.steps.map Step.cond).map Zw),lv,sv] 152 false 0 0):=by rw[Cw,Z7,Z',Z_,Z_,Z',Z_,if_neg (by omega),Z9,if_neg (by omega),Z7,Z_,Z',Z_,if_neg (by omega),Z7,Z',Z_,if_neg (by omega),Z9,if_pos rfl]
 have k1:S.get (s1.next+1)=some (.map [] false):=by rw[Cw,Z7,Z',Z_,Z_,Z',Z_,if_neg (by omega),Z9,if_neg (by omega),Z7,Z_,Z',Z_,if_neg (by omega),Z7,Z',Z_,if_pos rfl]
 have k2:S.get (s1.next+2)=some (.cells [.map (s1.next+1)] 251 false 0 0):=by rw[Cw,Z7,Z',Z_,Z_,Z',Z_,if_neg (by omega),Z9,if_pos rfl]
 have k3:S.get (s1.next+3)=some (.cells [.ZW] 252 false 0 0):=by rw[Cw,Z7,Z',Z_,Z_,Z',Z_,if_pos rfl]
 have AL:Fr S:=by
  rw[Cw]
  repeat first|exact e2|apply Fr.new|apply Fr.put|apply Fr.upto
  all_goals simp only[Z',Z_]
  all_goals omega
 have hNS:OR S bS (s1.next+1) (s1.next+2) (s1.next+3) (s1.next+4) [] [] .ZW :=
  ⟨rfl,fun p hp=>by simp at hp,k1,k2,k3,ZK.nil _ _ _ _,by omega⟩
 have abq:((ZJ (p.steps.map Step.cond)).map VW).length=(ZJ (p.steps.map Step.cond)).length:=agC _;obtain⟨s2,E2,tO,r1,r2,r3,r4,r5,r6,r7⟩:=agx hNS (fun x hx=>by simp at hx) (by simp) fC (V:=.sl bS 0 (ZJ (p.steps.map Step.cond)).length none 1) (.inr ⟨by rw[show (AO p.steps).Yy=(ZJ (p.steps.map Step.cond)).map VW from rfl,abq],by rw[kS bS b2];exact b3⟩) AL;rw[XI] at r1;have oN:T5 [] (AO p.steps)=[AO p.steps]:=by simp[T5]
 rw[oN] at r2;unfold VZ at r1;have z1:(((AO p.steps).cur.1:Nat):Int)=0:=rfl;have z2:(AO p.steps).cur.2.1=0:=rfl;have z3:(AO p.steps).cur.2.2=0:=rfl;have z4:(AO p.steps).last = -1:=rfl;rw[z1,z2,z3,z4] at r1;have kk:∀j,j<s1.next->s2.get j=s1.get j:=fun j h1=>by rw[r6 j (by omega) (by omega) (by omega) (by rintro⟨n,cap,h⟩;cases h),kS j h1]
 have m0:s2.get s1.next=some (.cells [.fz ((p.steps.map Step.cond).map Zw),lv,sv] 152 false 0 0):=by rw[r6 _ (by omega) (by omega) (by omega) (by rintro⟨n,cap,h⟩;cases h)];exact k0
 have acS:=(kk 8 (by omega)).trans hc8;have f8:(s2.next=8)=False:=by simp;omega
 simp only[akc,Nat.reduceAdd];rw[r1];simp only[go_sem,acS];obtain⟨T,hTd⟩:∃T,T=(s2.new (.cells [.int .i64 0,.ZW,.ZW] 69 false 0 0)).put s2.next (.cells [.int .i64 p.lines,.ZW,.ZW] 69 false 0 0):=⟨_,rfl⟩;rw[<-hTd];have hTn:T.next=s2.next+1:=by rw[hTd,Z',Z_]
 have kT:∀j,j<s2.next->T.get j=s2.get j:=fun j h1=>by rw[hTd,Z9,if_neg (by omega),Z7,if_neg (by omega)]
 have kTo:T.get s2.next=some (.cells [.int .i64 p.lines,.ZW,.ZW] 69 false 0 0):=by rw[hTd,Z9,if_pos rfl]
 have frT:Fr T:=by rw[hTd];exact (r3.new _).put (by rw[Z_];omega) _
 refine abl (ZB:=fun (o:Option AV)=>o=some (.agg [.int .i64 p.lines,ZG true ((PL p.steps (2^p.lines.toNat)).map fun x=>AV.fz (ZO (YF (YG p.steps) (PL p.steps (2^p.lines.toNat)) (2^p.lines.toNat) x))),ZG true ((PL p.steps (2^p.lines.toNat)).map fun x=>AV.fz (ZM (YB (YG p.steps) (2^p.lines.toNat) x)))])) hS Ha hL hl hz (bS:=bS) (m:=s1.next) (ob:=s2.next) (v:=.fz ((p.steps.map Step.cond).map Zw)) (lv:=lv) (sv:=sv) (pv:=tO) (E0:=E2) (R1.kQ hlz) ?acU ((kT _ (by omega)).trans m0) ((kT 8 (by omega)).trans acS) (by omega) b2 ?_ ?_ ?_ ?_ ?_ ?_ ?_ kTo (by omega) (r2.mono (by omega) kT) frT ?mV
 case acU =>
  intro s3 xm fg;have K:∀{t:TypeId} {n k:Nat} {cs:List AV} {w:AV},ZK s1 12 t n k cs w->ZK s3 12 t n k cs w:=fun h=>h.mono (by omega) fun j _ hj=>by rw[xm j (by omega),kT j (by omega),kk j hj]
  have f2:=(K R1).Vi U Ej Ei (by omega) OS (d:=38) (fun a=>LG _ _ _);have f3:=(K R2);have f3:ZK s3 12 234 1 ((ZJ (p.steps.map Step.cond)).map WO).length ((ZJ (p.steps.map Step.cond)).map WO) sv:=by rw[agC];exact f3
  have f3:=f3.Ub U abd abe (by rw[alK];intro x hx;obtain⟨y,_,rfl⟩:=alN.1 hx;exact IP y) (d:=38) (qT s3 35 _);rw[Vi,Xn,Bz,Xn,f2,Xn,f3,RF,QM abk,QM abk];rfl
 case mV =>
  intro e' s' v w p2 p8 u1 hs rD nav naw cv cw fv fw Xx;have u9:s'.get 9=some (.cells [.int .i64 0,.ZW,.ZW] 69 false 0 0):=by rw[hs 9 (by omega),kT 9 (by omega),kk 9 (by omega)];exact hc9
  have fv':=fun x=>fv x 36
  have fw':=fun x=>fw x 36
  simp only[go_sem,p2,p8,u9,u1,nav,naw,fv',fw']
 all_goals simp only[go_sem]
 all_goals rfl
theorem qK:∀c:Z5,EC c.norm=EC c:=by
 intro c
 induction c using Z5.ind with
 |h k a b mi ma pat nl kids ih =>
 have hL:∀l:List Z5,(∀x∈l,x∈kids)->∀d,M8 (Wj l) d=M8 l d:=by
  intro l
  induction l with
  |nil=>intro _ d;rfl
  |cons c l EJ =>
   intro hm d;rw[Wj,M8,M8,ih c (hm c (aba ..)),EJ fun x hx=>hm x (aab _ hx)]
 rw[Z5.norm,EC,EC,hL kids fun _ h=>h];rfl
theorem K6:∀(l:List Step) (n x:Int),WL (l.map Step.norm) n x=WL l n x
 |[],_,_=>rfl
 |s::l,n,x=>by
  rw[alT,WL,WL,K6 l];simp only[Step.norm,qK]
theorem I9 (p:Prog):Qp p.norm=Qp p:=by
 rw[Qp,Qp,Prog.norm];simp only[K6]
def nA:Yi:=⟨0,true,[],true,[]⟩
theorem Q7:Wd nA=.agg [.int .i64 0,.ZW,.ZW]:=rfl
theorem l9 (a:Yi)(h:256<a.next.length):ZE U 103 [Wd a]=some (.XU [Wd nA,.int .i64 5]):=by
 refine ZR ael (by kernel_rfl) (by simp[ZU,VJ]) ?_;rw[WJ a,Q7];unfold SV Vy;have nn:=ZL a.TH (a.next.map Zn);have nf:=ZL a.S6 (a.ZD.map Zv);have cn:=Zu a.TH (a.next.map Zn);have cf:=Zu a.S6 (a.ZD.map Zv);have ln:=ZI a.TH (a.next.map Zn);rw[agC] at ln;have hd:decide ((a.next.length:Int)>256)=true:=by simp;omega
 simp only[go_sem,abn,ln,hd]
def Ey (p:Prog):Bool:=decide (p.lines>4)||decide (Qp p>65536)
def qJ (S:List Step)(lines:Int):Yi:=Zl (Kk lines (YG S) (PL S (2^lines.toNat)))
theorem eo (p:Prog)(hf:p.fits)(h:lZ p=0)(hb:Ey p=true):ZE U 40 [Vw p]=some (.XU [Wd nA,.int .i64 22]):=by
 refine ZR k40 (by kernel_rfl) (by simp[ZU,X']) ?_;have h64:=c64 p hf;rw[h] at h64;have ok:=s9 ((s8 p).symm.trans h);have h102:=aem p hf (by have:=ok.lines;omega) (fun s hs=>(ND p.lines s.cond 1 (ok.cond s hs)).1);unfold Ey at hb;rw[X9] at h64 h102 ⊢;rw[Q7]
 cases h4:decide (p.lines>4) with
 |true =>
  simp only[go_sem,r40,h64,h4]
 |false =>
  rw[h4,amf] at hb;simp only[go_sem,r40,h64,h102,h4,hb]
theorem aa3 (p:Prog)(hf:p.fits)(h:lZ p=0)(hb:Ey p=false)(hL:(ZJ (p.steps.map Step.cond)).length<=2^20)(hz:Xl p.steps (2^p.lines.toNat)<=512) :
  ZE U 40 [Vw p]=some (bif decide (256<(qJ p.steps p.lines).next.length) then .XU [Wd nA,.int .i64 5] else .XU [Wd (qJ p.steps p.lines),.int .i64 0]):=by
 refine ZR k40 (by kernel_rfl) (by simp[ZU,X']) ?_;have h64:=c64 p hf;rw[h] at h64;have ok:=s9 ((s8 p).symm.trans h);have hS:=Mp ok;have h102:=aem p hf (by have:=ok.lines;omega) (fun s hs=>(ND p.lines s.cond 1 (ok.cond s hs)).1);unfold Ey at hb;rw[ame] at hb;obtain⟨b1,b2⟩:=hb;have hl:1<=p.lines/\p.lines<=4:=⟨ok.lines.1,by have:=of_decide_eq_false b1;omega⟩;have h105:=adL hS ok.few hL hl hz;have X5:=eM hS hl hz;have h104:=aid X5;have hm:Zl (Kk p.lines (YG p.steps) (PL p.steps (2^p.lines.toNat)))=qJ p.steps p.lines:=rfl;rw[hm] at h104;generalize qJ p.steps p.lines=M at *;generalize Kk p.lines (YG p.steps) (PL p.steps (2^p.lines.toNat))=X at *;have nn:=ZL M.TH (M.next.map Zn);have nf:=ZL M.S6 (M.ZD.map Zv);have cn:=Zu M.TH (M.next.map Zn);have cf:=Zu M.S6 (M.ZD.map Zv)
 cases hd:decide (256<M.next.length) with
 |true =>
  have h103:=l9 M (of_decide_eq_true hd);generalize Wd M=EM at *;generalize Wd X=EX at *;rw[X9] at h64 h102 h105 ⊢;rw[Q7] at *;simp only[go_sem,r40,h64,h102,h105,h104,h103,b1,b2]
 |false =>
  have h103:=aie M (by have:=of_decide_eq_false hd;omega);generalize Wd X=EX at *;rw[X9] at h64 h102 h105 ⊢;rw[WJ M] at *;unfold SV Vy at *;simp only[go_sem,r40,h64,h102,h105,h104,h103,b1,b2,nn,nf,UL]
theorem c39 (p:Prog)(hf:p.fits)(hl:0<=p.lines/\p.lines<=16)(n:Int):ZE U 39 [Vw p,.int .i64 n]=some (.bool (decide (p.lines<=3)&&decide (Ae p<=n))):=by
 refine ZR k39 (by kernel_rfl) (by simp[ZU,X',still]) ?_;have h38:=c38 p hf hl;rw[X9] at h38 ⊢
 cases h3:decide (p.lines<=3) with
 |true=>simp only[go_sem,r39,h38,h3,al9]
 |false=>simp only[go_sem,r39,h3,amq]
theorem IN {n:Nat}:∀(l:List Z5),(∀c∈l,leaves c<=n)->ZS l<=l.length*n
 |[],_=>by simp[ZS]
 |c::l,h=>by
  have h1:=h c (aba ..);have h2:=IN l fun x hx=>h x (aab _ hx)
  rw[ZS,akd,Nat.succ_mul];omega
theorem ka {p:Prog}{n:Int}(hn:n<=12)(h:short p n=true):ZS (p.steps.map Step.cond)<=2^20/\(ZJ (p.steps.map Step.cond)).length<=2^20/\(ZJ (p.norm.steps.map Step.cond)).length<=2^20:=by
 obtain⟨QK,S4⟩:=Gz h;refine⟨?_,?_,?_⟩
 ·have:=IN (n:=12) (p.steps.map Step.cond) fun c hc=>by
   obtain⟨s,BN,rfl⟩:=alN.1 hc;have:=(S4 s BN).2;omega
  rw[agC] at this;omega
 ·have:=F7 (n:=12) (p.steps.map Step.cond) fun c hc=>by
   obtain⟨s,BN,rfl⟩:=alN.1 hc;have h1:=F0 s.cond;have h2:=(S4 s BN).2;omega
  rw[agC] at this;omega
 ·have:=F7 (n:=12) (p.norm.steps.map Step.cond) fun c hc=>by
   obtain⟨s,BN,rfl⟩:=alN.1 hc;rw[Prog.norm] at BN;obtain⟨y,hy,rfl⟩:=alN.1 BN;have h1:=F0 y.cond.norm;rw[Lq] at h1;have h2:=(S4 y hy).2;show (Ve y.cond.norm).length<=12;omega
  rw[agC,show p.norm.steps.length=p.steps.length by rw[Prog.norm];simp] at this;omega
theorem j_ {p:Prog}(hf:p.fits)(h:At p=0)(hL:(ZJ (p.norm.steps.map Step.cond)).length<=2^20)(h3:p.lines<=3)(hz:Qp p<=400) :
  ZE U 40 [Vw p.norm]=some (bif decide (256<(Zl (Kk p.lines (Y_ p.steps) (UH p.steps (2^p.lines.toNat)))).next.length) then .XU [Wd nA,.int .i64 5] else .XU [Wd (Zl (Kk p.lines (Y_ p.steps) (UH p.steps (2^p.lines.toNat)))),.int .i64 0]):=by
 have ok:=s9 h;have hS:=Mp ok;have hl:1<=p.lines/\p.lines<=4:=⟨ok.lines.1,by omega⟩;have hzN:=sC ok ok.wf hl.2 (n:=400) (agB _) hz;have FC:lZ p.norm=0:=by rw[s8,Ds,h]
 have Mw:p.norm.lines=p.lines:=rfl;have l8:p.norm.steps=p.steps.map Step.norm:=rfl;have gi:=Ck hS;have hzn:Xl (p.steps.map Step.norm) (2^p.lines.toNat)<=512:=by rw[DX];omega
 have hb:Ey p.norm=false:=by
  unfold Ey;rw[I9,Mw,decide_eq_false (by omega),decide_eq_false (by omega)];rfl
 have q:=aa3 p.norm (F8 hf) FC hb hL (by rw[l8,Mw];exact hzn);have e:qJ p.norm.steps p.norm.lines=Zl (Kk p.lines (Y_ p.steps) (UH p.steps (2^p.lines.toNat))):=by
  unfold qJ;rw[l8,Mw,<-mG gi hl hzn,G0,rf]
 rw[e] at q;exact q
end Go.Am
