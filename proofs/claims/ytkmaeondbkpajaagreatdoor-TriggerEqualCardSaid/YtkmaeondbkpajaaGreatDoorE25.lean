/- A part of the proof. -/
import Derived.Test.YtkmaeondbkpajaaGreatDoorE19
import Derived.Test.YtkmaeondbkpajaaGreatDoorE24
set_option linter.all false
set_option maxHeartbeats 8000000
set_option maxRecDepth 100000
namespace Go.Am
open Go
variable [Z8]
def Cb (l:List Int)(i:Nat):∀L:List Z0,(∀c∈L,c.wf/\(Zs c.kind).leaf=true)->XZ (XG l (i:Int)) (VU l (i:Int)) ((i:Int)==0) L (L.map λc=>tI l c i)=L.map (atR l i) /\
  XS (XG l (i:Int)) (VU l (i:Int)) ((i:Int)==0) L (L.map λc=>tI l c i)=L.map λc=>tI l c (i+1)
 |[],_=>⟨rfl,rfl⟩
 |c::L,h=>by
  obtain⟨h1,h2⟩:=h c (aba ..);obtain⟨e1,e2⟩:=Cb l i L λx hx=>h x (aab _ hx)
  have hl:=CD l c h1 h2 i;simp only[aqe,XZ,XS,hl,e1,e2];exact⟨by first|rfl|trivial,by first|rfl|trivial⟩
def pS:∀c:Z0,c.wf->c.norm.wf:=by
 intro c
 induction c using Z0.ind with
 |h k a b mi ma p nl kids ih =>
 intro h;rw[Z0.wf] at h;obtain⟨h1,h2,h3,h4,h5,h6,h7,h8,h9,h10,h11,h12,h13⟩:=h;rw[Z0.norm,Z0.wf,OZ,RZ];refine⟨h1,h2,h3,h4,h5,h6,h7,h8,λq=>by rw[h9 q];rfl,λq=>by simpa using h10 q,h11,h12,λx hx=>?_⟩;obtain⟨y,hy,rfl⟩:=ap0.1 hx;exact ih y hy (h13 y hy)
def Bl (l:List Int)(t:Nat):∀kids:List Z0,(∀x∈kids,atR l t x.norm=atR l t x)->Mj l t (VM kids)=Mj l t kids/\lg l t (VM kids)=lg l t kids
 |[],_=>by rw[VM];exact⟨rfl,rfl⟩
 |c::k,h=>by
  have ih:=Bl l t k λx hx=>h x (aab _ hx)
  rw[VM,Mj,Mj,lg,lg,h c (aba ..),ih.1];exact⟨rfl,rfl⟩
def yz (l:List Int)(t:Nat):∀c:Z0,atR l t c.norm=atR l t c:=by
 intro c
 induction c using Z0.ind with
 |h k a b mi ma p nl kids ih =>
 obtain⟨e1,e2⟩:=Bl l t kids ih;rw[Z0.norm,atR,atR,e1,e2,OZ]
def r5:RC:=(sO [YL 2 31 0,Zf 4] (sQ (sO [Od 9 8,WU 10 9,om 11 10,S6 12 11 2 2,KR 13 11 22 12 12,US 14 11 13,YO 15 11 14,om 16 15,XI 17 16 1,KR 18 16 22 17 60,US 19 16 18,YO 20 16 19] (cT 20 (sO [Od 21 8,om 4 21] .ret))) (sO [Zw 23 2 2,Zk 24 25 23,om 25 1,YU 26 18 24 25,om 22 26,YN 27 22 0,YN 28 22 1,om 5 27,om 6 28] (sO [Zw 29 2 2,Zk 30 23 29,om 7 30] (sQ (sO [om 31 7,Wq 32 3 31 0] (cT 32 (oP [ZO 33 0 2,ZX 34 33,om 35 1,YU 36 31 34 35,om 7 36]))) (sO [XF 8] (sQ (sO [om 37 7,Wq 38 3 37 0] (cT 38 (oP [Zw 39 2 2,om 40 1,YU 41 35 39 40,om 8 41]))) (sO [om 42 5,om 43 6,om 44 7,om 45 8,Nx 46 36 42 43 44 45,om 4 46] .ret))))))))
def Aj:RC:=(sO [Y_ 39 3 38 37] (sQ (cS 39 (.exit 0)) (sQ (.block 1 (sO [om 40 38,Zq 41 1 36 38,ZX 42 41,om 12 40,om 13 42] (sQ (.Uu 18 [Zw 44 3 8,om 45 9,om 46 13,om 47 1,om 48 12,Wy 49 3 48 1,o 50 (.raw (.call { callee:=.builtin .max,args:=#[(.const (.int .i64 0)),(.tmp 49)],argTypes:=#[3,3] })),Zq 51 1 47 50,ZX 52 51,om 53 12,Wq 54 3 53 0,o 55 (.RR [(iI 0),(iI 0),bF] [(0,1,(.t 46)),(1,1,(.t 52)),(2,1,(.t 54))]),Og 56 69 44 45 55,om 43 56,YN 57 43 0,YN 58 43 1,om 14 57,om 15 58]) (sO [Zw 60 2 2,Zw 61 3 11,om 62 15,Og 63 70 60 61 62,om 59 63,YN 64 59 0,YN 65 59 1,wV 16 0 0 0 133,YC 3 16 64,om 17 65] (sQ (.Uu 4 [om 66 14,Zw 67 3 16,om 9 66,⟨none,none,none,true,.st 3 (.t 11) (.t 67)⟩]) (sO [om 68 17] (cT 68 (oP [om 69 10,om 70 12,PE 71 3 1 1 0 0 1 70,VN 72 3 1 8 69 71,om 10 72])))))))) (oP [YM 73 3 38 1,om 38 73]))))
def r32:RC:=(sO [YL 2 25 0,XF 4,ZA 5 0] (sQ (sO [Zw 18 2 2,Zk 19 47 18,om 6 19] (sO [om 20 6,Vp 21 26 20 0] (cT 21 (sO [om 22 6,XF 4,om 5 22] .ret)))) (sQ (sO [ZO 23 0 2,ZX 24 23,om 25 1,YU 26 66 24 25,om 7 26] (sO [om 27 7,Vp 28 26 27 0] (cT 28 (sO [om 29 7,XF 4,om 5 29] .ret)))) (sO [Zw 31 2 2,Zk 32 68 31,Zk 33 67 32,om 30 33,YN 34 30 0,YN 35 30 1,oR 8 128,YC 3 8 34,om 9 35] (sO [XF 10] (sO [wV 11 0 0 0 133] (sQ (sO [om 36 1,Za 37 36,ZA 38 0] (.block 0 (.loop Aj))) (sO [om 74 10,om 4 74,ZA 5 0] .ret))))))))
def k32:Zm 18=some ([.tmp 4,.tmp 5],r32):=It
def r98:RC:=(sO [YL 1 25 0,XF 2] (sO [ZO 3 1 1,ZX 4 3,o 5 (.call 138 [(.t 4),(.v (.fn (.func 139) [] []))]),om 2 5] .ret))
def k98:Zm 68=some ([.tmp 2],r98):=It
def r99:RC:=(sO [YL 3 25 0,YL 4 133 1,wV 6 0 0 0 133,Zf 7] (sQ (sO [ZO 9 1 3,ZX 10 9,ZO 11 0 4,ZX 12 11,Zq 13 9 10 12,Zw 14 9 13,xE 8 0 0 0 0 0 0 113,YC 9 8 14] (sO [ZO 15 8 8,ZX 16 15,Wx 17 3 16 0] (cT 17 (sO [ZO 18 2 4,ZX 19 18,YM 20 3 19 1,ZO 21 2 4,YC 1 21 20] (sO [ZO 22 0 4,ZX 23 22,Wx 24 3 23 0,om 25 24,Yl 26 25 2 4,YQ 27 25 26,Yl 28 25 8 8,YQ 29 25 28,oT 30 25 (.bin .gtr 3 false (.t 27) (.t 29)),YP 31 25 30] (cT 31 (oP [o 32 (.RR [(iI 0),(iI 0),(iI 0)] []),YC 3 4 32]))))))) (sQ (sO [om 33 2,ZO 34 0 4,ZX 35 34,Zq 36 1 33 35,ZX 37 36,WU 38 37] (cT 38 (sO [Zw 39 3 4,YC 3 6 39,Zf 7] .ret))) (sO [ZO 40 1 4,ZX 41 40,YM 42 3 41 1,ZO 43 1 4,YC 1 43 42] (sQ (sQ (.Uu 10 [ZO 44 1 4,ZX 45 44,ZO 46 1 3,ZX 47 46,ZO 48 0 4,ZX 49 48,Zq 50 9 47 49,ZO 51 7 50,ZX 52 51,Y_ 53 3 45 52]) (cT 53 (sO [Zw 54 3 4,YC 3 6 54,Zf 7] .ret))) (sQ (sO [ZO 55 0 4,ZX 56 55,YM 57 3 56 1,ZO 58 1 3,ZX 59 58,Za 60 59,Y_ 61 3 57 60] (cT 61 (sO [ZO 62 0 4,ZX 63 62,YM 64 3 63 1,o 65 (.RR [(iI 0),(iI 0),(iI 0)] [(0,1,(.t 64))]),YC 3 6 65,Zf 7] .ret))) (sO [o 66 (.RR [(iI 0),(iI 0),(iI 0)] []),YC 3 6 66,Uz 7] .ret)))))))
def k99:Zm 70=some ([.cell 6 133,.tmp 7],r99):=It
def zE:RC:=(sO [Y_ 11 3 10 9] (sQ (cS 11 (.exit 0)) (sQ (.block 1 (sO [Zq 12 9 8 10,Zw 13 9 12,xE 7 0 0 0 0 0 0 113,YC 9 7 13] (oP [om 14 5,om 15 1,Zw 16 9 7,Fc 17 15 16,o 18 (.Uc 78 7 1 [(.str []),(iI 0),(iI 0),(iI 0),(iI 0),(.str []),.ZQ] [(0,7,(.t 17))]),VN 19 78 7 88 14 18,om 5 19]))) (oP [YM 20 3 10 1,om 10 20]))))
def ake:RC:=(sO [XF 4] (sO [XF 5] (sQ (sO [om 8 0,Za 9 8,ZA 10 0] (.block 0 (.loop zE))) (sO [om 21 5,om 4 21] .ret))))
def aox:Zm 138=some ([.tmp 4],ake):=It
def akf:RC:=(sO [YL 1 113 0,NF 2 0 0 0 0 78] (sO [ZO 3 0 1,Zw 4 7 3,YC 7 2 4] .ret))
def aoy:Zm 139=some ([.cell 2 78],akf):=It
end Go.Am
namespace Go.Am
open Go
variable {n:Nat}
abbrev pV:=Nat×Int×Int
def DA (T:Nat->Int)(n:Nat)(h:Nat->Bool)(a:Nat)(k g:Int):pV×Bool :=
 bif !h a then ((a,k,g),false) else bif decide (k+1<T a) then ((a,k+1,g),false) else bif decide ((a:Int)+1<n) then ((a+1,0,0),false) else ((0,0,0),true)
def LL (W T:Nat->Int)(n:Nat)(h:Nat->Bool)(a:Nat)(k g:Int):pV×Bool :=
 bif decide (W a>0) then (bif decide ((a:Int)>0)&&decide (g+1>W a) then DA T n h 0 0 0 else DA T n h a k (g+1)) else DA T n h a k g
def trP (W T:Nat->Int)(n:Nat)(H:Nat->Nat->Bool):Nat->Nat->pV->List Int
 |0,_,_=>[]
 |r+1,t,(a,k,g)=>bif (LL W T n (H t) a k g).2 then (t:Int)::trP W T n H r (t+1) (LL W T n (H t) a k g).1 else trP W T n H r (t+1) (LL W T n (H t) a k g).1
def rfQ (T:Nat->Int)(n:Nat)(h:Nat->Bool)(t a:Nat)(k g:Int):pV×Bool :=
 bif !h a then ((a,k,g),false) else bif decide (k+1<T a) then ((a,k+1,g),false) else bif ((a:Int)+1==n) then ((0,0,t),true) else ((a+1,0,t),false)
def rfP (W T:Nat->Int)(n:Nat)(h:Nat->Bool)(t a:Nat)(k g:Int):pV×Bool :=
 bif decide (W a>0)&&decide ((t:Int)-g>W a) then rfQ T n h t 0 0 g else rfQ T n h t a k g
def trR (W T:Nat->Int)(n:Nat)(H:Nat->Nat->Bool):Nat->Nat->pV->List Int
 |0,_,_=>[]
 |r+1,t,(a,k,g)=>bif (rfP W T n (H t) t a k g).2 then (t:Int)::trR W T n H r (t+1) (rfP W T n (H t) t a k g).1 else trR W T n H r (t+1) (rfP W T n (H t) t a k g).1
def afG {T:Nat->Int}{h:Nat->Bool}{a:Nat}{k g:Int}{t:Nat}(ha:a<n)(hk:0<=k/\k<=t)(hg:0<=g/\g<=t+1) :
  (DA T n h a k g).1.1<n/\(0<=(DA T n h a k g).1.2.1/\(DA T n h a k g).1.2.1<=t+1)/\(0<=(DA T n h a k g).1.2.2/\(DA T n h a k g).1.2.2<=t+1):=by
 unfold DA
 cases h a <;> simp only[aqB,aqF,cond_true,cond_false]
 ·exact⟨ha,J,J⟩
 ·cases decide (k+1<T a) <;> simp only[cond_true,cond_false]
  ·cases hn:decide ((a:Int)+1<n) <;> simp only[cond_true,cond_false]
   ·exact⟨J,J,J⟩
   ·rw[decide_eq_true_eq] at hn;exact⟨J,J,J⟩
  ·exact⟨ha,J,J⟩
def ahH {W T:Nat->Int}{h:Nat->Bool}{a:Nat}{k g:Int}{t:Nat}(ha:a<n)(hk:0<=k/\k<=t)(hg:0<=g/\g<=t) :
  (LL W T n h a k g).1.1<n/\(0<=(LL W T n h a k g).1.2.1/\(LL W T n h a k g).1.2.1<=t+1)/\(0<=(LL W T n h a k g).1.2.2/\(LL W T n h a k g).1.2.2<=t+1):=by
 unfold LL
 cases decide (W a>0) <;> simp only[cond_true,cond_false]
 ·exact afG ha hk ⟨hg.1,J⟩
 ·cases decide ((a:Int)>0)&&decide (g+1>W a) <;> simp only[cond_true,cond_false]
  ·exact afG ha hk J
  ·exact afG J J J
def cC {W T:Nat->Int}{h:Nat->Bool}{a:Nat}{k g e:Int}{t:Nat}(ha:a<n)(hg:W a>0->g=t-e)(h0:¬W 0>0) :
  (DA T n h a k g).2=(rfQ T n h t a k e).2/\(DA T n h a k g).1.1=(rfQ T n h t a k e).1.1/\(DA T n h a k g).1.2.1=(rfQ T n h t a k e).1.2.1/\(DA T n h a k g).1.1<n /\
   (W (DA T n h a k g).1.1>0->(DA T n h a k g).1.2.2=t-(rfQ T n h t a k e).1.2.2):=by
 unfold DA rfQ
 cases h a <;> simp only[aqB,aqF,cond_true,cond_false]
 ·exact⟨by first|rfl|trivial,by first|rfl|trivial,by first|rfl|trivial,ha,hg⟩
 ·cases decide (k+1<T a) <;> simp only[cond_true,cond_false]
  ·by_cases hn:(a:Int)+1<n
   ·have h1:((a:Int)+1==n)=false:=F_;rw[decide_eq_true hn,h1];simp only[cond_true,cond_false];exact⟨by first|rfl|trivial,by first|rfl|trivial,by first|rfl|trivial,J,λ_=>J⟩
   ·have h1:((a:Int)+1==n)=true:=F_;rw[decide_eq_false hn,h1];simp only[cond_true,cond_false];exact⟨by first|rfl|trivial,by first|rfl|trivial,by first|rfl|trivial,J,λhw=>absurd hw h0⟩
  ·exact⟨by first|rfl|trivial,by first|rfl|trivial,by first|rfl|trivial,ha,hg⟩
def aje {W T:Nat->Int}{h:Nat->Bool}{a:Nat}{k g e:Int}{t:Nat}(ha:a<n)(hg:W a>0->g=t-1-e)(h0:¬W 0>0) :
  (LL W T n h a k g).2=(rfP W T n h t a k e).2/\(LL W T n h a k g).1.1=(rfP W T n h t a k e).1.1/\(LL W T n h a k g).1.2.1=(rfP W T n h t a k e).1.2.1/\(LL W T n h a k g).1.1<n /\
   (W (LL W T n h a k g).1.1>0->(LL W T n h a k g).1.2.2=t-(rfP W T n h t a k e).1.2.2):=by
 unfold LL rfP;by_cases hw:W a>0
 ·have hg:=hg hw;have hp:(a:Int)>0:=by
   rcases Nat.eq_zero_or_pos a with h|h
   ·subst h;exact absurd hw h0
   ·omega
  rw[decide_eq_true hw,decide_eq_true hp];have e1:decide (g+1>W a)=decide ((t:Int)-e>W a):=by
   congr 1;apply propext;omega
  rw[e1];simp only[aqr,cond_true]
  cases decide ((t:Int)-e>W a) <;> simp only[cond_true,cond_false]
  ·exact cC ha (λ_=>J) h0
  ·exact cC J (λhw=>absurd hw h0) h0
 ·rw[decide_eq_false hw];simp only[aqK,cond_false];exact cC ha (λh=>absurd h hw) h0
def adr {W T:Nat->Int}{n:Nat}{H:Nat->Nat->Bool}(h0:¬W 0>0):∀(r t a:Nat) (k g e:Int),a<n->(W a>0->g=t-1-e)->trP W T n H r t (a,k,g)=trR W T n H r t (a,k,e)
 |0,_,_,_,_,_,_,_=>rfl
 |r+1,t,a,k,g,e,ha,hg=>by
  obtain⟨e1,e2,e3,e4,e5⟩:=aje (T:=T) (n:=n) (h:=H t) (k:=k) ha hg h0;rw[trP,trR,e1];generalize LL W T n (H t) a k g=x at *;generalize rfP W T n (H t) t a k e=y at *;obtain⟨⟨x1,x2,x3⟩,xb⟩:=x;obtain⟨⟨y1,y2,y3⟩,yb⟩:=y;simp only at e1 e2 e3 e4 e5 ⊢;subst e2 e3;have ih:=adr (T:=T) (H:=H) h0 r (t+1) x1 x2 x3 y3 e4 λhw=>by rw[e5 hw];omega
  rw[ih]
def Wn (S:List Step)(i:Nat):Int:=match S[i]? with
 |some s=>s.within
 |none=>0
def Tm (S:List Step)(i:Nat):Int:=match S[i]? with
 |some s=>s.times
 |none=>0
end Go.Am
namespace Go.Am
open Go
variable [Z8]
def IP (c:pV):AV:=.agg [.int .i64 c.1,.int .i64 c.2.1,.int .i64 c.2.2]
def CF (hs:List Bool)(i:Nat):Bool:=hs.getD i false
def vq {nh:Bool}{hs:List Bool}{a:Nat}(h:a<hs.length):UJ 1 (ZU nh (Zt hs)) (.int .i64 (a:Int))=some (.fp [.bool (CF hs a)] 0):=by
 refine Vi 1 nh (Zt hs) .i64 a (.bool (CF hs a)) J ?_ rfl Mo;rw[aqt];simp[Zt,CF,ap6,aaa h]
def vn {nl:Bool}{l:List Step}{a:Nat}(h:a<l.length):UJ 9 (ZU nl (Zy l)) (.int .i64 (a:Int))=some (.fp l[a].Qy 0):=by
 refine Vi 9 nl (Zy l) .i64 a (Yy l[a]) J ?_ rfl Mo;rw[aqt,Wb,aaa h];rfl
def pU {l:List Step}{a:Nat}(h:a<l.length):Wn l a=l[a].within:=by unfold Wn;rw[aaa h]
def yC {l:List Step}{a:Nat}(h:a<l.length):Tm l a=l[a].times:=by unfold Tm;rw[aaa h]
def c99 (p:Prog)(hs:List Bool)(nh:Bool)(a:Nat)(k g:Int)(ha:a<p.steps.length)(hh:hs.length=p.steps.length)(hl:p.steps.length<2^30)(hk:0<=k/\k<=2^40)(hg:0<=g/\g<=2^40) :
  ZE U 70 [XU p,IP (a,k,g),ZU nh (Zt hs)]=some (.XQ [IP (LL (Wn p.steps) (Tm p.steps) p.steps.length (CF hs) a k g).1,.bool (LL (Wn p.steps) (Tm p.steps) p.steps.length (CF hs) a k g).2]):=by
 refine ZP k99 It (by simp[ZT,YK,IP,still,YE]) ?_;have hx:=vn (nl:=p.nl) ha;have h0:0<p.steps.length:=J;have tP:UJ 9 (ZU p.nl (Zy p.steps)) (.int .i64 0)=some (.fp p.steps[0].Qy 0):=vn (nl:=p.nl) h0;have hb:=vq (nh:=nh) (hs:=hs) (a:=a) J;have BW:UJ 1 (ZU nh (Zt hs)) (.int .i64 0)=some (.fp [.bool (CF hs 0)] 0):=vq (nh:=nh) (hs:=hs) (a:=0) J;have w1:IntKind.i64.wrap (g+1)=g+1:=by rw[wrap_i64] <;> omega
 have w2:IntKind.i64.wrap (k+1)=k+1:=by rw[wrap_i64] <;> omega
 have w3:IntKind.i64.wrap ((a:Int)+1)=(a:Int)+1:=by rw[wrap_i64] <;> omega
 rw[Ze];simp only[IP,Step.Qy] at hx tP ⊢;unfold LL DA;rw[pU ha,yC ha,yC h0];generalize p.steps[a]=x at *;generalize p.steps[0]=y at *;have w4:IntKind.i64.wrap 1=1:=by rw[wrap_i64] <;> omega
 cases h1:decide (x.within>0) <;> cases h2:decide ((a:Int)>0) <;> cases h3:decide (g+1>x.within)
 all_goals simp only[go_sem,r99,ZV,hx,hb,tP,BW,w1,w2,w3,w4,h1,h2,h3,ZN,Yo,Bool.and_true,Bool.and_false,cond_true,cond_false]
 all_goals first
  |(cases CF hs a <;> cases decide (k+1<x.times) <;> cases decide ((a:Int)+1<p.steps.length) <;> rfl)
  |(have e0:((0:Nat):Int)+1=1:=rfl
    simp only[e0]
    cases CF hs 0 <;> cases decide (1<y.times) <;> cases decide ((1:Int)<p.steps.length) <;> rfl)
def pd (l:List Int)(t:Nat):∀C:List Z0,(∀c∈C,c.wf)->outs C ((ZL C).map (atR l t))=C.map (atR l t)
 |[],_=>rfl
 |c::C,h=>by
  have hd:((VE c).map (atR l t)++(ZL C).map (atR l t)).drop (VE c).length=(ZL C).map (atR l t):=by
   rw[<-ala (f:=atR l t),aqT]
  rw[ZL,aqf,outs,aj6 l t c (h c (aba ..)),hd,pd l t C λx hx=>h x (aab _ hx),aqe]
def pf {C:List Z0}(h:∀c∈C,c.wf):∀c∈ZL C,c.wf/\(Zs c.kind).leaf=true:=λc hc=>by
 obtain⟨x,h1,h2⟩:=NR hc;exact NQ x (h x h1) c h2
def Ha (l:List Int)(S:List Step)(t i:Nat):Bool:=match S[i]? with
 |some s=>atR l t s.cond
 |none=>false
def su (l:List Int)(S:List Step):List Int:=trR (Wn S) (Tm S) S.length (Ha l S) l.length 0 (0,0,0)
def Fv (l:List Int)(S:List Step):List Int:=trP (Wn S) (Tm S) S.length (Ha l S) l.length 0 (0,0,0)
def wS (l:List Int)(S:List Step)(h0:¬Wn S 0>0)(hn:0<S.length):Fv l S=su l S :=
 adr h0 _ _ _ _ _ _ hn λh=>absurd h h0
def acw (l:List Int)(S:List Step):Wn (S.map Step.norm)=Wn S/\Tm (S.map Step.norm)=Tm S/\Ha l (S.map Step.norm)=Ha l S:=by
 refine⟨?_,?_,?_⟩
 ·funext i;unfold Wn;rw[aqc];cases S[i]? <;> rfl
 ·funext i;unfold Tm;rw[aqc];cases S[i]? <;> rfl
 ·funext t i;unfold Ha;rw[aqc];cases S[i]? with
  |none=>rfl
  |some s=>exact yz l t s.cond
def wT (l:List Int)(S:List Step):Fv l (S.map Step.norm)=Fv l S:=by
 obtain⟨e1,e2,e3⟩:=acw l S;unfold Fv;rw[e1,e2,e3,ala]
def ao1 (x:Step):ZE U 139 [Yy x]=some (Zo x.cond):=by
 refine ZP aoy It (by simp[ZT,Yy,still,YE]) ?_;rw[ZH];simp only[Yy,Z0.cells];simp only[go_sem,akf,ZV,Vg]
def akI (x:Step)(s:St):Kx U (.fn (.func 139) [] []) [Yy x] s=some (Zo x.cond,s):=by
 simp only[Sf,aqQ,aqw,ao1,UO]
def ao2 (nl:Bool)(l:List Step)(hl:l.length<2^30):ZE U 138 [ZU nl (Zy l),.fn (.func 139) [] []]=some (ZU true ((l.map Step.cond).map Zo)):=by
 refine ZP aox It (by simp[ZT,still,YE]) ?_;simp only[go_sem,ake,ZN,Yo];refine Yk (σ:=Nat) (λi=>l.length-i) (λi=>some (ZU true ((l.map Step.cond).map Zo))) (λi e s=>i<=l.length/\e.get 1=.fn (.func 139) [] []/\e.get 8=ZU nl (Zy l)/\e.get 9=.int .i64 l.length/\e.get 10=.int .i64 i/\8<=s.next/\Fr s /\
  ∃v,e.get 5=v/\ZD s 8 78 7 i (Yh ((l.take i).map Step.cond)) v) 0 ?_ rfl ?_
 ·rintro L i e s ⟨hi,g1,g8,g9,Cj,hn,Qs,v,g5,hv⟩ IH;have Oi:=hv.WV;have Pq:=hv.Zu;by_cases hd:i<l.length
  ·have hx:(Zy l)[i]? = some (Yy l[i]):=by rw[Wb,aaa hd];rfl
   have hw:=ZI hd J;have hc:=akI l[i];rw[ZH] at hc;rw[Yz (XV hd)] at g8;simp only[Z0.cells,Yy] at hx hc;have TV:(i+1)*88<=1099511627776:=J;have U5:i+1<=1099511627776:=J;have K_:Yh ((l.take (i+1)).map Step.cond)=Yh ((l.take i).map Step.cond)++l[i].cond.cells:=by
    rw[ap7 hd,aqf,Yh,List.flatMap_append,List.map_singleton,List.flatMap_singleton,ZH];rfl
   simp only[Z0.cells] at K_;simp only[go_sem,zE,g1,g5,g8,g9,Cj,Z9,hd,hx,hc,ZV,Zx,Nat.reducePow,aqP,Oi,TV,U5];have D0:∀y z w,ZD (((s.new y).put s.next z).new w) 8 78 7 i (Yh ((l.take i).map Step.cond)) v:=λy z w=>hv.mono O0 λj _ hj=>by rw[Z5,Z_,Z',O3 J,Z7,O3 J,Z5,O3 J]
   obtain⟨s1,f1,f2,f3,f4,f5⟩:=(D0 (.cells [.str [],.int .i64 0,.int .i64 0,.int .i64 0,.int .i64 0,.str [],.ZQ,.int .i64 0,.int .i64 0] 113 false 0 0) (.cells l[i].Qy 113 false 0 0) (.cells l[i].cond.cells 78 false 0 0)).FA O0 (m:=1) (new:=l[i].cond.cells) J (by rfl) (by simp only[Z0.cells,go_sem,ZV]);simp only[Z0.cells,Step.Qy] at f1 f2 f3;rw[f1];simp only[go_sem,Cj,hw];rw[<-K_] at f3;refine IH (i+1) _ _ J ⟨J,?_,?_,?_,?_,?_,f5 (((Qs.new _).put O0 _).new _),_,?_,f3⟩
   all_goals simp only[go_sem,g1,g8,g9,f2,Yz (XV hd)]
   all_goals omega
  ·have:i=l.length:=J;subst this;rw[aqN] at hv;have NO:ZD s 8 78 7 (l.map Step.cond).length (Yh (l.map Step.cond)) v:=by rw[ala];exact hv
   have L9:=NO.Wt U Gh Gg J Qj (d:=39) (λa=>Oh _ _ _);simp only[go_sem,zE,g5,g9,Cj,Z9,ap5,L9]
 ·refine⟨apW _,?_,?_,?_,?_,?_,?_,.ZQ,?_,ZD.nil _ _ _ _⟩
  all_goals try simp only[go_sem]
  all_goals first|rfl|exact Fr.own|skip
def c98 (p:Prog)(hl:p.steps.length<2^30):ZE U 68 [XU p]=some (ZU true ((p.steps.map Step.cond).map Zo)):=by
 refine ZP k98 It (by simp[ZT,YK]) ?_;have:=ao2 p.nl p.steps hl;rw[Ze];simp only[go_sem,r98,this,Vg]
def runT (l:List Int)(S:List Step):Nat->Nat->List Int->pV->List Int
 |0,_,_,_=>[]
 |n+1,i,YI,(a,k,g) =>
  bif (LL (Wn S) (Tm S) S.length (CF (outs (S.map Step.cond) (XZ (XG l (i:Int)) (VU l (i:Int)) ((i:Int)==0) (ZL (S.map Step.cond)) YI))) a k g).2 then
   (i:Int)::runT l S n (i+1) (XS (XG l (i:Int)) (VU l (i:Int)) ((i:Int)==0) (ZL (S.map Step.cond)) YI) (LL (Wn S) (Tm S) S.length (CF (outs (S.map Step.cond) (XZ (XG l (i:Int)) (VU l (i:Int)) ((i:Int)==0) (ZL (S.map Step.cond)) YI))) a k g).1
  else runT l S n (i+1) (XS (XG l (i:Int)) (VU l (i:Int)) ((i:Int)==0) (ZL (S.map Step.cond)) YI) (LL (Wn S) (Tm S) S.length (CF (outs (S.map Step.cond) (XZ (XG l (i:Int)) (VU l (i:Int)) ((i:Int)==0) (ZL (S.map Step.cond)) YI))) a k g).1
def UL (l:List Int)(S:List Step):List Int:=runT l S l.length 0 ((ZL (S.map Step.cond)).map Xm) (0,0,0)
def aeq (l:List Int)(S:List Step)(t:Nat):CF ((S.map Step.cond).map (atR l t))=Ha l S t:=by
 funext i
 unfold CF Ha;rw[ap6,aqY,aqc]
 cases S[i]? <;> rfl
def runT_eq (l:List Int)(S:List Step)(hw:∀s∈S,s.cond.wf):∀(n i:Nat) (c:pV),runT l S n i ((ZL (S.map Step.cond)).map λx=>tI l x i) c=trP (Wn S) (Tm S) S.length (Ha l S) n i c
 |0,_,_=>rfl
 |n+1,i,(a,k,g)=>by
  have hC:∀c∈S.map Step.cond,c.wf:=λc hc=>by
   obtain⟨s,hs,rfl⟩:=ap0.1 hc;exact hw s hs
  obtain⟨e1,e2⟩:=Cb l i _ (pf hC);rw[runT,e1,e2,pd l i _ hC,aeq,runT_eq l S hw n (i+1),trP]
def Ca (l:List Int)(S:List Step)(hw:∀s∈S,s.cond.wf):UL l S=Fv l S:=runT_eq l S hw l.length 0 (0,0,0)
def mc (S:List Step)(B:List Bool):(outs (S.map Step.cond) B).length=S.length:=by rw[Fu,ala]
def l32 (nl:Bool)(l:List Int)(hl:pc l)(p:Prog)(ZB:0<p.steps.length)(hn:p.steps.length<=8)(Ot:∀s∈p.steps,s.cond.wf)(hL:(ZL (p.steps.map Step.cond)).length<=2^20){ks:List K}(sm:St)(m:Nat)(hm8:8<m)(yY:sm.next=m+2)(v lv sv:AV)
  (hm:∀s',(∀j,j<=m->s'.get j=sm.get j)->m<s'.next->Ya U s' 40 (.agg [v,lv,sv])=some (.agg [.fz ((p.steps.map Step.cond).map Zo),.fz ((ZL (p.steps.map Step.cond)).map Zo),.fz ((ZL (p.steps.map Step.cond)).map Xg)]))
  (gp:sm.get 8=some (.cells [.int .i64 p.lines,ZU p.nl (Zy p.steps)] 25 false 0 0))(gm:sm.get m=some (.cells [v,lv,sv] 128 false 0 0))(ga:sm.get (m+1)=some (.cells [.int .i64 0,.int .i64 0,.int .i64 0] 133 false 0 0))(frm:Fr sm){β:Type}{fin:Fl->β}{ZC:β->Prop}
  (gV:still lv=false)(hk:∀e s w,e.get 10=w->ZD s (m+2) 3 1 (UL l p.steps).length (ints (UL l p.steps)) w->ZC (goN U fin ks e s)){e:Env}{iR:AV}
  (aa2:∀s',(∀j,j<=m->s'.get j=sm.get j)->m<s'.next->Ya U s' 40 iR=some (.fz (ints ((ZL (p.steps.map Step.cond)).map Xm))))
  (g1:e.get 1=ZU nl (ints l))(g2:e.get 2=.ptr 8 0)(g8:e.get 8=.ptr m 0)(g9:e.get 9=iR)(Cj:e.get 10=.ZQ)(uK:e.get 11=.ptr (m+1) 0)(mo:e.get 36=ZU nl (ints l))(xU:e.get 37=.int .i64 l.length)(fF:e.get 38=.int .i64 (0:Nat)) :
  ZC (SJ U fin (.bk 0::ks) Aj e sm):=by
 have hlen:=hl.1;have hCw:∀c∈p.steps.map Step.cond,c.wf:=λc hc=>by
  obtain⟨s,hs,rfl⟩:=ap0.1 hc;exact Ot s hs
 have hlw:=pf hCw;refine YT (σ:=Nat) (ZC:=ZC) (λi=>l.length-i) (λi e s=>i<=l.length/\e.get 1=ZU nl (ints l)/\e.get 2=.ptr 8 0/\e.get 8=.ptr m 0/\e.get 11=.ptr (m+1) 0/\e.get 36=ZU nl (ints l)/\e.get 37=.int .i64 l.length/\e.get 38=.int .i64 (i:Nat) /\
  Fr s/\m+2<=s.next/\(∀j,j<=m->s.get j=sm.get j) /\
  ∃iR YI ov acc a k g,e.get 9=iR/\e.get 10=ov/\s.get (m+1)=some (.cells [.int .i64 (a:Nat),.int .i64 k,.int .i64 g] 133 false 0 0)/\(∀s',(∀j,j<=m->s'.get j=sm.get j)->m<s'.next->Ya U s' 40 iR=some (.fz (ints YI)))/\YI.length=(ZL (p.steps.map Step.cond)).length/\(∀x∈YI,0<=x/\x<=256) /\
   a<p.steps.length/\(0<=k/\k<=(i:Int))/\(0<=g/\g<=(i:Int))/\acc.length<=i/\ZD s (m+2) 3 1 acc.length (ints acc) ov/\acc++runT l p.steps (l.length-i) i YI (a,k,g)=UL l p.steps) 0 ?_
  ⟨apW _,g1,g2,g8,uK,mo,xU,fF,frm,J,λ_ _=>rfl,iR,_,.ZQ,[],0,0,0,g9,Cj,ga,aa2,by simp,λx hx=>by
   obtain⟨y,hy,rfl⟩:=ap0.1 hx;exact mB (hlw y hy).1.Lc,ZB,J,J,apW _,ZD.nil _ _ _ _,rfl⟩
 clear g1 g2 g8 g9 Cj uK mo xU fF aa2 e iR;rintro Lp i e s ⟨hi,g1,g2,g8,uK,mo,xU,fF,fr,nx,old,iR,YI,ov,acc,a,k,g,g9,Cj,gc,W_,HY,hsb,ha,G0,l9,Ho,hv,Yf⟩ IH;by_cases hd:i<l.length
 ·have hw:=ZI hd J;have Lb:IntKind.i64.wrap ((i:Int)-1)=(i:Int)-1:=by rw[wrap_i64] <;> omega
  have qF:max 0 ((i:Int)-1)=((i-1:Nat):Int):=J;have hx1:=Kb (nl:=nl) hd;have zt:=Kb (nl:=nl) (l:=l) (t:=i-1) J;rw[<-qF] at zt;have hbf:XG l (max 0 ((i:Int)-1))=VU l (i:Int):=rfl;rw[hbf] at zt;have gms:s.get m=some (.cells [v,lv,sv] 128 false 0 0):=by rw[old m (api _),gm]
  have gps:s.get 8=some (.cells [.int .i64 p.lines,ZU p.nl (Zy p.steps)] 25 false 0 0):=by rw[old 8 J,gp]
  have B_:∀j,j<=m->(s.upto (s.next+18)).get j=sm.get j:=λj hj=>by rw[ZR,old j hj]
  have Vq:m<(s.upto (s.next+18)).next:=by rw[Z6];omega
  have VY:Yx U (ZE U 69 [.agg [v,lv,sv],iR,.agg [.int .i64 (XG l (i:Int)),.int .i64 (VU l (i:Int)),.bool ((i:Int)==0)]]) 69 [.agg [v,lv,sv],iR,.agg [.int .i64 (XG l (i:Int)),.int .i64 (VU l (i:Int)),.bool ((i:Int)==0)]] (s.upto (s.next+18)) =
    some (.XQ [.fz (ints (XS (XG l (i:Int)) (VU l (i:Int)) ((i:Int)==0) (ZL (p.steps.map Step.cond)) YI)),ZU true (Zt (outs (p.steps.map Step.cond) (XZ (XG l (i:Int)) (VU l (i:Int)) ((i:Int)==0) (ZL (p.steps.map Step.cond)) YI)))],s.upto (s.next+18)):=by
   rw[z93 (by simp[ZT,still,gV])];have e1:=hm _ B_ Vq;have e2:=W_ _ B_ Vq;have e3:YS (Ya U (s.upto (s.next+18)) 40) [.agg [v,lv,sv],iR,.agg [.int .i64 (XG l (i:Int)),.int .i64 (VU l (i:Int)),.bool ((i:Int)==0)]] =
     some [.agg [.fz ((p.steps.map Step.cond).map Zo),.fz ((ZL (p.steps.map Step.cond)).map Zo),.fz ((ZL (p.steps.map Step.cond)).map Xg)],.fz (ints YI),.agg [.int .i64 (XG l (i:Int)),.int .i64 (VU l (i:Int)),.bool ((i:Int)==0)]]:=by
    rw[XT,e1,XT,e2,XT,TJ,Wt];rfl
   rw[e3];have hz:=ahG (p.steps.map Step.cond) YI (XG l (i:Int)) (VU l (i:Int)) ((i:Int)==0) hCw (by rw[ala];omega) hsb HY hL (fE hl _) (fE hl _) (s.upto (s.next+18));rw[X4] at hz;rw[hz]
  have Ft:=c99 p (outs (p.steps.map Step.cond) (XZ (XG l (i:Int)) (VU l (i:Int)) ((i:Int)==0) (ZL (p.steps.map Step.cond)) YI)) true a k g ha (mc _ _) J J J;have ok:=ahH (W:=Wn p.steps) (T:=Tm p.steps) (n:=p.steps.length) (h:=CF (outs (p.steps.map Step.cond) (XZ (XG l (i:Int)) (VU l (i:Int)) ((i:Int)==0) (ZL (p.steps.map Step.cond)) YI))) (t:=i) ha G0 l9;have Oi:=hv.WV;have Pq:=hv.Zu;have TV:(acc.length+1)*8<=1099511627776:=J;have U5:acc.length+1<=1099511627776:=J;rw[show l.length-i=(l.length-(i+1))+1 by omega,runT] at Yf;rw[Ze] at Ft;simp only[IP] at Ft;generalize LL (Wn p.steps) (Tm p.steps) p.steps.length (CF (outs (p.steps.map Step.cond) (XZ (XG l (i:Int)) (VU l (i:Int)) ((i:Int)==0) (ZL (p.steps.map Step.cond)) YI))) a k g=mv at *;obtain⟨⟨a',k',g'⟩,ZW⟩:=mv;simp only at Ft ok Yf;have ne1:∀q,(s.next+q=m)=False:=λq=>F_
  have ne2:∀q,(s.next+q=m+1)=False:=λq=>F_
  have hS:∀x y z j,j<s.next->j≠m+1->(((((s.upto (s.next+18)).new x).put (s.next+18) y).upto (s.next+18+1+4)).put (m+1) z).get j=s.get j:=λx y z j hj hjm=>by
   rw[Z7,O3 J,ZR,Z7,O3 J,Z5,Z6,O3 J,ZR]
  have DX:∀x y z,(((((s.upto (s.next+18)).new x).put (s.next+18) y).upto (s.next+18+1+4)).put (m+1) z).next=s.next+23:=λx y z=>by rw[Z_,Z6]
  have hSf:∀x y z,Fr (((((s.upto (s.next+18)).new x).put (s.next+18) y).upto (s.next+18+1+4)).put (m+1) z):=λx y z =>
   ((((fr.upto J).new _).put O0 _).upto O0).put O0 _
  have hSc:∀x y z,(((((s.upto (s.next+18)).new x).put (s.next+18) y).upto (s.next+18+1+4)).put (m+1) z).get (m+1)=some z:=λx y z=>by rw[Z7,Of rfl]
  have D0:∀x y z,ZD (((((s.upto (s.next+18)).new x).put (s.next+18) y).upto (s.next+18+1+4)).put (m+1) z) (m+2) 3 1 acc.length (ints acc) ov:=λx y z=>hv.mono (by rw[DX];omega) λj h1 h2=>hS x y z j h2 J
  have ahI:∀s',(∀j,j<=m->s'.get j=sm.get j)->m<s'.next->Ya U s' 40 (.fz (ints (XS (XG l (i:Int)) (VU l (i:Int)) ((i:Int)==0) (ZL (p.steps.map Step.cond)) YI)))=some (.fz (ints (XS (XG l (i:Int)) (VU l (i:Int)) ((i:Int)==0) (ZL (p.steps.map Step.cond)) YI))):=λs' _ _=>rfl
  have F6:=MO (XG l (i:Int)) (VU l (i:Int)) ((i:Int)==0) (ZL (p.steps.map Step.cond)) YI HY;have RW:=yh (now:=XG l (i:Int)) (last:=VU l (i:Int)) (first:=((i:Int)==0)) (λx hx=>(hlw x hx).1.Lc) hsb
  cases ZW
  all_goals simp only[go_sem,Aj,g1,g2,g8,g9,Cj,uK,mo,xU,fF,Z9,hd,hx1,zt,Lb,gms,gps,gc,VY,Ft,Zx,Nat.reducePow,aqP,Oi,TV,U5,ne2,hw]
  ·simp only[cond_false] at Yf;refine IH (i+1) _ _ J ⟨J,?_,?_,?_,?_,?_,?_,?_,hSf _ _ _,by rw[DX];omega,λj hj=>by rw[hS _ _ _ _ J J,old j hj],_,_,ov,acc,a',k',g',?_,?_,hSc _ _ _,ahI,F6,RW,ok.1,J,J,J,D0 _ _ _,Yf⟩
   all_goals simp only[go_sem,g1,g2,g8,Cj,uK,mo,xU]
  ·simp only[cond_true] at Yf;generalize hA:Uf.cells [.int .i64 0,.int .i64 0,.int .i64 0] 133 false 0 0=A;generalize hB:Uf.cells [.int .i64 (a':Int),.int .i64 k',.int .i64 g'] 133 false 0 0=B;have NO:ZD (((((((s.upto (s.next+18)).new A).put (s.next+18) B).upto (s.next+18+1+4)).put (m+1) B)).new (.cells [.int .i64 (i:Int)] 3 false 0 0)) (m+2) 3 1 acc.length (ints acc) ov:=(D0 A B B).mono O0 λj _ hj=>by rw[Z5,O3 J]
   have hL1:acc.length+1=(acc++[(i:Int)]).length:=by simp
   have hI1:ints acc++[.int .i64 (i:Int)]=ints (acc++[(i:Int)]):=by rw[ints,ints,aqf];rfl
   obtain⟨s1,f1,f2,f3,f4,f5⟩:=NO.FA (by rw[Z',DX];omega) (m:=1) (new:=[.int .i64 (i:Int)]) J (by rfl) (by rfl);rw[f1];simp only[go_sem,fF,hw];rw[hI1,hL1] at f3;rw[List.append_cons] at Yf;have low:∀j,j<m+2->s1.get j=(((((s.upto (s.next+18)).new A).put (s.next+18) B).upto (s.next+18+1+4)).put (m+1) B).get j:=λj hj=>by
    rw[f4 j (by rw[Z',DX];omega) (NO.xQ (.inr hj)),Z5,DX,O3 J]
   refine IH (i+1) _ _ J ⟨J,?_,?_,?_,?_,?_,?_,?_,f5 ((hSf _ _ _).new _),by rw[f2,Z',DX];omega,λj hj=>by rw[low j J,hS _ _ _ _ J J,old j hj],_,_,_,acc++[(i:Int)],a',k',g',?_,?_,by rw[low _ J,hSc,<-hB],ahI,F6,RW,ok.1,J,J,by rw[ann];simp;omega,f3,Yf⟩
   all_goals simp only[go_sem,g1,g2,g8,uK,mo,xU,hL1]
 ·have:i=l.length:=J;subst this;rw[Nat.sub_self,runT,aqw] at Yf;subst Yf;simp only[go_sem,Aj,xU,fF,Z9,ap5];refine hk _ _ ov ?_ hv;simp only[go_sem,Cj]
section
variable (l:List Int)(k:XJ)(a b mi ma:Int)(p:XJ)(nl:Bool)(kids:List Z0)
variable (u:Nat)
end
end Go.Am
namespace Go.Am
open Go
variable [Z8]
def Ug (x:Option AV)(s:St):Tx false x s=some (undef,s):=rfl
def Ra (x:Option AV)(f:FuncId)(args:List AV)(s:St):QX U false x f args s=some (undef,s):=rfl
def aaP (c:Bool)(x y:Bool):Xj U .neq 4 c (.bool x) (.bool y)=some (.bool (x != y)):=by
 have h:U.Zd 4=some .bool:=It;simp only[Xj,HS,yB,h]
 cases x <;> cases y <;> rfl
section
variable {nl:Bool}{l:List Int}(hl:pc l){t:Nat}(ht:t+1=l.length){k:XJ}{a b mi ma:Int}{pat:XJ}{kids:AV}(ha:0<=a/\a<16)
include hl ht ha
end
end Go.Am
