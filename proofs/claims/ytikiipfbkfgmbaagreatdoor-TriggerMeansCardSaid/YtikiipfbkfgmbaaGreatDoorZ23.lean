/- A part of the proof of a statement of this seat: the machine on which the program is read, and what it computes; for every input. -/
import Derived.Test.YtikiipfbkfgmbaaGreatDoorZ17
import Derived.Test.YtikiipfbkfgmbaaGreatDoorZ22
import Derived.Test.YtikiipfbkfgmbaaGreatDoorZ04
import Derived.Test.YtikiipfbkfgmbaaGreatDoorZ16
import Derived.Test.YtikiipfbkfgmbaaGreatDoorZ14
set_option linter.all false
namespace Go.Am
open Go
variable [Z4]
theorem qc (l:List Int)(i:Nat):∀L:List Z5,(∀c∈L,c.wf/\(ZF c.kind).leaf=true)->Xu (Xg l (i:Int)) (QS l (i:Int)) ((i:Int)==0) L (L.map fun c=>aa7 l c i)=L.map (atR l i) /\
  WN (Xg l (i:Int)) (QS l (i:Int)) ((i:Int)==0) L (L.map fun c=>aa7 l c i)=L.map fun c=>aa7 l c (i+1)
 |[],_=>⟨rfl,rfl⟩
 |c::L,h=>by
  obtain⟨h1,h2⟩:=h c (aba ..);obtain⟨e1,e2⟩:=qc l i L fun x hx=>h x (aab _ hx)
  have hl:=ri l c h1 h2 i;simp only[alT,Xu,WN,hl,e1,e2];exact⟨by first|rfl|trivial,by first|rfl|trivial⟩
theorem aoD (l:List Int)(c:Z5)(hc:c.wf):∀(n i:Nat),aoN l c n i ((Ve c).map fun x=>aa7 l x i)=(List.range' i n).map fun t=>atR l t c
 |0,i=>rfl
 |n+1,i=>by
  obtain⟨e1,e2⟩:=qc l i (Ve c) (La c hc);have hj:=ang l i c hc [];rw[alZ] at hj;rw[aoN,e1,e2,hj,aoD l c hc n (i+1),List.range'_succ,alT]
theorem eN:∀c:Z5,c.wf->c.norm.wf:=by
 intro c
 induction c using Z5.ind with
 |h k a b mi ma p nl kids ih =>
 intro h;rw[Z5.wf] at h;obtain⟨h1,h2,h3,h4,h5,h6,h7,h8,h9,h10,h11,h12,h13⟩:=h;rw[Z5.norm,Z5.wf,Px,Sm];refine⟨h1,h2,h3,h4,h5,h6,h7,h8,fun q=>by rw[h9 q];rfl,fun q=>by simpa using h10 q,h11,h12,fun x hx=>?_⟩;obtain⟨y,hy,rfl⟩:=alN.1 hx;exact ih y hy (h13 y hy)
theorem CU (l:List Int)(t:Nat):∀kids:List Z5,(∀x∈kids,atR l t x.norm=atR l t x)->JC l t (Wj kids)=JC l t kids/\pY l t (Wj kids)=pY l t kids
 |[],_=>by rw[Wj];exact⟨rfl,rfl⟩
 |c::k,h=>by
  have ih:=CU l t k fun x hx=>h x (aab _ hx)
  rw[Wj,JC,JC,pY,pY,h c (aba ..),ih.1];exact⟨rfl,rfl⟩
theorem mK (l:List Int)(t:Nat):∀c:Z5,atR l t c.norm=atR l t c:=by
 intro c
 induction c using Z5.ind with
 |h k a b mi ma p nl kids ih =>
 obtain⟨e1,e2⟩:=CU l t kids ih;rw[Z5.norm,atR,atR,e1,e2,Px]
end Go.Am
namespace Go.Am
open Go
variable [Z4]
set_option maxRecDepth 100000
set_option maxHeartbeats 8000000
def r5:RC:=(sO [Zi 2 31 0,Zj 4] (sQ (sO [O7 9 16,WZ 10 9,om 11 10,Qq 12 11 2 2,IZ 13 11 31 12 12,UA 14 11 13,Yp 15 11 14,om 16 15,Yo 17 16 1,IZ 18 16 22 17 60,UA 19 16 18,Yp 20 16 19] (cT 20 (sO [O7 21 16,om 4 21] .ret))) (sO [Zr 23 2 2,Zc 24 33 23,om 25 1,Zb 26 32 24 25,om 22 26,YO 27 22 0,YO 28 22 1,om 5 27,om 6 28] (sO [Zr 29 2 2,Zc 30 34 29,om 7 30] (sQ (sO [om 31 7,VR 32 3 31 0] (cT 32 (oP [ZX 33 0 2,Z0 34 33,om 35 1,Zb 36 28 34 35,om 7 36]))) (sO [WY 8] (sQ (sO [om 37 7,VR 38 3 37 0] (cT 38 (oP [Zr 39 2 2,om 40 1,Zb 41 35 39 40,om 8 41]))) (sO [om 42 5,om 43 6,om 44 7,om 45 8,o 46 (.call 36 [(.t 42),(.t 43),(.t 44),(.t 45)]),om 4 46] .ret))))))))
theorem k5:Ze 5=some ([.tmp 4],r5):=by kernel_rfl
def aoA:RC:=(sO [YN 39 3 38 37] (sQ (cS 39 (.exit 0)) (sQ (.block 1 (sO [om 40 38,Zk 41 1 36 38,Z0 42 41,om 12 40,om 13 42] (sQ (.TP 18 [Zr 44 3 8,om 45 9,om 46 13,om 47 1,om 48 12,O8 49 3 48 1,o 50 (.raw (.call { callee:=.builtin .max,args:=#[(.const (.int .i64 0)),(.tmp 49)],argTypes:=#[3,3] })),Zk 51 1 47 50,Z0 52 51,om 53 12,VR 54 3 53 0,o 55 (.On [(iI 0),(iI 0),bF] [(0,1,(.t 46)),(1,1,(.t 52)),(2,1,(.t 54))]),MQ 56 93 44 45 55,om 43 56,YO 57 43 0,YO 58 43 1,om 14 57,om 15 58]) (sO [Zr 60 2 2,Zr 61 3 11,om 62 15,MQ 63 99 60 61 62,om 59 63,YO 64 59 0,YO 65 59 1,zP 16 0 0 0 167,YT 3 16 64,om 17 65] (sQ (.TP 4 [om 66 14,Zr 67 3 16,om 9 66,⟨none,none,none,true,.st 3 (.t 11) (.t 67)⟩]) (sO [om 68 17] (cT 68 (oP [om 69 10,om 70 12,RQ 71 3 1 1 0 0 1 70,VT 72 3 1 8 69 71,om 10 72])))))))) (oP [YE 73 3 38 1,om 38 73]))))
def r32:RC:=(sO [Zi 2 25 0,WY 4,ZA 5 0] (sQ (sO [Zr 18 2 2,Zc 19 64 18,om 6 19] (sO [om 20 6,TY 21 26 20 0] (cT 21 (sO [om 22 6,WY 4,om 5 22] .ret)))) (sQ (sO [ZX 23 0 2,Z0 24 23,om 25 1,Zb 26 91 24 25,om 7 26] (sO [om 27 7,TY 28 26 27 0] (cT 28 (sO [om 29 7,WY 4,om 5 29] .ret)))) (sO [Zr 31 2 2,Zc 32 98 31,Zc 33 92 32,om 30 33,YO 34 30 0,YO 35 30 1,zl 8 152,YT 3 8 34,om 9 35] (sO [WY 10] (sO [zP 11 0 0 0 167] (sQ (sO [om 36 1,YU 37 36,ZA 38 0] (.block 0 (.loop aoA))) (sO [om 74 10,om 4 74,ZA 5 0] .ret))))))))
theorem k32:Ze 32=some ([.tmp 4,.tmp 5],r32):=by kernel_rfl
def r98:RC:=(sO [Zi 1 25 0,WY 2] (sO [ZX 3 1 1,Z0 4 3,o 5 (.call 168 [(.t 4),(.v (.fn (.func 169) [] []))]),om 2 5] .ret))
theorem k98:Ze 98=some ([.tmp 2],r98):=by kernel_rfl
def r99:RC:=(sO [Zi 3 25 0,Zi 4 167 1,zP 6 0 0 0 167,Zj 7] (sQ (sO [ZX 9 1 3,Z0 10 9,ZX 11 0 4,Z0 12 11,Zk 13 9 10 12,Zr 14 9 13,DB 8 0 0 0 0 0 0 144,YT 9 8 14] (sO [ZX 15 8 8,Z0 16 15,VM 17 3 16 0] (cT 17 (sO [ZX 18 2 4,Z0 19 18,YE 20 3 19 1,ZX 21 2 4,YT 1 21 20] (sO [ZX 22 0 4,Z0 23 22,VM 24 3 23 0,om 25 24,YW 26 25 2 4,YV 27 25 26,YW 28 25 8 8,YV 29 25 28,Ag 30 25 3 27 29,YJ 31 25 30] (cT 31 (oP [o 32 (.On [(iI 0),(iI 0),(iI 0)] []),YT 3 4 32]))))))) (sQ (sO [om 33 2,ZX 34 0 4,Z0 35 34,Zk 36 1 33 35,Z0 37 36,WZ 38 37] (cT 38 (sO [Zr 39 3 4,YT 3 6 39,Zj 7] .ret))) (sO [ZX 40 1 4,Z0 41 40,YE 42 3 41 1,ZX 43 1 4,YT 1 43 42] (sQ (sQ (.TP 10 [ZX 44 1 4,Z0 45 44,ZX 46 1 3,Z0 47 46,ZX 48 0 4,Z0 49 48,Zk 50 9 47 49,ZX 51 7 50,Z0 52 51,YN 53 3 45 52]) (cT 53 (sO [Zr 54 3 4,YT 3 6 54,Zj 7] .ret))) (sQ (sO [ZX 55 0 4,Z0 56 55,YE 57 3 56 1,ZX 58 1 3,Z0 59 58,YU 60 59,YN 61 3 57 60] (cT 61 (sO [ZX 62 0 4,Z0 63 62,YE 64 3 63 1,o 65 (.On [(iI 0),(iI 0),(iI 0)] [(0,1,(.t 64))]),YT 3 6 65,Zj 7] .ret))) (sO [o 66 (.On [(iI 0),(iI 0),(iI 0)] []),YT 3 6 66,TK 7] .ret)))))))
theorem k99:Ze 99=some ([.cell 6 167,.tmp 7],r99):=by kernel_rfl
def Bu:RC:=(sO [YN 11 3 10 9] (sQ (cS 11 (.exit 0)) (sQ (.block 1 (sO [Zk 12 9 8 10,Zr 13 9 12,DB 7 0 0 0 0 0 0 144,YT 9 7 13] (oP [om 14 5,om 15 1,Zr 16 9 7,DC 17 15 16,o 18 (.U3 48 7 1 [(.str []),(iI 0),(iI 0),(iI 0),(iI 0),(.str []),.ZW] [(0,7,(.t 17))]),VT 19 48 7 88 14 18,om 5 19]))) (oP [YE 20 3 10 1,om 10 20]))))
def agF:RC:=(sO [WY 4] (sO [WY 5] (sQ (sO [om 8 0,YU 9 8,ZA 10 0] (.block 0 (.loop Bu))) (sO [om 21 5,om 4 21] .ret))))
theorem aki:Ze 168=some ([.tmp 4],agF):=by kernel_rfl
def agG:RC:=(sO [Zi 1 144 0,Pa 2 0 0 0 0 48] (sO [ZX 3 0 1,Zr 4 7 3,YT 7 2 4] .ret))
theorem akj:Ze 169=some ([.cell 2 48],agG):=by kernel_rfl
end Go.Am
namespace Go.Am
open Go
abbrev aD:=Nat×Int×Int
def aC (T:Nat->Int)(n:Nat)(h:Nat->Bool)(a:Nat)(k g:Int):aD×Bool :=
 bif !h a then ((a,k,g),false) else bif decide (k+1<T a) then ((a,k+1,g),false) else bif decide ((a:Int)+1<n) then ((a+1,0,0),false) else ((0,0,0),true)
def eS (W T:Nat->Int)(n:Nat)(h:Nat->Bool)(a:Nat)(k g:Int):aD×Bool :=
 bif decide (W a>0) then (bif decide ((a:Int)>0)&&decide (g+1>W a) then aC T n h 0 0 0 else aC T n h a k (g+1)) else aC T n h a k g
def trP (W T:Nat->Int)(n:Nat)(H:Nat->Nat->Bool):Nat->Nat->aD->List Int
 |0,_,_=>[]
 |r+1,t,(a,k,g)=>bif (eS W T n (H t) a k g).2 then (t:Int)::trP W T n H r (t+1) (eS W T n (H t) a k g).1 else trP W T n H r (t+1) (eS W T n (H t) a k g).1
def rfQ (T:Nat->Int)(n:Nat)(h:Nat->Bool)(t a:Nat)(k g:Int):aD×Bool :=
 bif !h a then ((a,k,g),false) else bif decide (k+1<T a) then ((a,k+1,g),false) else bif ((a:Int)+1==n) then ((0,0,t),true) else ((a+1,0,t),false)
def rfP (W T:Nat->Int)(n:Nat)(h:Nat->Bool)(t a:Nat)(k g:Int):aD×Bool :=
 bif decide (W a>0)&&decide ((t:Int)-g>W a) then rfQ T n h t 0 0 g else rfQ T n h t a k g
def trR (W T:Nat->Int)(n:Nat)(H:Nat->Nat->Bool):Nat->Nat->aD->List Int
 |0,_,_=>[]
 |r+1,t,(a,k,g)=>bif (rfP W T n (H t) t a k g).2 then (t:Int)::trR W T n H r (t+1) (rfP W T n (H t) t a k g).1 else trR W T n H r (t+1) (rfP W T n (H t) t a k g).1
theorem anz {T:Nat->Int}{n:Nat}{h:Nat->Bool}{a:Nat}{k g:Int}{t:Nat}(ha:a<n)(hk:0<=k/\k<=t)(hg:0<=g/\g<=t+1) :
  (aC T n h a k g).1.1<n/\(0<=(aC T n h a k g).1.2.1/\(aC T n h a k g).1.2.1<=t+1)/\(0<=(aC T n h a k g).1.2.2/\(aC T n h a k g).1.2.2<=t+1):=by
 unfold aC
 cases h a <;> simp only[ama,amp,cond_true,cond_false]
 ·exact⟨ha,by omega,by omega⟩
 ·cases decide (k+1<T a) <;> simp only[cond_true,cond_false]
  ·cases hn:decide ((a:Int)+1<n) <;> simp only[cond_true,cond_false]
   ·exact⟨by omega,by omega,by omega⟩
   ·rw[decide_eq_true_eq] at hn;exact⟨by omega,by omega,by omega⟩
  ·exact⟨ha,by omega,by omega⟩
theorem anB {W T:Nat->Int}{n:Nat}{h:Nat->Bool}{a:Nat}{k g:Int}{t:Nat}(ha:a<n)(hk:0<=k/\k<=t)(hg:0<=g/\g<=t) :
  (eS W T n h a k g).1.1<n/\(0<=(eS W T n h a k g).1.2.1/\(eS W T n h a k g).1.2.1<=t+1)/\(0<=(eS W T n h a k g).1.2.2/\(eS W T n h a k g).1.2.2<=t+1):=by
 unfold eS
 cases decide (W a>0) <;> simp only[cond_true,cond_false]
 ·exact anz ha hk ⟨hg.1,by omega⟩
 ·cases decide ((a:Int)>0)&&decide (g+1>W a) <;> simp only[cond_true,cond_false]
  ·exact anz ha hk (by omega)
  ·exact anz (by omega) (by omega) (by omega)
theorem amP {W T:Nat->Int}{n:Nat}{h:Nat->Bool}{a:Nat}{k g e:Int}{t:Nat}(ha:a<n)(hg:W a>0->g=t-e)(h0:¬W 0>0) :
  (aC T n h a k g).2=(rfQ T n h t a k e).2/\(aC T n h a k g).1.1=(rfQ T n h t a k e).1.1/\(aC T n h a k g).1.2.1=(rfQ T n h t a k e).1.2.1/\(aC T n h a k g).1.1<n /\
   (W (aC T n h a k g).1.1>0->(aC T n h a k g).1.2.2=t-(rfQ T n h t a k e).1.2.2):=by
 unfold aC rfQ
 cases h a <;> simp only[ama,amp,cond_true,cond_false]
 ·exact⟨by first|rfl|trivial,by first|rfl|trivial,by first|rfl|trivial,ha,hg⟩
 ·cases decide (k+1<T a) <;> simp only[cond_true,cond_false]
  ·by_cases hn:(a:Int)+1<n
   ·have h1:((a:Int)+1==n)=false:=by simp;omega
    rw[decide_eq_true hn,h1];simp only[cond_true,cond_false];exact⟨by first|rfl|trivial,by first|rfl|trivial,by first|rfl|trivial,by omega,fun _=>by omega⟩
   ·have h1:((a:Int)+1==n)=true:=by simp;omega
    rw[decide_eq_false hn,h1];simp only[cond_true,cond_false];exact⟨by first|rfl|trivial,by first|rfl|trivial,by first|rfl|trivial,by omega,fun hw=>absurd hw h0⟩
  ·exact⟨by first|rfl|trivial,by first|rfl|trivial,by first|rfl|trivial,ha,hg⟩
theorem anT {W T:Nat->Int}{n:Nat}{h:Nat->Bool}{a:Nat}{k g e:Int}{t:Nat}(ha:a<n)(hg:W a>0->g=t-1-e)(h0:¬W 0>0) :
  (eS W T n h a k g).2=(rfP W T n h t a k e).2/\(eS W T n h a k g).1.1=(rfP W T n h t a k e).1.1/\(eS W T n h a k g).1.2.1=(rfP W T n h t a k e).1.2.1/\(eS W T n h a k g).1.1<n /\
   (W (eS W T n h a k g).1.1>0->(eS W T n h a k g).1.2.2=t-(rfP W T n h t a k e).1.2.2):=by
 unfold eS rfP;by_cases hw:W a>0
 ·have hg:=hg hw;have hp:(a:Int)>0:=by
   rcases Nat.eq_zero_or_pos a with h|h
   ·subst h;exact absurd hw h0
   ·omega
  rw[decide_eq_true hw,decide_eq_true hp];have e1:decide (g+1>W a)=decide ((t:Int)-e>W a):=by
   congr 1;apply propext;omega
  rw[e1];simp only[al9,cond_true]
  cases decide ((t:Int)-e>W a) <;> simp only[cond_true,cond_false]
  ·exact amP ha (fun _=>by omega) h0
  ·exact amP (by omega) (fun hw=>absurd hw h0) h0
 ·rw[decide_eq_false hw];simp only[amq,cond_false];exact amP ha (fun h=>absurd h hw) h0
theorem amQ {W T:Nat->Int}{n:Nat}{H:Nat->Nat->Bool}(h0:¬W 0>0):∀(r t a:Nat) (k g e:Int),a<n->(W a>0->g=t-1-e)->trP W T n H r t (a,k,g)=trR W T n H r t (a,k,e)
 |0,_,_,_,_,_,_,_=>rfl
 |r+1,t,a,k,g,e,ha,hg=>by
  obtain⟨e1,e2,e3,e4,e5⟩:=anT (T:=T) (n:=n) (h:=H t) (k:=k) ha hg h0;rw[trP,trR,e1];generalize eS W T n (H t) a k g=x at *;generalize rfP W T n (H t) t a k e=y at *;obtain⟨⟨x1,x2,x3⟩,xb⟩:=x;obtain⟨⟨y1,y2,y3⟩,yb⟩:=y;simp only at e1 e2 e3 e4 e5 ⊢;subst e2 e3;have ih:=amQ (T:=T) (H:=H) h0 r (t+1) x1 x2 x3 y3 e4 fun hw=>by rw[e5 hw];omega
  rw[ih]
def Wn (S:List Step)(i:Nat):Int:=match S[i]? with
 |some s=>s.within
 |none=>0
def Tm (S:List Step)(i:Nat):Int:=match S[i]? with
 |some s=>s.times
 |none=>0
end Go.Am
namespace Go.Am
open Go
variable [Z4]
set_option maxRecDepth 100000
set_option maxHeartbeats 4000000
def Ft (c:aD):AV:=.agg [.int .i64 c.1,.int .i64 c.2.1,.int .i64 c.2.2]
def JZ (hs:List Bool)(i:Nat):Bool:=hs.getD i false
theorem yh {nh:Bool}{hs:List Bool}{a:Nat}(h:a<hs.length):Ud 1 (ZG nh (ZM hs)) (.int .i64 (a:Int))=some (.fp [.bool (JZ hs a)] 0):=by
 refine Vr 1 nh (ZM hs) .i64 a (.bool (JZ hs a)) (by omega) ?_ rfl (by decide);rw[amn];simp[ZM,JZ,alM,aaa h]
theorem P7 {nl:Bool}{l:List Step}{a:Nat}(h:a<l.length):Ud 9 (ZG nl (Zx l)) (.int .i64 (a:Int))=some (.fp l[a].T0 0):=by
 refine Vr 9 nl (Zx l) .i64 a (YL l[a]) (by omega) ?_ rfl (by decide);rw[amn,Wu,aaa h];rfl
theorem D0 {l:List Step}{a:Nat}(h:a<l.length):Wn l a=l[a].within:=by unfold Wn;rw[aaa h]
theorem G3 {l:List Step}{a:Nat}(h:a<l.length):Tm l a=l[a].times:=by unfold Tm;rw[aaa h]
theorem c99 (p:Prog)(hs:List Bool)(nh:Bool)(a:Nat)(k g:Int)(ha:a<p.steps.length)(hh:hs.length=p.steps.length)(hl:p.steps.length<2^30)(hk:0<=k/\k<=2^40)(hg:0<=g/\g<=2^40) :
  ZE U 99 [Vw p,Ft (a,k,g),ZG nh (ZM hs)]=some (.XU [Ft (eS (Wn p.steps) (Tm p.steps) p.steps.length (JZ hs) a k g).1,.bool (eS (Wn p.steps) (Tm p.steps) p.steps.length (JZ hs) a k g).2]):=by
 refine ZR k99 (by kernel_rfl) (by simp[ZU,X',Ft,still,X7]) ?_;have hx:=P7 (nl:=p.nl) ha;have h0:0<p.steps.length:=by omega
 have Iv:Ud 9 (ZG p.nl (Zx p.steps)) (.int .i64 0)=some (.fp p.steps[0].T0 0):=P7 (nl:=p.nl) h0;have hb:=yh (nh:=nh) (hs:=hs) (a:=a) (by omega);have Er:Ud 1 (ZG nh (ZM hs)) (.int .i64 0)=some (.fp [.bool (JZ hs 0)] 0):=yh (nh:=nh) (hs:=hs) (a:=0) (by omega);have w1:IntKind.i64.wrap (g+1)=g+1:=by rw[wrap_i64] <;> omega
 have w2:IntKind.i64.wrap (k+1)=k+1:=by rw[wrap_i64] <;> omega
 have w3:IntKind.i64.wrap ((a:Int)+1)=(a:Int)+1:=by rw[wrap_i64] <;> omega
 rw[X9];simp only[Ft,Step.T0] at hx Iv ⊢;unfold eS aC;rw[D0 ha,G3 ha,G3 h0];generalize p.steps[a]=x at *;generalize p.steps[0]=y at *;have w4:IntKind.i64.wrap 1=1:=by rw[wrap_i64] <;> omega
 cases h1:decide (x.within>0) <;> cases h2:decide ((a:Int)>0) <;> cases h3:decide (g+1>x.within)
 all_goals simp only[go_sem,r99,ZL,hx,hb,Iv,Er,w1,w2,w3,w4,h1,h2,h3,ZI,YY,Bool.and_true,Bool.and_false,cond_true,cond_false]
 all_goals first
  |(cases JZ hs a <;> cases decide (k+1<x.times) <;> cases decide ((a:Int)+1<p.steps.length) <;> rfl)
  |(have e0:((0:Nat):Int)+1=1:=rfl
    simp only[e0]
    cases JZ hs 0 <;> cases decide (1<y.times) <;> cases decide ((1:Int)<p.steps.length) <;> rfl)
end Go.Am
namespace Go.Am
open Go
variable [Z4]
theorem ao0 (l:List Int)(t:Nat):∀C:List Z5,(∀c∈C,c.wf)->outs C ((ZJ C).map (atR l t))=C.map (atR l t)
 |[],_=>rfl
 |c::C,h=>by
  have hd:((Ve c).map (atR l t)++(ZJ C).map (atR l t)).drop (Ve c).length=(ZJ C).map (atR l t):=by
   rw[<-agC (f:=atR l t),amy]
  rw[ZJ,alY,outs,ang l t c (h c (aba ..)),hd,ao0 l t C fun x hx=>h x (aab _ hx),alT]
theorem aoZ {C:List Z5}(h:∀c∈C,c.wf):∀c∈ZJ C,c.wf/\(ZF c.kind).leaf=true:=fun c hc=>by
 obtain⟨x,h1,h2⟩:=Lb hc;exact La x (h x h1) c h2
def Ha (l:List Int)(S:List Step)(t i:Nat):Bool:=match S[i]? with
 |some s=>atR l t s.cond
 |none=>false
def E9 (l:List Int)(S:List Step):List Int:=trR (Wn S) (Tm S) S.length (Ha l S) l.length 0 (0,0,0)
def gn (l:List Int)(S:List Step):List Int:=trP (Wn S) (Tm S) S.length (Ha l S) l.length 0 (0,0,0)
theorem cr (l:List Int)(S:List Step)(h0:¬Wn S 0>0)(hn:0<S.length):gn l S=E9 l S :=
 amQ h0 _ _ _ _ _ _ hn fun h=>absurd h h0
theorem ana (l:List Int)(S:List Step):Wn (S.map Step.norm)=Wn S/\Tm (S.map Step.norm)=Tm S/\Ha l (S.map Step.norm)=Ha l S:=by
 refine⟨?_,?_,?_⟩
 ·funext i;unfold Wn;rw[alV];cases S[i]? <;> rfl
 ·funext i;unfold Tm;rw[alV];cases S[i]? <;> rfl
 ·funext t i;unfold Ha;rw[alV];cases S[i]? with
  |none=>rfl
  |some s=>exact mK l t s.cond
theorem aoI (l:List Int)(S:List Step):gn l (S.map Step.norm)=gn l S:=by
 obtain⟨e1,e2,e3⟩:=ana l S;unfold gn;rw[e1,e2,e3,agC]
end Go.Am
namespace Go.Am
open Go
variable [Z4]
set_option maxRecDepth 100000
set_option maxHeartbeats 4000000
theorem akJ (x:Step):ZE U 169 [YL x]=some (Zw x.cond):=by
 refine ZR akj (by kernel_rfl) (by simp[ZU,YL,still,X7]) ?_;rw[ZV];simp only[YL,Z5.cells];simp only[go_sem,agG,ZL,UL]
theorem ag7 (x:Step)(s:St):GR U (.fn (.func 169) [] []) [YL x] s=some (Zw x.cond,s):=by
 simp only[NJ,amg,alZ,akJ,U8]
theorem akK (nl:Bool)(l:List Step)(hl:l.length<2^30):ZE U 168 [ZG nl (Zx l),.fn (.func 169) [] []]=some (ZG true ((l.map Step.cond).map Zw)):=by
 refine ZR aki (by kernel_rfl) (by simp[ZU,still,X7]) ?_;simp only[go_sem,agF,ZI,YY];refine YH (σ:=Nat) (fun i=>l.length-i) (fun i=>some (ZG true ((l.map Step.cond).map Zw))) (fun i e s=>i<=l.length/\Env.get e 1=.fn (.func 169) [] []/\Env.get e 8=ZG nl (Zx l)/\Env.get e 9=.int .i64 l.length/\Env.get e 10=.int .i64 i/\8<=s.next/\Fr s /\
  ∃v,Env.get e 5=v/\ZK s 8 48 7 i (Yw ((l.take i).map Step.cond)) v) 0 ?_ rfl ?_
 ·rintro L i e s ⟨hi,g1,g8,g9,rb,hn,PX,v,g5,hv⟩ IH;have Jl:=hv.Xj;have Re:=hv.Zz;by_cases hd:i<l.length
  ·have hx:(Zx l)[i]? = some (YL l[i]):=by rw[Wu,aaa hd];rfl
   have hw:=ZN hd (by omega);have hc:=ag7 l[i];rw[ZV] at hc;rw[YR (X_ hd)] at g8;simp only[Z5.cells,YL] at hx hc;have UP:(i+1)*88<=1099511627776:=by omega
   have VP:i+1<=1099511627776:=by omega
   have JS:Yw ((l.take (i+1)).map Step.cond)=Yw ((l.take i).map Step.cond)++l[i].cond.cells:=by
    rw[alX hd,alY,Yw,List.flatMap_append,List.map_singleton,List.flatMap_singleton,ZV];rfl
   simp only[Z5.cells] at JS;simp only[go_sem,Bu,g1,g5,g8,g9,rb,Z8,hd,hx,hc,ZL,ZH,Nat.reducePow,amk,Jl,UP,VP];have rB:∀y z w,ZK (((s.new y).put s.next z).new w) 8 48 7 i (Yw ((l.take i).map Step.cond)) v:=fun y z w=>hv.mono (by rw[Z_,Z',Z_];omega) fun j _ hj=>by rw[Z7,Z',Z_,if_neg (by omega),Z9,if_neg (by omega),Z7,if_neg (by omega)]
   obtain⟨s1,f1,f2,f3,f4,f5⟩:=(rB (.cells [.str [],.int .i64 0,.int .i64 0,.int .i64 0,.int .i64 0,.str [],.ZW,.int .i64 0,.int .i64 0] 144 false 0 0) (.cells l[i].T0 144 false 0 0) (.cells l[i].cond.cells 48 false 0 0)).Gy (by rw[Z_,Z',Z_];omega) (m:=1) (new:=l[i].cond.cells) (by omega) (by rfl) (by simp only[Z5.cells,go_sem,ZL]);simp only[Z5.cells,Step.T0] at f1 f2 f3;rw[f1];simp only[go_sem,rb,hw];rw[<-JS] at f3;refine IH (i+1) _ _ (by omega) ⟨by omega,?_,?_,?_,?_,?_,f5 (((PX.new _).put (by rw[Z_];omega) _).new _),_,?_,f3⟩
   all_goals simp only[go_sem,g1,g8,g9,f2,YR (X_ hd)]
   all_goals omega
  ·have:i=l.length:=by omega
   subst this;rw[amH] at hv;have Pd:ZK s 8 48 7 (l.map Step.cond).length (Yw (l.map Step.cond)) v:=by rw[agC];exact hv
   have Rk:=Pd.Vi U Ej Ei (by omega) OS (d:=39) (fun a=>LG _ _ _);simp only[go_sem,Bu,g5,g9,rb,Z8,alh,Rk]
 ·refine⟨aic _,?_,?_,?_,?_,?_,?_,.ZW,?_,ZK.nil _ _ _ _⟩
  all_goals try simp only[go_sem]
  all_goals first|rfl|exact Fr.own|skip
theorem c98 (p:Prog)(hl:p.steps.length<2^30):ZE U 98 [Vw p]=some (ZG true ((p.steps.map Step.cond).map Zw)):=by
 refine ZR k98 (by kernel_rfl) (by simp[ZU,X']) ?_;have:=akK p.nl p.steps hl;rw[X9];simp only[go_sem,r98,this,UL]
def runT (l:List Int)(S:List Step):Nat->Nat->List Int->aD->List Int
 |0,_,_,_=>[]
 |n+1,i,Yy,(a,k,g) =>
  bif (eS (Wn S) (Tm S) S.length (JZ (outs (S.map Step.cond) (Xu (Xg l (i:Int)) (QS l (i:Int)) ((i:Int)==0) (ZJ (S.map Step.cond)) Yy))) a k g).2 then
   (i:Int)::runT l S n (i+1) (WN (Xg l (i:Int)) (QS l (i:Int)) ((i:Int)==0) (ZJ (S.map Step.cond)) Yy) (eS (Wn S) (Tm S) S.length (JZ (outs (S.map Step.cond) (Xu (Xg l (i:Int)) (QS l (i:Int)) ((i:Int)==0) (ZJ (S.map Step.cond)) Yy))) a k g).1
  else runT l S n (i+1) (WN (Xg l (i:Int)) (QS l (i:Int)) ((i:Int)==0) (ZJ (S.map Step.cond)) Yy) (eS (Wn S) (Tm S) S.length (JZ (outs (S.map Step.cond) (Xu (Xg l (i:Int)) (QS l (i:Int)) ((i:Int)==0) (ZJ (S.map Step.cond)) Yy))) a k g).1
def vn (l:List Int)(S:List Step):List Int:=runT l S l.length 0 ((ZJ (S.map Step.cond)).map VW) (0,0,0)
theorem ank (l:List Int)(S:List Step)(t:Nat):JZ ((S.map Step.cond).map (atR l t))=Ha l S t:=by
 funext i
 unfold JZ Ha;rw[alM,List.map_map,alV]
 cases S[i]? <;> rfl
theorem runT_eq (l:List Int)(S:List Step)(hw:∀s∈S,s.cond.wf):∀(n i:Nat) (c:aD),runT l S n i ((ZJ (S.map Step.cond)).map fun x=>aa7 l x i) c=trP (Wn S) (Tm S) S.length (Ha l S) n i c
 |0,_,_=>rfl
 |n+1,i,(a,k,g)=>by
  have hC:∀c∈S.map Step.cond,c.wf:=fun c hc=>by
   obtain⟨s,hs,rfl⟩:=alN.1 hc;exact hw s hs
  obtain⟨e1,e2⟩:=qc l i _ (aoZ hC);rw[runT,e1,e2,ao0 l i _ hC,ank,runT_eq l S hw n (i+1),trP]
theorem pc (l:List Int)(S:List Step)(hw:∀s∈S,s.cond.wf):vn l S=gn l S:=runT_eq l S hw l.length 0 (0,0,0)
theorem ao_ (S:List Step)(B:List Bool):(outs (S.map Step.cond) B).length=S.length:=by rw[zu,agC]
theorem l32 (nl:Bool)(l:List Int)(hl:Hb l)(p:Prog)(ZC:0<p.steps.length)(hn:p.steps.length<=8)(S3:∀s∈p.steps,s.cond.wf)(hL:(ZJ (p.steps.map Step.cond)).length<=2^20){ks:List K}(sm:St)(m:Nat)(hm8:8<m)(tS:sm.next=m+2)(v lv sv:AV)
  (hm:∀s',(∀j,j<=m->s'.get j=sm.get j)->m<s'.next->Yn U s' 40 (.agg [v,lv,sv])=some (.agg [.fz ((p.steps.map Step.cond).map Zw),.fz ((ZJ (p.steps.map Step.cond)).map Zw),.fz ((ZJ (p.steps.map Step.cond)).map WO)]))
  (gp:sm.get 8=some (.cells [.int .i64 p.lines,ZG p.nl (Zx p.steps)] 25 false 0 0))(gm:sm.get m=some (.cells [v,lv,sv] 152 false 0 0))(ga:sm.get (m+1)=some (.cells [.int .i64 0,.int .i64 0,.int .i64 0] 167 false 0 0))(frm:Fr sm){r:Option AV}
  (MZ:still lv=false)(hk:∀e s w,Env.get e 10=w->ZK s (m+2) 3 1 (vn l p.steps).length (ints (vn l p.steps)) w->goN U (Mt U [.tmp 4,.tmp 5]) ks e s=r){e:Env}{stv:AV}
  (amW:∀s',(∀j,j<=m->s'.get j=sm.get j)->m<s'.next->Yn U s' 40 stv=some (.fz (ints ((ZJ (p.steps.map Step.cond)).map VW))))
  (g1:Env.get e 1=ZG nl (ints l))(g2:Env.get e 2=.ptr 8 0)(g8:Env.get e 8=.ptr m 0)(g9:Env.get e 9=stv)(rb:Env.get e 10=.ZW)(fk:Env.get e 11=.ptr (m+1) 0)(g36:Env.get e 36=ZG nl (ints l))(g37:Env.get e 37=.int .i64 l.length)(g38:Env.get e 38=.int .i64 (0:Nat)) :
  SD U (Mt U [.tmp 4,.tmp 5]) (.bk 0::ks) aoA e sm=r:=by
 have hlen:=hl.1;have hCw:∀c∈p.steps.map Step.cond,c.wf:=fun c hc=>by
  obtain⟨s,hs,rfl⟩:=alN.1 hc;exact S3 s hs
 have hlw:=aoZ hCw;refine YP (σ:=Nat) (ZB:=fun (x:Option AV)=>x=r) (fun i=>l.length-i) (fun i e s=>i<=l.length/\Env.get e 1=ZG nl (ints l)/\Env.get e 2=.ptr 8 0/\Env.get e 8=.ptr m 0/\Env.get e 11=.ptr (m+1) 0/\Env.get e 36=ZG nl (ints l)/\Env.get e 37=.int .i64 l.length/\Env.get e 38=.int .i64 (i:Nat) /\
  Fr s/\m+2<=s.next/\(∀j,j<=m->s.get j=sm.get j) /\
  ∃stv Yy ov acc a k g,Env.get e 9=stv/\Env.get e 10=ov/\s.get (m+1)=some (.cells [.int .i64 (a:Nat),.int .i64 k,.int .i64 g] 167 false 0 0)/\(∀s',(∀j,j<=m->s'.get j=sm.get j)->m<s'.next->Yn U s' 40 stv=some (.fz (ints Yy)))/\Yy.length=(ZJ (p.steps.map Step.cond)).length/\(∀x∈Yy,0<=x/\x<=256) /\
   a<p.steps.length/\(0<=k/\k<=(i:Int))/\(0<=g/\g<=(i:Int))/\acc.length<=i/\ZK s (m+2) 3 1 acc.length (ints acc) ov/\acc++runT l p.steps (l.length-i) i Yy (a,k,g)=vn l p.steps) 0 ?_
  ⟨aic _,g1,g2,g8,fk,g36,g37,g38,frm,by omega,fun _ _=>rfl,stv,_,.ZW,[],0,0,0,g9,rb,ga,amW,by simp,fun x hx=>by
   obtain⟨y,hy,rfl⟩:=alN.1 hx;exact ao9 (hlw y hy).1.A9,ZC,by omega,by omega,aic _,ZK.nil _ _ _ _,rfl⟩
 clear g1 g2 g8 g9 rb fk g36 g37 g38 amW e stv;rintro Lp i e s ⟨hi,g1,g2,g8,fk,g36,g37,g38,fr,nx,old,stv,Yy,ov,acc,a,k,g,g9,rb,gc,Xz,LP,hsb,ha,Jd,lV,Kc,hv,YA⟩ IH;by_cases hd:i<l.length
 ·have hw:=ZN hd (by omega);have LS:IntKind.i64.wrap ((i:Int)-1)=(i:Int)-1:=by rw[wrap_i64] <;> omega
  have gk:max 0 ((i:Int)-1)=((i-1:Nat):Int):=by omega
  have Jw:=Ys (nl:=nl) hd;have EI:=Ys (nl:=nl) (l:=l) (t:=i-1) (by omega);rw[<-gk] at EI;have hbf:Xg l (max 0 ((i:Int)-1))=QS l (i:Int):=rfl;rw[hbf] at EI;have gms:s.get m=some (.cells [v,lv,sv] 152 false 0 0):=by rw[old m (agB _),gm]
  have gps:s.get 8=some (.cells [.int .i64 p.lines,ZG p.nl (Zx p.steps)] 25 false 0 0):=by rw[old 8 (by omega),gp]
  have aff:∀j,j<=m->(s.upto (s.next+18)).get j=sm.get j:=fun j hj=>by rw[ZT,old j hj]
  have Vl:m<(s.upto (s.next+18)).next:=by rw[Z6];omega
  have WE:X6 U (ZE U 93 [.agg [v,lv,sv],stv,.agg [.int .i64 (Xg l (i:Int)),.int .i64 (QS l (i:Int)),.bool ((i:Int)==0)]]) 93 [.agg [v,lv,sv],stv,.agg [.int .i64 (Xg l (i:Int)),.int .i64 (QS l (i:Int)),.bool ((i:Int)==0)]] (s.upto (s.next+18)) =
    some (.XU [.fz (ints (WN (Xg l (i:Int)) (QS l (i:Int)) ((i:Int)==0) (ZJ (p.steps.map Step.cond)) Yy)),ZG true (ZM (outs (p.steps.map Step.cond) (Xu (Xg l (i:Int)) (QS l (i:Int)) ((i:Int)==0) (ZJ (p.steps.map Step.cond)) Yy)))],s.upto (s.next+18)):=by
   rw[z93 (by simp[ZU,still,MZ])];have e1:=hm _ aff Vl;have e2:=Xz _ aff Vl;have e3:Y' (Yn U (s.upto (s.next+18)) 40) [.agg [v,lv,sv],stv,.agg [.int .i64 (Xg l (i:Int)),.int .i64 (QS l (i:Int)),.bool ((i:Int)==0)]] =
     some [.agg [.fz ((p.steps.map Step.cond).map Zw),.fz ((ZJ (p.steps.map Step.cond)).map Zw),.fz ((ZJ (p.steps.map Step.cond)).map WO)],.fz (ints Yy),.agg [.int .i64 (Xg l (i:Int)),.int .i64 (QS l (i:Int)),.bool ((i:Int)==0)]]:=by
    rw[Xn,e1,Xn,e2,Xn,RF,Vi];rfl
   rw[e3];have hz:=aiL (p.steps.map Step.cond) Yy (Xg l (i:Int)) (QS l (i:Int)) ((i:Int)==0) hCw (by rw[agC];omega) hsb LP hL (vh hl _) (vh hl _) (s.upto (s.next+18));rw[Yc] at hz;rw[hz]
  have oJ:=c99 p (outs (p.steps.map Step.cond) (Xu (Xg l (i:Int)) (QS l (i:Int)) ((i:Int)==0) (ZJ (p.steps.map Step.cond)) Yy)) true a k g ha (ao_ _ _) (by omega) (by omega) (by omega);have ok:=anB (W:=Wn p.steps) (T:=Tm p.steps) (n:=p.steps.length) (h:=JZ (outs (p.steps.map Step.cond) (Xu (Xg l (i:Int)) (QS l (i:Int)) ((i:Int)==0) (ZJ (p.steps.map Step.cond)) Yy))) (t:=i) ha Jd lV;have Jl:=hv.Xj;have Re:=hv.Zz;have UP:(acc.length+1)*8<=1099511627776:=by omega
  have VP:acc.length+1<=1099511627776:=by omega
  rw[show l.length-i=(l.length-(i+1))+1 by omega,runT] at YA;rw[X9] at oJ;simp only[Ft] at oJ;generalize eS (Wn p.steps) (Tm p.steps) p.steps.length (JZ (outs (p.steps.map Step.cond) (Xu (Xg l (i:Int)) (QS l (i:Int)) ((i:Int)==0) (ZJ (p.steps.map Step.cond)) Yy))) a k g=mv at *;obtain⟨⟨a',k',g'⟩,ZD⟩:=mv;simp only at oJ ok YA;have ne1:∀q,(s.next+q=m)=False:=fun q=>by simp;omega
  have ne2:∀q,(s.next+q=m+1)=False:=fun q=>by simp;omega
  have hS:∀x y z j,j<s.next->j≠m+1->(((((s.upto (s.next+18)).new x).put (s.next+18) y).upto (s.next+18+1+4)).put (m+1) z).get j=s.get j:=fun x y z j hj hjm=>by
   rw[Z9,if_neg (by omega),ZT,Z9,if_neg (by omega),Z7,Z6,if_neg (by omega),ZT]
  have gi:∀x y z,(((((s.upto (s.next+18)).new x).put (s.next+18) y).upto (s.next+18+1+4)).put (m+1) z).next=s.next+23:=fun x y z=>by rw[Z',Z6]
  have hSf:∀x y z,Fr (((((s.upto (s.next+18)).new x).put (s.next+18) y).upto (s.next+18+1+4)).put (m+1) z):=fun x y z =>
   ((((fr.upto (by omega)).new _).put (by rw[Z_,Z6];omega) _).upto (by rw[Z',Z_,Z6];omega)).put (by rw[Z6];omega) _
  have hSc:∀x y z,(((((s.upto (s.next+18)).new x).put (s.next+18) y).upto (s.next+18+1+4)).put (m+1) z).get (m+1)=some z:=fun x y z=>by rw[Z9,if_pos rfl]
  have rB:∀x y z,ZK (((((s.upto (s.next+18)).new x).put (s.next+18) y).upto (s.next+18+1+4)).put (m+1) z) (m+2) 3 1 acc.length (ints acc) ov:=fun x y z=>hv.mono (by rw[gi];omega) fun j h1 h2=>hS x y z j h2 (by omega)
  have anC:∀s',(∀j,j<=m->s'.get j=sm.get j)->m<s'.next->Yn U s' 40 (.fz (ints (WN (Xg l (i:Int)) (QS l (i:Int)) ((i:Int)==0) (ZJ (p.steps.map Step.cond)) Yy)))=some (.fz (ints (WN (Xg l (i:Int)) (QS l (i:Int)) ((i:Int)==0) (ZJ (p.steps.map Step.cond)) Yy))):=fun s' _ _=>rfl
  have Jh:=JI (Xg l (i:Int)) (QS l (i:Int)) ((i:Int)==0) (ZJ (p.steps.map Step.cond)) Yy LP;have SX:=aoE (now:=Xg l (i:Int)) (last:=QS l (i:Int)) (first:=((i:Int)==0)) (fun x hx=>(hlw x hx).1.A9) hsb
  cases ZD
  all_goals simp only[go_sem,aoA,g1,g2,g8,g9,rb,fk,g36,g37,g38,Z8,hd,Jw,EI,LS,gms,gps,gc,WE,oJ,ZH,Nat.reducePow,amk,Jl,UP,VP,ne2,hw]
  ·simp only[cond_false] at YA;refine IH (i+1) _ _ (by omega) ⟨by omega,?_,?_,?_,?_,?_,?_,?_,hSf _ _ _,by rw[gi];omega,fun j hj=>by rw[hS _ _ _ _ (by omega) (by omega),old j hj],_,_,ov,acc,a',k',g',?_,?_,hSc _ _ _,anC,Jh,SX,ok.1,by omega,by omega,by omega,rB _ _ _,YA⟩
   all_goals simp only[go_sem,g1,g2,g8,rb,fk,g36,g37]
  ·simp only[cond_true] at YA;generalize hA:Uy.cells [.int .i64 0,.int .i64 0,.int .i64 0] 167 false 0 0=A;generalize hB:Uy.cells [.int .i64 (a':Int),.int .i64 k',.int .i64 g'] 167 false 0 0=B;have Pd:ZK (((((((s.upto (s.next+18)).new A).put (s.next+18) B).upto (s.next+18+1+4)).put (m+1) B)).new (.cells [.int .i64 (i:Int)] 3 false 0 0)) (m+2) 3 1 acc.length (ints acc) ov:=(rB A B B).mono (by rw[Z_];omega) fun j _ hj=>by rw[Z7,if_neg (by omega)]
   have hL1:acc.length+1=(acc++[(i:Int)]).length:=by simp
   have hI1:ints acc++[.int .i64 (i:Int)]=ints (acc++[(i:Int)]):=by rw[ints,ints,alY];rfl
   obtain⟨s1,f1,f2,f3,f4,f5⟩:=Pd.Gy (by rw[Z_,gi];omega) (m:=1) (new:=[.int .i64 (i:Int)]) (by omega) (by rfl) (by rfl);rw[f1];simp only[go_sem,g38,hw];rw[hI1,hL1] at f3;rw[List.append_cons] at YA;have low:∀j,j<m+2->s1.get j=(((((s.upto (s.next+18)).new A).put (s.next+18) B).upto (s.next+18+1+4)).put (m+1) B).get j:=fun j hj=>by
    rw[f4 j (by rw[Z_,gi];omega) (Pd.B8 (.inr hj)),Z7,gi,if_neg (by omega)]
   refine IH (i+1) _ _ (by omega) ⟨by omega,?_,?_,?_,?_,?_,?_,?_,f5 ((hSf _ _ _).new _),by rw[f2,Z_,gi];omega,fun j hj=>by rw[low j (by omega),hS _ _ _ _ (by omega) (by omega),old j hj],_,_,_,acc++[(i:Int)],a',k',g',?_,?_,by rw[low _ (by omega),hSc,<-hB],anC,Jh,SX,ok.1,by omega,by omega,by rw[agy];simp;omega,f3,YA⟩
   all_goals simp only[go_sem,g1,g2,g8,fk,g36,g37,hL1]
 ·have:i=l.length:=by omega
  subst this;rw[Nat.sub_self,runT,alZ] at YA;subst YA;simp only[go_sem,aoA,g37,g38,Z8,alh];refine hk _ _ ov ?_ hv;simp only[go_sem,rb]
end Go.Am
