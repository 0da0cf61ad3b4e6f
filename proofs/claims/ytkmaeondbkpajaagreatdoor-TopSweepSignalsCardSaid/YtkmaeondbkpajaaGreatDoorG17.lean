/- A part of the proof of a statement of this seat: the machine on which the program is read, and what it computes; for every input. -/
import Derived.Test.YtkmaeondbkpajaaGreatDoorG16
import Derived.Test.YtkmaeondbkpajaaGreatDoorG03
import Derived.Test.YtkmaeondbkpajaaGreatDoorG15
import Derived.Test.YtkmaeondbkpajaaGreatDoorG13
import Derived.Test.YtkmaeondbkpajaaGreatDoorG12
import Derived.Test.YtkmaeondbkpajaaGreatDoorG07
import Derived.Test.YtkmaeondbkpajaaGreatDoorG14
set_option linter.all false
namespace Go.Am
open Go
variable [ZZ]
theorem EY (l:List Int)(i:Nat):∀L:List ZX,(∀c∈L,c.wf/\(Zy c.kind).leaf=true)->Yk (XS l (i:Int)) (WE l (i:Int)) ((i:Int)==0) L (L.map fun c=>yH l c i)=L.map (atR l i) /\
  Ye (XS l (i:Int)) (WE l (i:Int)) ((i:Int)==0) L (L.map fun c=>yH l c i)=L.map fun c=>yH l c (i+1)
 |[],_=>⟨rfl,rfl⟩
 |c::L,h=>by
  obtain⟨h1,h2⟩:=h c (aba ..);obtain⟨e1,e2⟩:=EY l i L fun x hx=>h x (aab _ hx)
  have hl:=Fy l c h1 h2 i;simp only[aju,Yk,Ye,hl,e1,e2];exact⟨by first|rfl|trivial,by first|rfl|trivial⟩
theorem vz:∀c:ZX,c.wf->c.norm.wf:=by
 intro c
 induction c using ZX.ind with
 |h k a b mi ma p nl kids ih =>
 intro h;rw[ZX.wf] at h;obtain⟨h1,h2,h3,h4,h5,h6,h7,h8,h9,h10,h11,h12,h13⟩:=h;rw[ZX.norm,ZX.wf,QG,Te];refine⟨h1,h2,h3,h4,h5,h6,h7,h8,fun q=>by rw[h9 q];rfl,fun q=>by simpa using h10 q,h11,h12,fun x hx=>?_⟩;obtain⟨y,hy,rfl⟩:=ajs.1 hx;exact ih y hy (h13 y hy)
theorem D_ (l:List Int)(t:Nat):∀kids:List ZX,(∀x∈kids,atR l t x.norm=atR l t x)->N6 l t (Wy kids)=N6 l t kids/\rK l t (Wy kids)=rK l t kids
 |[],_=>by rw[Wy];exact⟨rfl,rfl⟩
 |c::k,h=>by
  have ih:=D_ l t k fun x hx=>h x (aab _ hx)
  rw[Wy,N6,N6,rK,rK,h c (aba ..),ih.1];exact⟨rfl,rfl⟩
theorem BP (l:List Int)(t:Nat):∀c:ZX,atR l t c.norm=atR l t c:=by
 intro c
 induction c using ZX.ind with
 |h k a b mi ma p nl kids ih =>
 obtain⟨e1,e2⟩:=D_ l t kids ih;rw[ZX.norm,atR,atR,e1,e2,QG]
end Go.Am
namespace Go.Am
open Go
variable [ZZ]
set_option maxRecDepth 100000
set_option maxHeartbeats 8000000
def r5:RC:=(sO [Yy 2 31 0,XW 4] (sQ (sO [Ps 9 8,VO 10 9,om 11 10,Kt 12 11 2 2,AO 13 11 22 12 12,Uj 14 11 13,Yj 15 11 14,om 16 15,X8 17 16 1,AO 18 16 22 17 60,Uj 19 16 18,Yj 20 16 19] (cT 20 (sO [Ps 21 8,om 4 21] .ret))) (sO [Zh 23 2 2,YO 24 25 23,om 25 1,YI 26 18 24 25,om 22 26,Yd 27 22 0,Yd 28 22 1,om 5 27,om 6 28] (sO [Zh 29 2 2,YO 30 23 29,om 7 30] (sQ (sO [om 31 7,U4 32 3 31 0] (cT 32 (oP [ZP 33 0 2,ZS 34 33,om 35 1,YI 36 31 34 35,om 7 36]))) (sO [WS 8] (sQ (sO [om 37 7,U4 38 3 37 0] (cT 38 (oP [Zh 39 2 2,om 40 1,YI 41 35 39 40,om 8 41]))) (sO [om 42 5,om 43 6,om 44 7,om 45 8,o 46 (.call 36 [(.t 42),(.t 43),(.t 44),(.t 45)]),om 4 46] .ret))))))))
def Dg:RC:=(sO [YQ 39 3 38 37] (sQ (cS 39 (.exit 0)) (sQ (.block 1 (sO [om 40 38,Y0 41 1 36 38,ZS 42 41,om 12 40,om 13 42] (sQ (.Sf 18 [Zh 44 3 8,om 45 9,om 46 13,om 47 1,om 48 12,MC 49 3 48 1,o 50 (.raw (.call { callee:=.builtin .max,args:=#[(.const (.int .i64 0)),(.tmp 49)],argTypes:=#[3,3] })),Y0 51 1 47 50,ZS 52 51,om 53 12,U4 54 3 53 0,o 55 (.N_ [(iI 0),(iI 0),bF] [(0,1,(.t 46)),(1,1,(.t 52)),(2,1,(.t 54))]),Mh 56 69 44 45 55,om 43 56,Yd 57 43 0,Yd 58 43 1,om 14 57,om 15 58]) (sO [Zh 60 2 2,Zh 61 3 11,om 62 15,Mh 63 70 60 61 62,om 59 63,Yd 64 59 0,Yd 65 59 1,AN 16 0 0 0 133,Yw 3 16 64,om 17 65] (sQ (.Sf 4 [om 66 14,Zh 67 3 16,om 9 66,⟨none,none,none,true,.st 3 (.t 11) (.t 67)⟩]) (sO [om 68 17] (cT 68 (oP [om 69 10,om 70 12,Qn 71 3 1 1 0 0 1 70,VE 72 3 1 8 69 71,om 10 72])))))))) (oP [Yz 73 3 38 1,om 38 73]))))
def r32:RC:=(sO [Yy 2 25 0,WS 4,Zz 5 0] (sQ (sO [Zh 18 2 2,YO 19 47 18,om 6 19] (sO [om 20 6,Vh 21 26 20 0] (cT 21 (sO [om 22 6,WS 4,om 5 22] .ret)))) (sQ (sO [ZP 23 0 2,ZS 24 23,om 25 1,YI 26 66 24 25,om 7 26] (sO [om 27 7,Vh 28 26 27 0] (cT 28 (sO [om 29 7,WS 4,om 5 29] .ret)))) (sO [Zh 31 2 2,YO 32 68 31,YO 33 67 32,om 30 33,Yd 34 30 0,Yd 35 30 1,uF 8 128,Yw 3 8 34,om 9 35] (sO [WS 10] (sO [AN 11 0 0 0 133] (sQ (sO [om 36 1,YS 37 36,Zz 38 0] (.block 0 (.loop Dg))) (sO [om 74 10,om 4 74,Zz 5 0] .ret))))))))
theorem k32:Zb 18=some ([.tmp 4,.tmp 5],r32):=by kernel_rfl
def r98:RC:=(sO [Yy 1 25 0,WS 2] (sO [ZP 3 1 1,ZS 4 3,o 5 (.call 138 [(.t 4),(.v (.fn (.func 139) [] []))]),om 2 5] .ret))
theorem k98:Zb 68=some ([.tmp 2],r98):=by kernel_rfl
def r99:RC:=(sO [Yy 3 25 0,Yy 4 133 1,AN 6 0 0 0 133,XW 7] (sQ (sO [ZP 9 1 3,ZS 10 9,ZP 11 0 4,ZS 12 11,Y0 13 9 10 12,Zh 14 9 13,E1 8 0 0 0 0 0 0 113,Yw 9 8 14] (sO [ZP 15 8 8,ZS 16 15,Ut 17 3 16 0] (cT 17 (sO [ZP 18 2 4,ZS 19 18,Yz 20 3 19 1,ZP 21 2 4,Yw 1 21 20] (sO [ZP 22 0 4,ZS 23 22,Ut 24 3 23 0,om 25 24,Yq 26 25 2 4,Yp 27 25 26,Yq 28 25 8 8,Yp 29 25 28,oT 30 25 (.bin .gtr 3 false (.t 27) (.t 29)),X4 31 25 30] (cT 31 (oP [o 32 (.N_ [(iI 0),(iI 0),(iI 0)] []),Yw 3 4 32]))))))) (sQ (sO [om 33 2,ZP 34 0 4,ZS 35 34,Y0 36 1 33 35,ZS 37 36,VO 38 37] (cT 38 (sO [Zh 39 3 4,Yw 3 6 39,XW 7] .ret))) (sO [ZP 40 1 4,ZS 41 40,Yz 42 3 41 1,ZP 43 1 4,Yw 1 43 42] (sQ (sQ (.Sf 10 [ZP 44 1 4,ZS 45 44,ZP 46 1 3,ZS 47 46,ZP 48 0 4,ZS 49 48,Y0 50 9 47 49,ZP 51 7 50,ZS 52 51,YQ 53 3 45 52]) (cT 53 (sO [Zh 54 3 4,Yw 3 6 54,XW 7] .ret))) (sQ (sO [ZP 55 0 4,ZS 56 55,Yz 57 3 56 1,ZP 58 1 3,ZS 59 58,YS 60 59,YQ 61 3 57 60] (cT 61 (sO [ZP 62 0 4,ZS 63 62,Yz 64 3 63 1,o 65 (.N_ [(iI 0),(iI 0),(iI 0)] [(0,1,(.t 64))]),Yw 3 6 65,XW 7] .ret))) (sO [o 66 (.N_ [(iI 0),(iI 0),(iI 0)] []),Yw 3 6 66,Tt 7] .ret)))))))
theorem k99:Zb 70=some ([.cell 6 133,.tmp 7],r99):=by kernel_rfl
def CJ:RC:=(sO [YQ 11 3 10 9] (sQ (cS 11 (.exit 0)) (sQ (.block 1 (sO [Y0 12 9 8 10,Zh 13 9 12,E1 7 0 0 0 0 0 0 113,Yw 9 7 13] (oP [om 14 5,om 15 1,Zh 16 9 7,EK 17 15 16,o 18 (.SE 78 7 1 [(.str []),(iI 0),(iI 0),(iI 0),(iI 0),(.str []),.ZM] [(0,7,(.t 17))]),VE 19 78 7 88 14 18,om 5 19]))) (oP [Yz 20 3 10 1,om 10 20]))))
def ae_:RC:=(sO [WS 4] (sO [WS 5] (sQ (sO [om 8 0,YS 9 8,Zz 10 0] (.block 0 (.loop CJ))) (sO [om 21 5,om 4 21] .ret))))
theorem ahW:Zb 138=some ([.tmp 4],ae_):=by kernel_rfl
def ae':RC:=(sO [Yy 1 113 0,Qk 2 0 0 0 0 78] (sO [ZP 3 0 1,Zh 4 7 3,Yw 7 2 4] .ret))
theorem ahX:Zb 139=some ([.cell 2 78],ae'):=by kernel_rfl
end Go.Am
namespace Go.Am
open Go
abbrev vE:=Nat×Int×Int
def Ge (T:Nat->Int)(n:Nat)(h:Nat->Bool)(a:Nat)(k g:Int):vE×Bool :=
 bif !h a then ((a,k,g),false) else bif decide (k+1<T a) then ((a,k+1,g),false) else bif decide ((a:Int)+1<n) then ((a+1,0,0),false) else ((0,0,0),true)
def NL (W T:Nat->Int)(n:Nat)(h:Nat->Bool)(a:Nat)(k g:Int):vE×Bool :=
 bif decide (W a>0) then (bif decide ((a:Int)>0)&&decide (g+1>W a) then Ge T n h 0 0 0 else Ge T n h a k (g+1)) else Ge T n h a k g
def trP (W T:Nat->Int)(n:Nat)(H:Nat->Nat->Bool):Nat->Nat->vE->List Int
 |0,_,_=>[]
 |r+1,t,(a,k,g)=>bif (NL W T n (H t) a k g).2 then (t:Int)::trP W T n H r (t+1) (NL W T n (H t) a k g).1 else trP W T n H r (t+1) (NL W T n (H t) a k g).1
def rfQ (T:Nat->Int)(n:Nat)(h:Nat->Bool)(t a:Nat)(k g:Int):vE×Bool :=
 bif !h a then ((a,k,g),false) else bif decide (k+1<T a) then ((a,k+1,g),false) else bif ((a:Int)+1==n) then ((0,0,t),true) else ((a+1,0,t),false)
def eL (W T:Nat->Int)(n:Nat)(h:Nat->Bool)(t a:Nat)(k g:Int):vE×Bool :=
 bif decide (W a>0)&&decide ((t:Int)-g>W a) then rfQ T n h t 0 0 g else rfQ T n h t a k g
def trR (W T:Nat->Int)(n:Nat)(H:Nat->Nat->Bool):Nat->Nat->vE->List Int
 |0,_,_=>[]
 |r+1,t,(a,k,g)=>bif (eL W T n (H t) t a k g).2 then (t:Int)::trR W T n H r (t+1) (eL W T n (H t) t a k g).1 else trR W T n H r (t+1) (eL W T n (H t) t a k g).1
theorem abo {T:Nat->Int}{n:Nat}{h:Nat->Bool}{a:Nat}{k g:Int}{t:Nat}(ha:a<n)(hk:0<=k/\k<=t)(hg:0<=g/\g<=t+1) :
  (Ge T n h a k g).1.1<n/\(0<=(Ge T n h a k g).1.2.1/\(Ge T n h a k g).1.2.1<=t+1)/\(0<=(Ge T n h a k g).1.2.2/\(Ge T n h a k g).1.2.2<=t+1):=by
 unfold Ge
 cases h a <;> simp only[ajT,ajY,cond_true,cond_false]
 ·exact⟨ha,by omega,by omega⟩
 ·cases decide (k+1<T a) <;> simp only[cond_true,cond_false]
  ·cases hn:decide ((a:Int)+1<n) <;> simp only[cond_true,cond_false]
   ·exact⟨by omega,by omega,by omega⟩
   ·rw[decide_eq_true_eq] at hn;exact⟨by omega,by omega,by omega⟩
  ·exact⟨ha,by omega,by omega⟩
theorem ade {W T:Nat->Int}{n:Nat}{h:Nat->Bool}{a:Nat}{k g:Int}{t:Nat}(ha:a<n)(hk:0<=k/\k<=t)(hg:0<=g/\g<=t) :
  (NL W T n h a k g).1.1<n/\(0<=(NL W T n h a k g).1.2.1/\(NL W T n h a k g).1.2.1<=t+1)/\(0<=(NL W T n h a k g).1.2.2/\(NL W T n h a k g).1.2.2<=t+1):=by
 unfold NL
 cases decide (W a>0) <;> simp only[cond_true,cond_false]
 ·exact abo ha hk ⟨hg.1,by omega⟩
 ·cases decide ((a:Int)>0)&&decide (g+1>W a) <;> simp only[cond_true,cond_false]
  ·exact abo ha hk (by omega)
  ·exact abo (by omega) (by omega) (by omega)
theorem lK {W T:Nat->Int}{n:Nat}{h:Nat->Bool}{a:Nat}{k g e:Int}{t:Nat}(ha:a<n)(hg:W a>0->g=t-e)(h0:¬W 0>0) :
  (Ge T n h a k g).2=(rfQ T n h t a k e).2/\(Ge T n h a k g).1.1=(rfQ T n h t a k e).1.1/\(Ge T n h a k g).1.2.1=(rfQ T n h t a k e).1.2.1/\(Ge T n h a k g).1.1<n /\
   (W (Ge T n h a k g).1.1>0->(Ge T n h a k g).1.2.2=t-(rfQ T n h t a k e).1.2.2):=by
 unfold Ge rfQ
 cases h a <;> simp only[ajT,ajY,cond_true,cond_false]
 ·exact⟨by first|rfl|trivial,by first|rfl|trivial,by first|rfl|trivial,ha,hg⟩
 ·cases decide (k+1<T a) <;> simp only[cond_true,cond_false]
  ·by_cases hn:(a:Int)+1<n
   ·have h1:((a:Int)+1==n)=false:=by simp;omega
    rw[decide_eq_true hn,h1];simp only[cond_true,cond_false];exact⟨by first|rfl|trivial,by first|rfl|trivial,by first|rfl|trivial,by omega,fun _=>by omega⟩
   ·have h1:((a:Int)+1==n)=true:=by simp;omega
    rw[decide_eq_false hn,h1];simp only[cond_true,cond_false];exact⟨by first|rfl|trivial,by first|rfl|trivial,by first|rfl|trivial,by omega,fun hw=>absurd hw h0⟩
  ·exact⟨by first|rfl|trivial,by first|rfl|trivial,by first|rfl|trivial,ha,hg⟩
theorem aek {W T:Nat->Int}{n:Nat}{h:Nat->Bool}{a:Nat}{k g e:Int}{t:Nat}(ha:a<n)(hg:W a>0->g=t-1-e)(h0:¬W 0>0) :
  (NL W T n h a k g).2=(eL W T n h t a k e).2/\(NL W T n h a k g).1.1=(eL W T n h t a k e).1.1/\(NL W T n h a k g).1.2.1=(eL W T n h t a k e).1.2.1/\(NL W T n h a k g).1.1<n /\
   (W (NL W T n h a k g).1.1>0->(NL W T n h a k g).1.2.2=t-(eL W T n h t a k e).1.2.2):=by
 unfold NL eL;by_cases hw:W a>0
 ·have hg:=hg hw;have hp:(a:Int)>0:=by
   rcases Nat.eq_zero_or_pos a with h|h
   ·subst h;exact absurd hw h0
   ·omega
  rw[decide_eq_true hw,decide_eq_true hp];have e1:decide (g+1>W a)=decide ((t:Int)-e>W a):=by
   congr 1;apply propext;omega
  rw[e1];simp only[ajF,cond_true]
  cases decide ((t:Int)-e>W a) <;> simp only[cond_true,cond_false]
  ·exact lK ha (fun _=>by omega) h0
  ·exact lK (by omega) (fun hw=>absurd hw h0) h0
 ·rw[decide_eq_false hw];simp only[ajZ,cond_false];exact lK ha (fun h=>absurd h hw) h0
theorem cK {W T:Nat->Int}{n:Nat}{H:Nat->Nat->Bool}(h0:¬W 0>0):∀(r t a:Nat) (k g e:Int),a<n->(W a>0->g=t-1-e)->trP W T n H r t (a,k,g)=trR W T n H r t (a,k,e)
 |0,_,_,_,_,_,_,_=>rfl
 |r+1,t,a,k,g,e,ha,hg=>by
  obtain⟨e1,e2,e3,e4,e5⟩:=aek (T:=T) (n:=n) (h:=H t) (k:=k) ha hg h0;rw[trP,trR,e1];generalize NL W T n (H t) a k g=x at *;generalize eL W T n (H t) t a k e=y at *;obtain⟨⟨x1,x2,x3⟩,xb⟩:=x;obtain⟨⟨y1,y2,y3⟩,yb⟩:=y;simp only at e1 e2 e3 e4 e5 ⊢;subst e2 e3;have ih:=cK (T:=T) (H:=H) h0 r (t+1) x1 x2 x3 y3 e4 fun hw=>by rw[e5 hw];omega
  rw[ih]
def Wn (S:List Step)(i:Nat):Int:=match S[i]? with
 |some s=>s.within
 |none=>0
def Tm (S:List Step)(i:Nat):Int:=match S[i]? with
 |some s=>s.times
 |none=>0
end Go.Am
namespace Go.Am
open Go
variable [ZZ]
set_option maxRecDepth 100000
set_option maxHeartbeats 4000000
def La (c:vE):AV:=.agg [.int .i64 c.1,.int .i64 c.2.1,.int .i64 c.2.2]
def Fz (hs:List Bool)(i:Nat):Bool:=hs.getD i false
theorem zP {nh:Bool}{hs:List Bool}{a:Nat}(h:a<hs.length):UC 1 (ZG nh (ZB hs)) (.int .i64 (a:Int))=some (.fp [.bool (Fz hs a)] 0):=by
 refine VR 1 nh (ZB hs) .i64 a (.bool (Fz hs a)) (by omega) ?_ rfl (by decide);rw[ajD];simp[ZB,Fz,ajl,aaa h]
theorem zO {nl:Bool}{l:List Step}{a:Nat}(h:a<l.length):UC 9 (ZG nl (Zr l)) (.int .i64 (a:Int))=some (.fp l[a].TD 0):=by
 refine VR 9 nl (Zr l) .i64 a (YM l[a]) (by omega) ?_ rfl (by decide);rw[ajD,WI,aaa h];rfl
theorem vD {l:List Step}{a:Nat}(h:a<l.length):Wn l a=l[a].within:=by unfold Wn;rw[aaa h]
theorem BS {l:List Step}{a:Nat}(h:a<l.length):Tm l a=l[a].times:=by unfold Tm;rw[aaa h]
theorem c99 (p:Prog)(hs:List Bool)(nh:Bool)(a:Nat)(k g:Int)(ha:a<p.steps.length)(hh:hs.length=p.steps.length)(hl:p.steps.length<2^30)(hk:0<=k/\k<=2^40)(hg:0<=g/\g<=2^40) :
  Zw U 70 [UU p,La (a,k,g),ZG nh (ZB hs)]=some (.XF [La (NL (Wn p.steps) (Tm p.steps) p.steps.length (Fz hs) a k g).1,.bool (NL (Wn p.steps) (Tm p.steps) p.steps.length (Fz hs) a k g).2]):=by
 refine ZI k99 (by kernel_rfl) (by simp[ZO,XX,La,still,YZ]) ?_;have hx:=zO (nl:=p.nl) ha;have h0:0<p.steps.length:=by omega
 have ti:UC 9 (ZG p.nl (Zr p.steps)) (.int .i64 0)=some (.fp p.steps[0].TD 0):=zO (nl:=p.nl) h0;have hb:=zP (nh:=nh) (hs:=hs) (a:=a) (by omega);have x9:UC 1 (ZG nh (ZB hs)) (.int .i64 0)=some (.fp [.bool (Fz hs 0)] 0):=zP (nh:=nh) (hs:=hs) (a:=0) (by omega);have w1:IntKind.i64.wrap (g+1)=g+1:=by rw[wrap_i64] <;> omega
 have w2:IntKind.i64.wrap (k+1)=k+1:=by rw[wrap_i64] <;> omega
 have w3:IntKind.i64.wrap ((a:Int)+1)=(a:Int)+1:=by rw[wrap_i64] <;> omega
 rw[Yg];simp only[La,Step.TD] at hx ti ⊢;unfold NL Ge;rw[vD ha,BS ha,BS h0];generalize p.steps[a]=x at *;generalize p.steps[0]=y at *;have w4:IntKind.i64.wrap 1=1:=by rw[wrap_i64] <;> omega
 cases h1:decide (x.within>0) <;> cases h2:decide ((a:Int)>0) <;> cases h3:decide (g+1>x.within)
 all_goals simp only[go_sem,r99,ZW,ZR,hx,hb,ti,x9,w1,w2,w3,w4,h1,h2,h3,ZJ,Y',Bool.and_true,Bool.and_false,cond_true,cond_false]
 all_goals first
  |(cases Fz hs a <;> cases decide (k+1<x.times) <;> cases decide ((a:Int)+1<p.steps.length) <;> rfl)
  |(have e0:((0:Nat):Int)+1=1:=rfl
    simp only[e0]
    cases Fz hs 0 <;> cases decide (1<y.times) <;> cases decide ((1:Int)<p.steps.length) <;> rfl)
end Go.Am
namespace Go.Am
open Go
variable [ZZ]
theorem uU (l:List Int)(t:Nat):∀C:List ZX,(∀c∈C,c.wf)->outs C ((ZQ C).map (atR l t))=C.map (atR l t)
 |[],_=>rfl
 |c::C,h=>by
  have hd:((Wd c).map (atR l t)++(ZQ C).map (atR l t)).drop (Wd c).length=(ZQ C).map (atR l t):=by
   rw[<-aje (f:=atR l t),aj5]
  rw[ZQ,ajA,outs,ae5 l t c (h c (aba ..)),hd,uU l t C fun x hx=>h x (aab _ hx),aju]
theorem uV {C:List ZX}(h:∀c∈C,c.wf):∀c∈ZQ C,c.wf/\(Zy c.kind).leaf=true:=fun c hc=>by
 obtain⟨x,h1,h2⟩:=PG hc;exact PF x (h x h1) c h2
def Ha (l:List Int)(S:List Step)(t i:Nat):Bool:=match S[i]? with
 |some s=>atR l t s.cond
 |none=>false
def xG (l:List Int)(S:List Step):List Int:=trR (Wn S) (Tm S) S.length (Ha l S) l.length 0 (0,0,0)
def Ic (l:List Int)(S:List Step):List Int:=trP (Wn S) (Tm S) S.length (Ha l S) l.length 0 (0,0,0)
theorem AJ (l:List Int)(S:List Step)(h0:¬Wn S 0>0)(hn:0<S.length):Ic l S=xG l S :=
 cK h0 _ _ _ _ _ _ hn fun h=>absurd h h0
theorem eB (l:List Int)(S:List Step):Wn (S.map Step.norm)=Wn S/\Tm (S.map Step.norm)=Tm S/\Ha l (S.map Step.norm)=Ha l S:=by
 refine⟨?_,?_,?_⟩
 ·funext i;unfold Wn;rw[ajv];cases S[i]? <;> rfl
 ·funext i;unfold Tm;rw[ajv];cases S[i]? <;> rfl
 ·funext t i;unfold Ha;rw[ajv];cases S[i]? with
  |none=>rfl
  |some s=>exact BP l t s.cond
theorem AK (l:List Int)(S:List Step):Ic l (S.map Step.norm)=Ic l S:=by
 obtain⟨e1,e2,e3⟩:=eB l S;unfold Ic;rw[e1,e2,e3,aje]
end Go.Am
namespace Go.Am
open Go
variable [ZZ]
set_option maxRecDepth 100000
set_option maxHeartbeats 4000000
theorem aim (x:Step):Zw U 139 [YM x]=some (Zt x.cond):=by
 refine ZI ahX (by kernel_rfl) (by simp[ZO,YM,still,YZ]) ?_;rw[ZN];simp only[YM,ZX.cells];simp only[go_sem,ae',ZW,ZR,VW]
theorem afz (x:Step)(s:St):MN U (.fn (.func 139) [] []) [YM x] s=some (Zt x.cond,s):=by
 simp only[QL,ajP,ajG,aim,Vy]
theorem ain (nl:Bool)(l:List Step)(hl:l.length<2^30):Zw U 138 [ZG nl (Zr l),.fn (.func 139) [] []]=some (ZG true ((l.map Step.cond).map Zt)):=by
 refine ZI ahW (by kernel_rfl) (by simp[ZO,still,YZ]) ?_;simp only[go_sem,ae_,ZJ,Y'];refine Ym (σ:=Nat) (fun i=>l.length-i) (fun i=>some (ZG true ((l.map Step.cond).map Zt))) (fun i e s=>i<=l.length/\Env.get e 1=.fn (.func 139) [] []/\Env.get e 8=ZG nl (Zr l)/\Env.get e 9=.int .i64 l.length/\Env.get e 10=.int .i64 i/\8<=s.next/\Fr s /\
  ∃v,Env.get e 5=v/\ZF s 8 78 7 i (YD ((l.take i).map Step.cond)) v) 0 ?_ rfl ?_
 ·rintro L i e s ⟨hi,g1,g8,g9,Qo,hn,SA,v,g5,hv⟩ IH;have Qf:=hv.Xg;have Ub:=hv.Zx;by_cases hd:i<l.length
  ·have hx:(Zr l)[i]? = some (YM l[i]):=by rw[WI,aaa hd];rfl
   have hw:=ZE hd (by omega);have hc:=afz l[i];rw[ZN] at hc;rw[YF (XQ hd)] at g8;simp only[ZX.cells,YM] at hx hc;have Un:(i+1)*88<=1099511627776:=by omega
   have VD:i+1<=1099511627776:=by omega
   have KA:YD ((l.take (i+1)).map Step.cond)=YD ((l.take i).map Step.cond)++l[i].cond.cells:=by
    rw[ajC hd,ajA,YD,List.flatMap_append,List.map_singleton,List.flatMap_singleton,ZN];rfl
   simp only[ZX.cells] at KA;simp only[go_sem,CJ,g1,g5,g8,g9,Qo,Z9,hd,hx,hc,ZW,ZR,ZD,Nat.reducePow,ajB,Qf,Ub,Un,VD];have Cy:∀y z w,ZF (((s.new y).put s.next z).new w) 8 78 7 i (YD ((l.take i).map Step.cond)) v:=fun y z w=>hv.mono (by rw[Z',Z_,Z'];omega) fun j _ hj=>by rw[ZY,Z_,Z',if_neg (by omega),Z0,if_neg (by omega),ZY,if_neg (by omega)]
   obtain⟨s1,f1,f2,f3,f4,f5⟩:=(Cy (.cells [.str [],.int .i64 0,.int .i64 0,.int .i64 0,.int .i64 0,.str [],.ZM,.int .i64 0,.int .i64 0] 113 false 0 0) (.cells l[i].TD 113 false 0 0) (.cells l[i].cond.cells 78 false 0 0)).Il (by rw[Z',Z_,Z'];omega) (m:=1) (new:=l[i].cond.cells) (by omega) (by rfl) (by simp only[ZX.cells,go_sem,ZW]);simp only[ZX.cells,Step.TD] at f1 f2 f3;rw[f1];simp only[go_sem,Qo,hw];rw[<-KA] at f3;refine IH (i+1) _ _ (by omega) ⟨by omega,?_,?_,?_,?_,?_,f5 (((SA.new _).put (by rw[Z'];omega) _).new _),_,?_,f3⟩
   all_goals simp only[go_sem,g1,g8,g9,hw,f2,YF (XQ hd)]
   all_goals omega
  ·have:i=l.length:=by omega
   subst this;rw[List.take_length] at hv;have Qm:ZF s 8 78 7 (l.map Step.cond).length (YD (l.map Step.cond)) v:=by rw[aje];exact hv
   have NA:=Qm.WK U IZ IY (by omega) RK (d:=39) (fun a=>P5 _ _ _);simp only[go_sem,CJ,g5,g8,g9,Qo,Z9,ajp,Ub,NA]
 ·refine⟨aji _,?_,?_,?_,?_,?_,?_,.ZM,?_,ZF.nil _ _ _ _⟩
  all_goals try simp only[go_sem]
  all_goals first|rfl|exact Fr.own|skip
theorem c98 (p:Prog)(hl:p.steps.length<2^30):Zw U 68 [UU p]=some (ZG true ((p.steps.map Step.cond).map Zt)):=by
 refine ZI k98 (by kernel_rfl) (by simp[ZO,XX]) ?_;have:=ain p.nl p.steps hl;rw[Yg];simp only[go_sem,r98,this,ZW,ZR,VW]
def runT (l:List Int)(S:List Step):Nat->Nat->List Int->vE->List Int
 |0,_,_,_=>[]
 |n+1,i,Za,(a,k,g) =>
  bif (NL (Wn S) (Tm S) S.length (Fz (outs (S.map Step.cond) (Yk (XS l (i:Int)) (WE l (i:Int)) ((i:Int)==0) (ZQ (S.map Step.cond)) Za))) a k g).2 then
   (i:Int)::runT l S n (i+1) (Ye (XS l (i:Int)) (WE l (i:Int)) ((i:Int)==0) (ZQ (S.map Step.cond)) Za) (NL (Wn S) (Tm S) S.length (Fz (outs (S.map Step.cond) (Yk (XS l (i:Int)) (WE l (i:Int)) ((i:Int)==0) (ZQ (S.map Step.cond)) Za))) a k g).1
  else runT l S n (i+1) (Ye (XS l (i:Int)) (WE l (i:Int)) ((i:Int)==0) (ZQ (S.map Step.cond)) Za) (NL (Wn S) (Tm S) S.length (Fz (outs (S.map Step.cond) (Yk (XS l (i:Int)) (WE l (i:Int)) ((i:Int)==0) (ZQ (S.map Step.cond)) Za))) a k g).1
def UR (l:List Int)(S:List Step):List Int:=runT l S l.length 0 ((ZQ (S.map Step.cond)).map XI) (0,0,0)
theorem aae (l:List Int)(S:List Step)(t:Nat):Fz ((S.map Step.cond).map (atR l t))=Ha l S t:=by
 funext i
 unfold Fz Ha;rw[ajl,List.map_map,ajv]
 cases S[i]? <;> rfl
theorem runT_eq (l:List Int)(S:List Step)(hw:∀s∈S,s.cond.wf):∀(n i:Nat) (c:vE),runT l S n i ((ZQ (S.map Step.cond)).map fun x=>yH l x i) c=trP (Wn S) (Tm S) S.length (Ha l S) n i c
 |0,_,_=>rfl
 |n+1,i,(a,k,g)=>by
  have hC:∀c∈S.map Step.cond,c.wf:=fun c hc=>by
   obtain⟨s,hs,rfl⟩:=ajs.1 hc;exact hw s hs
  obtain⟨e1,e2⟩:=EY l i _ (uV hC);rw[runT,e1,e2,uU l i _ hC,aae,runT_eq l S hw n (i+1),trP]
theorem EW (l:List Int)(S:List Step)(hw:∀s∈S,s.cond.wf):UR l S=Ic l S:=runT_eq l S hw l.length 0 (0,0,0)
theorem sw (S:List Step)(B:List Bool):(outs (S.map Step.cond) B).length=S.length:=by rw[Ib,aje]
theorem l32 (nl:Bool)(l:List Int)(hl:EV l)(p:Prog)(Zv:0<p.steps.length)(hn:p.steps.length<=8)(QZ:∀s∈p.steps,s.cond.wf)(hL:(ZQ (p.steps.map Step.cond)).length<=2^20){ks:List K}(sm:St)(m:Nat)(hm8:8<m)(Ca:sm.next=m+2)(v lv sv:AV)
  (hm:∀s',(∀j,j<=m->s'.get j=sm.get j)->m<s'.next->Yc U s' 40 (.agg [v,lv,sv])=some (.agg [.fz ((p.steps.map Step.cond).map Zt),.fz ((ZQ (p.steps.map Step.cond)).map Zt),.fz ((ZQ (p.steps.map Step.cond)).map XD)]))
  (gp:sm.get 8=some (.cells [.int .i64 p.lines,ZG p.nl (Zr p.steps)] 25 false 0 0))(gm:sm.get m=some (.cells [v,lv,sv] 128 false 0 0))(ga:sm.get (m+1)=some (.cells [.int .i64 0,.int .i64 0,.int .i64 0] 133 false 0 0))(frm:Fr sm){β:Type}{fin:Fl->β}{Zu:β->Prop}
  (pn:still lv=false)(hk:∀e s w,Env.get e 10=w->ZF s (m+2) 3 1 (UR l p.steps).length (ints (UR l p.steps)) w->Zu (goN U fin ks e s)){e:Env}{pW:AV}
  (gT:∀s',(∀j,j<=m->s'.get j=sm.get j)->m<s'.next->Yc U s' 40 pW=some (.fz (ints ((ZQ (p.steps.map Step.cond)).map XI))))
  (g1:Env.get e 1=ZG nl (ints l))(g2:Env.get e 2=.ptr 8 0)(g8:Env.get e 8=.ptr m 0)(g9:Env.get e 9=pW)(Qo:Env.get e 10=.ZM)(DZ:Env.get e 11=.ptr (m+1) 0)(oE:Env.get e 36=ZG nl (ints l))(yj:Env.get e 37=.int .i64 l.length)(oy:Env.get e 38=.int .i64 (0:Nat)) :
  Zu (SC U fin (.bk 0::ks) Dg e sm):=by
 have hlen:=hl.1;have jo:∀c∈p.steps.map Step.cond,c.wf:=fun c hc=>by
  obtain⟨s,hs,rfl⟩:=ajs.1 hc;exact QZ s hs
 have hlw:=uV jo;refine YG (σ:=Nat) (Zu:=Zu) (fun i=>l.length-i) (fun i e s=>i<=l.length/\Env.get e 1=ZG nl (ints l)/\Env.get e 2=.ptr 8 0/\Env.get e 8=.ptr m 0/\Env.get e 11=.ptr (m+1) 0/\Env.get e 36=ZG nl (ints l)/\Env.get e 37=.int .i64 l.length/\Env.get e 38=.int .i64 (i:Nat) /\
  Fr s/\m+2<=s.next/\(∀j,j<=m->s.get j=sm.get j) /\
  ∃pW Za ov acc a k g,Env.get e 9=pW/\Env.get e 10=ov/\s.get (m+1)=some (.cells [.int .i64 (a:Nat),.int .i64 k,.int .i64 g] 133 false 0 0)/\(∀s',(∀j,j<=m->s'.get j=sm.get j)->m<s'.next->Yc U s' 40 pW=some (.fz (ints Za)))/\Za.length=(ZQ (p.steps.map Step.cond)).length/\(∀x∈Za,0<=x/\x<=256) /\
   a<p.steps.length/\(0<=k/\k<=(i:Int))/\(0<=g/\g<=(i:Int))/\acc.length<=i/\ZF s (m+2) 3 1 acc.length (ints acc) ov/\acc++runT l p.steps (l.length-i) i Za (a,k,g)=UR l p.steps) 0 ?_
  ⟨aji _,g1,g2,g8,DZ,oE,yj,oy,frm,by omega,fun _ _=>rfl,pW,_,.ZM,[],0,0,0,g9,Qo,ga,gT,by simp,fun x hx=>by
   obtain⟨y,hy,rfl⟩:=ajs.1 hx;exact sL (hlw y hy).1.Cz,Zv,by omega,by omega,aji _,ZF.nil _ _ _ _,rfl⟩
 clear g1 g2 g8 g9 Qo DZ oE yj oy gT e pW;rintro Lp i e s ⟨hi,g1,g2,g8,DZ,oE,yj,oy,fr,nx,old,pW,Za,ov,acc,a,k,g,g9,Qo,gc,WY,LA,hsb,ha,JJ,su,Ls,hv,X'⟩ IH;by_cases hd:i<l.length
 ·have hw:=ZE hd (by omega);have M8:IntKind.i64.wrap ((i:Int)-1)=(i:Int)-1:=by rw[wrap_i64] <;> omega
  have qg:max 0 ((i:Int)-1)=((i-1:Nat):Int):=by omega
  have aV:=Ia (nl:=nl) hd;have Cs:=Ia (nl:=nl) (l:=l) (t:=i-1) (by omega);rw[<-qg] at Cs;have hbf:XS l (max 0 ((i:Int)-1))=WE l (i:Int):=rfl;rw[hbf] at Cs;have gms:s.get m=some (.cells [v,lv,sv] 128 false 0 0):=by rw[old m (ajg _),gm]
  have gps:s.get 8=some (.cells [.int .i64 p.lines,ZG p.nl (Zr p.steps)] 25 false 0 0):=by rw[old 8 (by omega),gp]
  have uT:∀j,j<=m->(s.upto (s.next+18)).get j=sm.get j:=fun j hj=>by rw[ZH,old j hj]
  have UL:m<(s.upto (s.next+18)).next:=by rw[ZV];omega
  have Vg:XR U (Zw U 69 [.agg [v,lv,sv],pW,.agg [.int .i64 (XS l (i:Int)),.int .i64 (WE l (i:Int)),.bool ((i:Int)==0)]]) 69 [.agg [v,lv,sv],pW,.agg [.int .i64 (XS l (i:Int)),.int .i64 (WE l (i:Int)),.bool ((i:Int)==0)]] (s.upto (s.next+18)) =
    some (.XF [.fz (ints (Ye (XS l (i:Int)) (WE l (i:Int)) ((i:Int)==0) (ZQ (p.steps.map Step.cond)) Za)),ZG true (ZB (outs (p.steps.map Step.cond) (Yk (XS l (i:Int)) (WE l (i:Int)) ((i:Int)==0) (ZQ (p.steps.map Step.cond)) Za)))],s.upto (s.next+18)):=by
   rw[z93 (by simp[ZO,still,pn])];have e1:=hm _ uT UL;have e2:=WY _ uT UL;have e3:YT (Yc U (s.upto (s.next+18)) 40) [.agg [v,lv,sv],pW,.agg [.int .i64 (XS l (i:Int)),.int .i64 (WE l (i:Int)),.bool ((i:Int)==0)]] =
     some [.agg [.fz ((p.steps.map Step.cond).map Zt),.fz ((ZQ (p.steps.map Step.cond)).map Zt),.fz ((ZQ (p.steps.map Step.cond)).map XD)],.fz (ints Za),.agg [.int .i64 (XS l (i:Int)),.int .i64 (WE l (i:Int)),.bool ((i:Int)==0)]]:=by
    rw[Yf,e1,Yf,e2,Yf,Us,WK];rfl
   rw[e3];have hz:=adb (p.steps.map Step.cond) Za (XS l (i:Int)) (WE l (i:Int)) ((i:Int)==0) jo (by rw[aje];omega) hsb LA hL (ox hl _) (ox hl _) (s.upto (s.next+18));rw[Yn] at hz;rw[hz]
  have H_:=c99 p (outs (p.steps.map Step.cond) (Yk (XS l (i:Int)) (WE l (i:Int)) ((i:Int)==0) (ZQ (p.steps.map Step.cond)) Za)) true a k g ha (sw _ _) (by omega) (by omega) (by omega);have ok:=ade (W:=Wn p.steps) (T:=Tm p.steps) (n:=p.steps.length) (h:=Fz (outs (p.steps.map Step.cond) (Yk (XS l (i:Int)) (WE l (i:Int)) ((i:Int)==0) (ZQ (p.steps.map Step.cond)) Za))) (t:=i) ha JJ su;have Qf:=hv.Xg;have Ub:=hv.Zx;have Un:(acc.length+1)*8<=1099511627776:=by omega
  have VD:acc.length+1<=1099511627776:=by omega
  rw[show l.length-i=(l.length-(i+1))+1 by omega,runT] at X';rw[Yg] at H_;simp only[La] at H_;generalize NL (Wn p.steps) (Tm p.steps) p.steps.length (Fz (outs (p.steps.map Step.cond) (Yk (XS l (i:Int)) (WE l (i:Int)) ((i:Int)==0) (ZQ (p.steps.map Step.cond)) Za))) a k g=mv at *;obtain⟨⟨a',k',g'⟩,ZC⟩:=mv;simp only at H_ ok X';have ne1:∀q,(s.next+q=m)=False:=fun q=>by simp;omega
  have ne2:∀q,(s.next+q=m+1)=False:=fun q=>by simp;omega
  have hS:∀x y z j,j<s.next->j≠m+1->(((((s.upto (s.next+18)).new x).put (s.next+18) y).upto (s.next+18+1+4)).put (m+1) z).get j=s.get j:=fun x y z j hj hjm=>by
   rw[Z0,if_neg (by omega),ZH,Z0,if_neg (by omega),ZY,ZV,if_neg (by omega),ZH]
  have tu:∀x y z,(((((s.upto (s.next+18)).new x).put (s.next+18) y).upto (s.next+18+1+4)).put (m+1) z).next=s.next+23:=fun x y z=>by rw[Z_,ZV]
  have hSf:∀x y z,Fr (((((s.upto (s.next+18)).new x).put (s.next+18) y).upto (s.next+18+1+4)).put (m+1) z):=fun x y z =>
   ((((fr.upto (by omega)).new _).put (by rw[Z',ZV];omega) _).upto (by rw[Z_,Z',ZV];omega)).put (by rw[ZV];omega) _
  have hSc:∀x y z,(((((s.upto (s.next+18)).new x).put (s.next+18) y).upto (s.next+18+1+4)).put (m+1) z).get (m+1)=some z:=fun x y z=>by rw[Z0,if_pos rfl]
  have Cy:∀x y z,ZF (((((s.upto (s.next+18)).new x).put (s.next+18) y).upto (s.next+18+1+4)).put (m+1) z) (m+2) 3 1 acc.length (ints acc) ov:=fun x y z=>hv.mono (by rw[tu];omega) fun j h1 h2=>hS x y z j h2 (by omega)
  have adf:∀s',(∀j,j<=m->s'.get j=sm.get j)->m<s'.next->Yc U s' 40 (.fz (ints (Ye (XS l (i:Int)) (WE l (i:Int)) ((i:Int)==0) (ZQ (p.steps.map Step.cond)) Za)))=some (.fz (ints (Ye (XS l (i:Int)) (WE l (i:Int)) ((i:Int)==0) (ZQ (p.steps.map Step.cond)) Za))):=fun s' _ _=>rfl
  have IT:=OC (XS l (i:Int)) (WE l (i:Int)) ((i:Int)==0) (ZQ (p.steps.map Step.cond)) Za LA;have Tb:=BF (now:=XS l (i:Int)) (last:=WE l (i:Int)) (first:=((i:Int)==0)) (fun x hx=>(hlw x hx).1.Cz) hsb
  cases ZC
  all_goals simp only[go_sem,Dg,g1,g2,g8,g9,Qo,DZ,oE,yj,oy,Z9,hd,aV,Cs,M8,gms,gps,gc,gS 50 ((i:Int)-1),Vg,H_,ZD,Nat.reducePow,ajB,Qf,Ub,Un,VD,ZW,ne1,ne2,hw]
  ·simp only[cond_false] at X';refine IH (i+1) _ _ (by omega) ⟨by omega,?_,?_,?_,?_,?_,?_,?_,hSf _ _ _,by rw[tu];omega,fun j hj=>by rw[hS _ _ _ _ (by omega) (by omega),old j hj],_,_,ov,acc,a',k',g',?_,?_,hSc _ _ _,adf,IT,Tb,ok.1,by omega,by omega,by omega,Cy _ _ _,X'⟩
   all_goals simp only[go_sem,g1,g2,g8,Qo,DZ,oE,yj,hw]
  ·simp only[cond_true] at X';generalize hA:Vr.cells [.int .i64 0,.int .i64 0,.int .i64 0] 133 false 0 0=A;generalize hB:Vr.cells [.int .i64 (a':Int),.int .i64 k',.int .i64 g'] 133 false 0 0=B;have Qm:ZF (((((((s.upto (s.next+18)).new A).put (s.next+18) B).upto (s.next+18+1+4)).put (m+1) B)).new (.cells [.int .i64 (i:Int)] 3 false 0 0)) (m+2) 3 1 acc.length (ints acc) ov:=(Cy A B B).mono (by rw[Z'];omega) fun j _ hj=>by rw[ZY,if_neg (by omega)]
   have jn:acc.length+1=(acc++[(i:Int)]).length:=by simp
   have hI1:ints acc++[.int .i64 (i:Int)]=ints (acc++[(i:Int)]):=by rw[ints,ints,ajA];rfl
   obtain⟨s1,f1,f2,f3,f4,f5⟩:=Qm.Il (by rw[Z',tu];omega) (m:=1) (new:=[.int .i64 (i:Int)]) (by omega) (by rfl) (by rfl);rw[f1];simp only[go_sem,oy,hw];rw[hI1,jn] at f3;rw[List.append_cons] at X';have low:∀j,j<m+2->s1.get j=(((((s.upto (s.next+18)).new A).put (s.next+18) B).upto (s.next+18+1+4)).put (m+1) B).get j:=fun j hj=>by
    rw[f4 j (by rw[Z',tu];omega) (Qm.Bt (.inr hj)),ZY,tu,if_neg (by omega)]
   refine IH (i+1) _ _ (by omega) ⟨by omega,?_,?_,?_,?_,?_,?_,?_,f5 ((hSf _ _ _).new _),by rw[f2,Z',tu];omega,fun j hj=>by rw[low j (by omega),hS _ _ _ _ (by omega) (by omega),old j hj],_,_,_,acc++[(i:Int)],a',k',g',?_,?_,by rw[low _ (by omega),hSc,<-hB],adf,IT,Tb,ok.1,by omega,by omega,by rw[ajh];simp;omega,f3,X'⟩
   all_goals simp only[go_sem,g1,g2,g8,DZ,oE,yj,hw,jn]
 ·have:i=l.length:=by omega
  subst this;rw[Nat.sub_self,runT,ajG] at X';subst X';simp only[go_sem,Dg,yj,oy,Z9,ajp];refine hk _ _ ov ?_ hv;simp only[go_sem,Qo]
section
variable (l:List Int)(k:X6)(a b mi ma:Int)(p:X6)(nl:Bool)(kids:List ZX)
variable (u:Nat)
end
end Go.Am
namespace Go.Am
open Go
variable [ZZ]
set_option maxRecDepth 100000
set_option maxHeartbeats 8000000
theorem Mr (b:Bool):O' undef b=false:=rfl
theorem Mq (x:Option AV)(s:St):Uk false x s=some (undef,s):=rfl
theorem Mp (x:Option AV)(f:FuncId)(args:List AV)(s:St):FO U false x f args s=some (undef,s):=rfl
section
variable {nl:Bool}{l:List Int}(hl:EV l){t:Nat}(ht:t+1=l.length){k:X6}{a b mi ma:Int}{pat:X6}{kids:AV}(ha:0<=a/\a<16)
include hl ht ha
end
end Go.Am
namespace Go.Am
open Go
variable [ZZ]
set_option maxRecDepth 100000
set_option maxHeartbeats 8000000
theorem EB (n a b:Int):within n a b=br (outside n a b) 3 0:=rfl
theorem nj (lines:Int)(hl:1<=lines)(D3:lines<=16):∀(l:List Step) (i:Nat),xy lines i l=MV lines i l
 |[],_=>rfl
 |s::l,i=>by
  rw[xy,MV,cZ lines hl D3,nj lines hl D3 l (i+1)];simp only[EB];generalize NK lines s.cond 1=c;generalize outside s.times 1 64=a;generalize outside s.within 0 255=b;generalize ((i:Int)==0&&s.within != 0)=d
  cases hc:c != 0
  ·have:c=0:=by simpa using hc
   subst this
   cases a <;> cases b <;> cases d <;> rfl
  ·simp only[Yh,hc,Xt]
theorem Bk (p:Prog):xW p=vC p:=by
 rw[xW,vC,S5,EB]
 cases h:outside p.lines 1 16
 ·have hl:1<=p.lines/\p.lines<=16:=by
   simp only[outside,ajJ,decide_eq_false_iff_not] at h;omega
  rw[nj p.lines hl.1 hl.2]
  cases h1:((p.steps.length:Int)==0) <;> cases h2:decide ((p.steps.length:Int)>8) <;> rfl
 ·rfl
structure Prog.ok (p:Prog):Prop where
 lines:1<=p.lines/\p.lines<=16
 ne:p.steps≠[]
 few:p.steps.length<=8
 cond:∀s∈p.steps,NK p.lines s.cond 1=0
 tm:∀s∈p.steps,1<=s.times/\s.times<=64
 wi:∀s∈p.steps,0<=s.within/\s.within<=255
 first:∀s,p.steps[0]? = some s->s.within=0
theorem U3 {n a b:Int}(h:outside n a b=false):a<=n/\n<=b:=by
 simp only[outside,ajJ,decide_eq_false_iff_not] at h;omega
theorem Wv {p:Bool}{e x:Int}(he:e≠0)(h:br p e x=0):p=false/\x=0:=by
 cases p
 ·exact⟨rfl,h⟩
 ·exact absurd h he
theorem Dl {e x:Int}(h:br (e != 0) e x=0):e=0/\x=0:=by
 cases he:e != 0
 ·rw[he,YU] at h;exact⟨by simpa using he,h⟩
 ·rw[he,Xt] at h;rw[h] at he;cases he
theorem EA {lines:Int}:∀{l:List Step} {i:Nat},MV lines i l=0->∀s∈l,NK lines s.cond 1=0/\(1<=s.times/\s.times<=64)/\(0<=s.within/\s.within<=255)
 |x::l,i,h,s,hs=>by
  rw[MV] at h;obtain⟨h1,h⟩:=Dl h;obtain⟨h2,h⟩:=Wv (by omega) h;rcases ajo.1 hs with rfl|hs
  ·simp only[ajJ] at h2;exact⟨h1,U3 h2.1.1,U3 h2.1.2⟩
  ·exact EA h s hs
theorem Mn {p:Prog}(h:vC p=0):p.ok:=by
 rw[vC] at h;obtain⟨h1,h⟩:=Dl h;obtain⟨h2,h⟩:=Wv (by omega) h;obtain⟨h3,h⟩:=Wv (by omega) h;have h4:=EA h;refine⟨?_,?_,?_,fun s hs=>(h4 s hs).1,fun s hs=>(h4 s hs).2.1,fun s hs=>(h4 s hs).2.2,?_⟩
 ·rw[S5] at h1;exact U3 (Wv (x:=0) (by omega:(3:Int)≠0) h1).1
 ·intro e;rw[e] at h2;cases h2
 ·simp only[decide_eq_false_iff_not] at h3;omega
 ·intro s hs
  cases hp:p.steps with
  |nil=>rw[hp] at hs;cases hs
  |cons x l =>
   rw[hp] at hs h
   cases hs
   rw[MV] at h;obtain⟨_,h⟩:=Dl h;obtain⟨h2,_⟩:=Wv (by omega) h;simp only[ajJ] at h2
   simpa using h2.2
theorem Prog.ok.known {p:Prog}(h:p.ok):∀s∈p.steps,s.cond.allKnown=true:=fun s hs=>(Le _ _ _ (h.cond s hs)).1
mutual
def dz:ZX->Int
 |.mk k a b mi ma p nl kids=>bif (Zy k==.Vj||Zy k==.gap)||(Zy k==.idle||Zy k==.setup)||Zy k==.Um then WZ (Zy k) (.mk k a b mi ma p nl kids) else BB kids 1
def BB:List ZX->Int->Int
 |[],x=>x
 |c::l,x=>BB l (Iq x (dz c))
end
theorem age:∀c:ZX,c.fits->Zw U 117 [Zt c]=some (.int .i64 (dz c)):=by
 intro c
 induction c using ZX.ind with
 |h kind a b mi ma pat nl kids ih =>
 intro hf;rw[ZX.fits] at hf;obtain⟨f1,f2,f3⟩:=hf;refine ZI agW (by kernel_rfl) (by simp[ZO,Zf]) ?_;have ad0:∀e s,Env.get e 3=.int .i64 1->Env.get e 4=.int .i64 0->Env.get e 1=.ptr 8 0->s.get 8=some (.cells [.str kind,.int .i64 a,.int .i64 b,.int .i64 mi,.int .i64 ma,.str pat,ZG nl (VJ kids)] 106 false 0 0)->∀ks,(∀e' s' x,Env.get e' 3=.int .i64 x->jw U (Oe U [.tmp 2]) ks 1 e' s'=some (.int .i64 x)) ->
   SC U (Oe U [.tmp 2]) ks Jw e s=some (.int .i64 (BB kids 1)):=by
  intro e s h3 h4 h1 hs ks hk;refine Ym (σ:=Nat×Int) (fun x=>kids.length-x.1) (fun x=>some (AV.int .i64 (BB (kids.drop x.1) x.2))) (fun x e s=>x.1<=kids.length/\Env.get e 3=.int .i64 x.2/\Env.get e 4=.int .i64 x.1/\Env.get e 1=.ptr 8 0/\s.get 8=some (.cells [.str kind,.int .i64 a,.int .i64 b,.int .i64 mi,.int .i64 ma,.str pat,ZG nl (VJ kids)] 106 false 0 0)) (0,1) ?_ rfl ⟨aji _,h3,h4,h1,hs⟩;clear h3 h4 h1 hs e s;rintro L ⟨i,acc⟩ e s ⟨hi,h3,h4,h1,hs⟩ IH;simp only at hi h3 h4 h1 hs IH ⊢;by_cases hd:i<kids.length
  ·have hx:(VJ kids)[i]? = some (Zt kids[i]):=by rw[UA,aaa hd];rfl
   have hw:=ZE hd (by omega);have hc:=ih kids[i] (ajc hd) (f3 _ (ajc hd));rw[ZN] at hx hc;simp only[ZX.cells] at hx hc;rw[YF (WL hd)] at hs;simp only[go_sem,Jw,h3,h4,h1,hs,Z9,hd,Yt,hx,hc,aD,ZW,hw];rw[abc hd,BB];refine IH (i+1,Iq acc (dz kids[i])) _ _ (by simp only;omega) ⟨by simp only;omega,?_,?_,?_,?_⟩ <;> simp only[go_sem,h3,h4,h1,hs,hw,YF (WL hd)]
  ·have:i=kids.length:=by omega
   subst this;simp only[go_sem,Jw,h3,h4,h1,hs,ZJ,Yt,Z9,ajp];rw[ajy,BB];exact hk _ _ _ (by simp only[go_sem,h3])
 rw[Zt,dz];obtain⟨h0,h1,h2,h3,h4,h5,h6,h7,h8,h9,h10,h11,h12,h13,h14⟩:=RP kind;generalize Zy kind=d at *
 cases d
 all_goals simp only[reduceCtorEq,decide_true,decide_false] at h1 h2 h3 h4 h5 h6 h7 h8 h9 h10 h11 h12 h13 h14
 all_goals simp only[go_sem,ad1,ZJ,Yt,ZR,ZW,h7,h8,h9,h10,h11]
 all_goals first
  |rfl
  |(refine ad0 _ _ ?_ ?_ ?_ ?_ _ ?_
    rotate_right 1
    ·intro e' s' x h;simp only[go_sem,h]
    all_goals simp only[go_sem])
end Go.Am
namespace Go.Am
open Go
variable [ZZ]
set_option maxRecDepth 100000
set_option maxHeartbeats 8000000
def QJ:List Step->Int->Int->Int×Int
 |[],n,x=>(n,x)
 |s::l,n,x=>QJ l (Iq n (dz s.cond)) (IntKind.i64.wrap (x+IntKind.i64.wrap (s.times*IntKind.i64.wrap (s.within+1))))
def BE (p:Prog):Int:=Iq (QJ p.steps (IntKind.i64.wrap (2^p.lines.toNat+1)) 0).1 (min (QJ p.steps (IntKind.i64.wrap (2^p.lines.toNat+1)) 0).2 65537)
theorem c38 (p:Prog)(hf:p.fits)(hl:0<=p.lines/\p.lines<=16):Zw U 55 [UU p]=some (.int .i64 (BE p)):=by
 obtain⟨lines,nl,steps⟩:=p;obtain⟨f1,f2⟩:=hf;simp only at f1 f2 hl;refine ZI k38 (by kernel_rfl) (by simp[ZO,XX]) ?_;rw[Yg,BE];simp only[go_sem,r38,ZJ,Y',ZR,ZW,Va U _ _ _ hl];refine Ym (σ:=Nat×Int×Int) (fun x=>steps.length-x.1) (fun x=>some (AV.int .i64 (Iq (QJ (steps.drop x.1) x.2.1 x.2.2).1 (min (QJ (steps.drop x.1) x.2.1 x.2.2).2 65537)))) (fun x e s=>x.1<=steps.length/\Env.get e 3=.int .i64 x.2.1/\Env.get e 4=.int .i64 x.2.2/\Env.get e 5=.int .i64 x.1/\Env.get e 1=.ptr 8 0/\s.get 8=some (.cells [.int .i64 lines,ZG nl (Zr steps)] 31 false 0 0)) (0,IntKind.i64.wrap (2^lines.toNat+1),0) ?_ rfl ?_
 ·rintro L ⟨i,n,x⟩ e s ⟨hi,h3,h4,h5,h1,hs⟩ IH;simp only at hi h3 h4 h5 h1 hs IH ⊢;by_cases hd:i<steps.length
  ·have hx:(Zr steps)[i]? = some (YM steps[i]):=by rw[WI,aaa hd];rfl
   have hw:=ZE hd (by omega);have hc:=age steps[i].cond (f2 _ (ajc hd));rw[ZN] at hc;simp only[ZX.cells,YM] at hx hc;rw[YF (XQ hd)] at hs;simp only[go_sem,yp,h3,h4,h5,h1,hs,Z9,hd,Y',hx,hc,aD,ZW,hw];rw[abc hd,QJ];refine IH (i+1,Iq n (dz steps[i].cond),IntKind.i64.wrap (x+IntKind.i64.wrap (steps[i].times*IntKind.i64.wrap (steps[i].within+1)))) _ _ (by simp only;omega) ⟨by simp only;omega,?_,?_,?_,?_,?_⟩ <;> simp only[go_sem,h3,h4,h5,h1,hs,hw,YF (XQ hd)]
  ·have:i=steps.length:=by omega
   subst this;simp only[go_sem,yp,h3,h4,h5,h1,hs,ZJ,Y',Z9,ajp,aD];rw[ajy,QJ]
 ·refine⟨aji _,?_,?_,?_,?_,?_⟩ <;> simp only[go_sem] <;> rfl
theorem oI {lines:Int}{k:X6}{a b mi ma:Int}{p:X6}{nl:Bool}{kids:List ZX}{d:Int}(h:NK lines (.mk k a b mi ma p nl kids) d=0) :
  QI lines kids (IntKind.i64.wrap (d+1))=0/\((YL (Zy k)).mi=true->1<=mi/\mi<=255)/\((YL (Zy k)).ma=true->1<=ma/\ma<=255):=by
 rw[NK] at h;obtain⟨_,h⟩:=Wv (by omega) h;obtain⟨hk,h⟩:=Wv (by omega) h;obtain⟨hu,h⟩:=Wv (by omega) h;obtain⟨_,h⟩:=Wv (by omega) h;obtain⟨_,h⟩:=Wv (by omega) h;obtain⟨hm,h⟩:=Wv (by omega) h;obtain⟨_,h⟩:=Wv (by omega) h;obtain⟨_,h⟩:=Wv (by omega) h;obtain⟨_,h⟩:=Wv (by omega) h;obtain⟨_,h⟩:=Wv (by omega) h;obtain⟨_,h⟩:=Wv (by omega) h;rw[ajJ,Bool.and_eq_false_iff,Bool.and_eq_false_iff] at hm;refine⟨h,fun h1=>?_,fun h1=>?_⟩
 ·rcases hm.1 with h2|h2
  ·rw[h1] at h2;cases h2
  ·exact U3 h2
 ·rcases hm.2 with h2|h2
  ·rw[h1] at h2;cases h2
  ·exact U3 h2
theorem BD {lines d:Int}:∀{l:List ZX},QI lines l d=0->∀c∈l,NK lines c d=0
 |c::l,h,x,hx=>by
  rw[QI] at h;obtain⟨h1,h2⟩:=Dl h;rcases ajo.1 hx with rfl|hx
  ·exact h1
  ·exact BD h2 x hx
theorem acS (lines:Int):∀(c:ZX) (d:Int),NK lines c d=0->dz c=F8 c/\1<=F8 c/\F8 c<=65537:=by
 intro c
 induction c using ZX.ind with
 |h kind a b mi ma pat nl kids ih =>
 intro d h;obtain⟨hk,Qa⟩:=Le lines _ d h;obtain⟨h1,h2,h3⟩:=oI h;have Xv:=BD h1;have hl:∀(l:List ZX),(∀x∈l,x∈kids)->∀n,1<=n->n<=65537->BB l n=Oa l n/\1<=Oa l n/\Oa l n<=65537:=by
  intro l
  induction l with
  |nil=>intro _ n h1 h2;exact⟨rfl,h1,h2⟩
  |cons c l Gf =>
   intro hl n h1 h2;obtain⟨e1,e2,e3⟩:=ih c (hl c (aba ..)) _ (Xv c (hl c (aba ..)));rw[BB,Oa,e1];have hp:n*F8 c<=65537*65537:=Int.mul_le_mul h2 e3 (by omega) (by omega);have hp':1*1<=n*F8 c:=Int.mul_le_mul h1 e2 (by omega) (by omega);refine Gf (fun x hx=>hl x (aab _ hx)) _ ?_ ?_
   ·rw[Iq,wrap_i64 (by omega) (by omega)];omega
   ·rw[Iq];omega
 have ij:=hl kids (fun _ h=>h) 1 (by omega) (by omega);simp only[ZX.allKnown,adm] at hk;obtain⟨hk,_⟩:=hk;simp only[ZX.kind,ZX.kids] at Qa;rw[dz,F8];generalize Zy kind=dd at *
 cases dd <;> first|cases hk|skip
 all_goals simp only[Kd.leaf,cond_true,cond_false,BEq.rfl,reduceCtorEq,beq_iff_eq,Bool.or_true,Bool.true_or,WZ,ZX.ma,ZX.mi,YL] at *
 all_goals first
  |(have hn:=Qa trivial;subst hn;refine⟨rfl,by omega,by omega⟩)
  |exact ij
  |skip
 all_goals first
  |(have:=h3 trivial;rw[wrap_i64 (by omega) (by omega)];exact⟨trivial,by omega,by omega⟩)
  |(have:=h2 trivial;rw[wrap_i64 (by omega) (by omega)];exact⟨trivial,by omega,by omega⟩)
  |exact⟨trivial,by omega,by omega⟩
theorem BA {lines:Int}:∀(l:List Step),(∀s∈l,NK lines s.cond 1=0/\(1<=s.times/\s.times<=64)/\(0<=s.within/\s.within<=255))->∀(n x:Int) (k:Nat),1<=n->n<=65537->0<=x->x<=16384*(k:Int)->k+l.length<=8 ->
  QJ l n x=WX l n x/\1<=(WX l n x).1/\(WX l n x).1<=65537/\0<=(WX l n x).2/\(WX l n x).2<=131072
 |[],_,n,x,k,h1,h2,h3,h4,h5=>⟨rfl,h1,h2,h3,by simp only[WX];omega⟩
 |s::l,hs,n,x,k,h1,h2,h3,h4,h5=>by
  obtain⟨c1,c2,c3⟩:=hs s (aba ..);obtain⟨e1,e2,e3⟩:=acS lines s.cond 1 c1;have hp:n*F8 s.cond<=65537*65537:=Int.mul_le_mul h2 e3 (by omega) (by omega);have hp':1*1<=n*F8 s.cond:=Int.mul_le_mul h1 e2 (by omega) (by omega);have hw:IntKind.i64.wrap (s.within+1)=s.within+1:=wrap_i64 (by omega) (by omega);have ht:s.times*(s.within+1)<=64*256:=Int.mul_le_mul c2.2 (by omega) (by omega) (by omega);have iN:0<=s.times*(s.within+1):=Int.mul_nonneg (by omega) (by omega);rw[QJ,WX,e1,hw,wrap_i64 (n:=s.times*(s.within+1)) (by omega) (by omega),wrap_i64 (n:=x+s.times*(s.within+1)) (by simp only[ajk] at h5;omega) (by simp only[ajk] at h5;omega)];simp only[ajk] at h5;refine BA l (fun y hy=>hs y (aab _ hy)) _ _ (k+1) ?_ ?_ (by omega) (by omega) (by omega)
  ·rw[Iq,wrap_i64 (by omega) (by omega)];omega
  ·rw[Iq];omega
theorem size_eq {p:Prog}(h:p.ok):BE p=Rt p:=by
 have hl:=h.lines;have hp:(2:Int)^p.lines.toNat<=2^16:=by
  have h2:(2:Nat)^p.lines.toNat<=2^16:=Nat.pow_le_pow_right (by omega) (by omega)
  exact_mod_cast h2
 have dy:(0:Int)<=2^p.lines.toNat:=Int.pow_nonneg (by omega);have hw:IntKind.i64.wrap (2^p.lines.toNat+1)=2^p.lines.toNat+1:=wrap_i64 (by omega) (by omega);obtain⟨e1,e2,e3,e4,e5⟩:=BA (lines:=p.lines) p.steps (fun s hs=>⟨h.cond s hs,h.tm s hs,h.wi s hs⟩) (2^p.lines.toNat+1) 0 0 (by omega) (by omega) (by omega) (by omega) (by have:=h.few;omega);rw[BE,Rt,hw,e1];generalize (WX p.steps (2^p.lines.toNat+1) 0).1=n at *;generalize (WX p.steps (2^p.lines.toNat+1) 0).2=x at *;have b1:n*x<=65537*131072:=Int.mul_le_mul e3 e5 (by omega) (by omega);have b0:0<=n*x:=Int.mul_nonneg (by omega) (by omega);rw[Iq,Iq];rcases Int.le_total x 65537 with hx|hx
 ·rw[Int.min_eq_left hx]
 ·rw[Int.min_eq_right hx];have b2:1*65537<=n*65537:=Int.mul_le_mul e2 (by omega) (by omega) (by omega);have b3:1*65537<=n*x:=Int.mul_le_mul e2 hx (by omega) (by omega);rw[wrap_i64 (by omega) (by omega),wrap_i64 (by omega) (by omega)];omega
end Go.Am
