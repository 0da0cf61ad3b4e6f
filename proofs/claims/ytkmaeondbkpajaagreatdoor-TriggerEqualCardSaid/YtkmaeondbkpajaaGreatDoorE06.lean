/- A part of the proof. -/
import Derived.Test.YtkmaeondbkpajaaGreatDoorE05
set_option linter.all false
set_option maxHeartbeats 8000000
set_option maxRecDepth 100000
namespace Go.Am
open Go
variable [Z8]
variable {s:St}{t:TypeId}{v:AV}{args:List AV}{i:Nat}{cs:List AV}
def age (k:IntKind)(p:Bool)(x y:Int):br p (AV.int k x) (AV.int k y)=.int k (br p x y):=by cases p <;> rfl
def acH (p x y:Bool):br p (AV.bool x) (AV.bool y)=.bool (br p x y):=by cases p <;> rfl
def agf (p:Bool)(x y:XJ):br p (AV.str x) (AV.str y)=.str (br p x y):=by cases p <;> rfl
attribute [go_sem] age acH agf
def c94 (n a b:Int):ZE U 65 [.int .i64 n,.int .i64 a,.int .i64 b]=some (.bool (outside n a b)):=by
 refine ZP k94 It rfl ?_;simp +contextual only[go_sem,r94];rfl
def c26 (n:Int):ZE U 73 [.int .i64 n]=some (.int .i64 (br (outside n 1 16) 3 0)):=by
 refine ZP k26 It rfl ?_;simp +contextual only[go_sem,r26,c94]
def LX (p:Bool)(n:Int):ZE U 85 [.bool p,.int .i64 n]=some (.int .i64 (br p n 0)):=by
 refine ZP alU It rfl ?_;simp +contextual only[go_sem,ahE]
def aaC (n a b:Int):ZE U 111 [.int .i64 n,.int .i64 a,.int .i64 b]=some (.int .i64 (within n a b)):=by
 refine ZP alV It rfl ?_;simp +contextual only[go_sem,ahF,LX];rfl
def c88 (n:Int):ZE U 96 [.int .i64 n]=some (.int .i64 (within n 1 16)):=by
 refine ZP k88 It rfl ?_;simp +contextual only[go_sem,r88,aaC]
def Yk {X:Cx}{β:Type}{fin:Fl->β}{ks:List K} [Stat] {b:RC}{σ:Type}(m:σ->Nat)(R:σ->β)(I:σ->Env->St->Prop)(x:σ){r:β}{e:Env}
  (h:∀(L:RC) (x:σ) (e:Env) (s:St),I x e s->(∀(y:σ) (e':Env) (s':St),m y<m x->I y e' s'->SJ X fin ks L e' s'=R y)->go X fin (.lp L::ks) b e s=R x)
  (hr:R x=r)(hI:I x e s):SJ X fin ks b e s=r:=by
 rw[<-hr];exact my X fin ks m I R h x hI
def YB (l:List Int):(ints l).length=l.length:=by simp[ints]
def Ru (l:List Int)(i:Nat):(ints l)[i]? = (l[i]?).map (.int .i64 ·):=by simp[ints]
def Z9 (a b:Nat):decide ((a:Int)<(b:Int))=decide (a<b):=by congr 1;apply propext;omega
def g89 (l:List Int)(hlen:l.length<2^62):go U (U7 U [.tmp 2]) [] r89 (Zr 0 [.fz (ints l)] .nil) (Ym U)=some (.int .i64 (YD l)):=by
 simp only[go_sem,r89];refine Yk (σ:=Nat) (λi=>l.length-i) (λi=>some (AV.int .i64 (YD (l.drop i)))) (λi e s=>i<=l.length/\e.get 5=.fz (ints l)/\e.get 6=.int .i64 l.length/\e.get 7=.int .i64 i) 0 ?_ rfl ?_
 ·rintro L i e s ⟨hi,h5,h6,h7⟩ ih;by_cases hd:i<l.length
  ·have hx:(ints l)[i]? = some (.int .i64 l[i]):=by rw[Ru,aaa hd];rfl
   have hw:IntKind.i64.wrap ((i:Int)+1)=((i+1:Nat):Int):=by rw[wrap_i64] <;> omega
   simp only[go_sem,ti,h5,h6,h7,Z9,hd,hx];rw[aea hd,YD]
   cases hb:l[i] != 0
   ·simp only[go_sem,hw];refine ih (i+1) _ _ J ⟨J,?_,?_,?_⟩ <;> simp only[go_sem,h5,h6]
   ·simp only[go_sem]
  ·have:i=l.length:=J;subst this;simp only[go_sem,ti,h6,h7,Z9,ap5];rw[aqi];rfl
 ·refine⟨apW _,?_,?_,?_⟩ <;> simp only[go_sem,YB] <;> rfl
def aho (u:Uses):AV:=.agg [.bool u.a,.bool u.b,.bool u.mi,.bool u.ma,.bool u.pat,.bool u.kids]
def c95 (k:XJ):ZE U 114 [.str k]=some (.XQ [aho (Yt (Zs k)),.bool (Zs k).known]):=by
 refine ZP k95 It rfl ?_;obtain⟨h0,h1,h2,h3,h4,h5,h6,h7,h8,h9,h10,h11,h12,h13,h14⟩:=Qn k;generalize Zs k=d at *
 cases d
 all_goals simp only[reduceCtorEq,decide_true,decide_false] at h1 h2 h3 h4 h5 h6 h7 h8 h9 h10 h11 h12 h13 h14
 all_goals simp only[go_sem,r95,h1,h2,h3,h4,h5,h6,h7,h8,h9,h10,h11,h12,h13,h14]
 all_goals rfl
def Z0.ind {P:Z0->Prop}(h:∀k a b mi ma p nl kids,(∀x∈kids,P x)->P (.mk k a b mi ma p nl kids)):∀c,P c:=by
 intro c;exact Z0.rec (motive_1:=P) (motive_2:=λl=>∀x∈l,P x) (λk a b mi ma p nl kids ih=>h k a b mi ma p nl kids ih) (λx hx=>by cases hx)
  (λc l h1 h2 x hx=>by
   rcases ap9.1 hx with rfl|hx
   ·exact h1
   ·exact h2 x hx) c
def YY (c:Z0):still (Zo c)=true:=by
 cases c;simp[Zo,still,ZT,YE]
def Yz {nl:Bool}{l:List AV}(h:l≠[]):ZU nl l=.fz l:=by
 cases l with
 |nil=>exact absurd rfl h
 |cons x l=>exact BG ..
def WK {l:List Z0}(h:i<l.length):UF l≠[]:=by
 intro e;have:=Xw l;rw[e] at this;simp at this;omega
def Z0.fits:Z0->Prop
 |.mk _ _ _ _ _ pat _ kids=>pat.length<2^30/\kids.length<2^30/\∀x∈kids,x.fits
def acB (c:UInt8)(n:Int)(d:UInt8)(h:n=(d.toNat:Int)):((c.toNat:Int)==n)=(c==d):=by
 subst h;by_cases e:c=d
 ·subst e;rw[beq_self_eq_true,beq_self_eq_true]
 ·have h1:(c.toNat:Int)≠(d.toNat:Int):=λh=>e (UInt8.toNat_inj.1 J)
  rw[beq_eq_false_iff_ne.2 h1,beq_eq_false_iff_ne.2 e]
def zD (c:UInt8)(n:Int)(d:UInt8)(h:n=(d.toNat:Int)):((c.toNat:Int) != n)=(c != d):=by
 rw[bne,bne,acB c n d h]
def ZI {i n:Nat}(h:i<n)(hn:n<2^62):IntKind.i64.wrap ((i:Int)+1)=((i+1:Nat):Int):=by rw[wrap_i64] <;> omega
def c96 (pat:XJ)(n:Int)(hl:pat.length<2^30):ZE U 144 [.str pat,.int .i64 n]=some (.bool (LS pat n)):=by
 refine ZP k96 It rfl ?_;simp +contextual only[go_sem,r96,LS]
 cases hb:(pat.length:Int) != n
 ·simp +contextual only[go_sem,aqE];refine Yk (σ:=Nat) (λi=>pat.length-i) (λi=>some (AV.bool ((pat.drop i).any λc=>c != 48&&c != 49&&c != 120))) (λi e s=>i<=pat.length/\e.get 0=.str pat/\e.get 5=.int .i64 i) 0 ?_ rfl ?_
  ·rintro L i e s ⟨hi,h0,h5⟩ ih;by_cases hd:i<pat.length
   ·have hx:pat[i]? = some pat[i]:=aaa hd;have hw:=ZI hd J;simp +contextual only[go_sem,sV,h0,h5,Z9,hd,hx,zD _ 48 48 rfl,zD _ 49 49 rfl,zD _ 120 120 rfl];rw[aea hd,List.any_cons]
    cases hc:pat[i] != 48&&pat[i] != 49&&pat[i] != 120
    ·rw[aqE];simp +contextual only[go_sem,hw,Zp];refine ih (i+1) _ _ J ⟨J,?_,?_⟩ <;> simp +contextual only[go_sem,h0]
    ·simp +contextual only[go_sem,Bool.true_or]
   ·have:i=pat.length:=J;subst this;simp +contextual only[go_sem,sV,h0,h5,Z9,ap5];rw[aqi];rfl
  ·refine⟨apW _,?_,?_⟩ <;> simp +contextual only[go_sem] <;> rfl
 ·simp +contextual only[go_sem,Bool.true_or]
def Uo (k:IntKind)(p:Bool)(x y:Int):some (AV.int k (br p x y))=br p (some (.int k x)) (some (.int k y)):=by cases p <;> rfl
def pW (c:Z0)(a b:Int):ZT [.int .i64 a,Zo c,.int .i64 b]=true:=by simp[ZT,still,YY]
def c27 (lines:Int):∀c:Z0,c.fits->∀depth:Int,ZE U 74 [.int .i64 lines,Zo c,.int .i64 depth]=some (.int .i64 (LK lines c depth)):=by
 intro c
 induction c using Z0.ind with
 |h kind a b mi ma pat nl kids ih =>
 intro hf depth;rw[Z0.fits] at hf;obtain⟨f1,f2,f3⟩:=hf;refine ZP k27 It (pW _ _ _) ?_;rw[Zo,LK];simp (maxSteps:=2000000) +contextual only[go_sem,r27,c95,c94,c96 pat _ f1,aho,ZN,Xw];simp only[Uo];refine TA λ_=>TA λ_=>TA λ_=>TA λ_=>TA λ_=>TA λ_=>TA λ_=>TA λ_=>TA λ_=>TA λ_=>TA λ_=>?_
 refine Yk (σ:=Nat) (λi=>kids.length-i) (λi=>some (AV.int .i64 (O4 lines (kids.drop i) (IntKind.i64.wrap (depth+1))))) (λi e s=>i<=kids.length/\e.get 9=.int .i64 i/\e.get 0=.int .i64 lines/\e.get 2=.int .i64 depth/\e.get 4=.ptr 8 0 /\
  s.get 8=some (.cells [.str kind,.int .i64 a,.int .i64 b,.int .i64 mi,.int .i64 ma,.str pat,ZU nl (UF kids)] 106 false 0 0)) 0 ?_ rfl ?_
 ·rintro L i e s ⟨hi,h9,h0,h2,h4,hs⟩ IH;by_cases hd:i<kids.length
  ·have hx:(UF kids)[i]? = some (Zo kids[i]):=by rw[TU,aaa hd];rfl
   have hw:=ZI hd J;have hc:=ih kids[i] (adm hd) (f3 _ (adm hd)) (IntKind.i64.wrap (depth+1));rw[Yz (WK hd)] at hs;rw[ZH] at hx hc;simp only[Z0.cells] at hx hc;simp +contextual only[go_sem,tb,h9,h0,h2,h4,hs,Z9,hd,Xw,hx,hc];rw[aea hd,O4]
   cases hb:LK lines kids[i] (IntKind.i64.wrap (depth+1)) != 0
   ·simp only[go_sem,hw];refine IH (i+1) _ _ J ⟨J,?_,?_,?_,?_,?_⟩ <;> simp +contextual only[go_sem,h0,h2,h4,hs,Yz (WK hd)]
   ·simp only[go_sem]
  ·have:i=kids.length:=J;subst this;simp +contextual only[go_sem,tb,h9,h4,hs,ZN,Xw,Z9,ap5];rw[aqi,O4]
 ·refine⟨apW _,?_,?_,?_,?_,?_⟩ <;> simp +contextual only[go_sem] <;> rfl
def Prog.fits (p:Prog):Prop:=p.steps.length<2^30/\∀s∈p.steps,s.cond.fits
def Zy (l:List Step):List AV:=l.map Yy
def Yo (l:List Step):(Zy l).length=l.length:=by simp[Zy]
def Wb (l:List Step)(i:Nat):(Zy l)[i]? = (l[i]?).map Yy:=by simp[Zy]
def XV {l:List Step}(h:i<l.length):Zy l≠[]:=by
 intro e;have:=Yo l;rw[e] at this;simp at this;omega
def Ze (p:Prog):XU p=.agg [.int .i64 p.lines,ZU p.nl (Zy p.steps)]:=rfl
def YK (p:Prog):still (XU p)=true:=by simp[XU,still,ZT,YE]
def KB (lines:Int):Nat->List Step->Int
 |_,[]=>0
 |i,s::l=>br (LK lines s.cond 1 != 0) (LK lines s.cond 1) <|
  br (outside s.times 1 64||outside s.within 0 255||((i:Int)==0)&&s.within != 0) 3 <| KB lines (i+1) l
def RG (n:Int):Int:=br (outside n 1 16) 3 0
def AH (p:Prog):Int :=
 br (RG p.lines != 0) (RG p.lines) <| br ((p.steps.length:Int)==0) 12 <| br (decide ((p.steps.length:Int)>8)) 5 <| KB p.lines 0 p.steps
def c34 (p:Prog)(hf:p.fits):ZE U 23 [XU p]=some (.int .i64 (AH p)):=by
 obtain⟨lines,nl,steps⟩:=p;obtain⟨f1,f2⟩:=hf;simp only at f1 f2;refine ZP k34 It (by simp[ZT,YK]) ?_;rw[Ze,AH,RG];simp (maxSteps:=2000000) +contextual only[go_sem,r34,c26,ZN,Yo];simp only[Uo];refine TA λ_=>?_
 refine TA λ_=>?_
 refine TA λ_=>?_
 refine Yk (σ:=Nat) (λi=>steps.length-i) (λi=>some (AV.int .i64 (KB lines i (steps.drop i)))) (λi e s=>i<=steps.length/\e.get 4=.int .i64 i/\e.get 1=.ptr 8 0/\8<s.next /\
  s.get 8=some (.cells [.int .i64 lines,ZU nl (Zy steps)] 31 false 0 0)) 0 ?_ rfl ?_
 ·rintro L i e s ⟨hi,h4,h1,hn,hs⟩ IH;by_cases hd:i<steps.length
  ·have hx:(Zy steps)[i]? = some (Yy steps[i]):=by rw[Wb,aaa hd];rfl
   have hw:=ZI hd J;have ZB:¬s.next=8:=J;have hc:=c27 lines steps[i].cond (f2 _ (adm hd)) 1;rw[Yz (XV hd)] at hs;rw[ZH] at hc;simp only[Z0.cells,Yy] at hx hc;simp +contextual only[go_sem,tH,h4,h1,hs,Z9,hd,Yo,hx,hc,ZB,ZV,c94];rw[aea hd,KB];simp only[Uo];refine TA λ_=>?_
   cases hb:(outside steps[i].times 1 64||outside steps[i].within 0 255||(i:Int)==0&&steps[i].within != 0)
   ·simp only[go_sem,hw];refine IH (i+1) _ _ J ⟨J,?_,?_,?_,?_⟩ <;> simp +contextual only[go_sem,h1,hs,ZB,Yz (XV hd)]
    omega
   ·simp only[go_sem]
  ·have:i=steps.length:=J;subst this;simp +contextual only[go_sem,tH,h4,h1,hs,ZN,Yo,Z9,ap5];rw[aqi,KB]
 ·refine⟨apW _,?_,?_,?_,?_⟩ <;> simp +contextual only[go_sem] <;> rfl
def ahO:RC:=(sO [EZ 4] (sQ (sO [om 7 0,o 8 (.bin .eql 9 true (.t 7) (.v (.str []))),om 9 8,XI 10 9 1,oF 11 9 (.bin .eql 9 true (.t 10) (.v (.str []))),YO 12 9 11] (cT 12 (sO [om 13 0,om 4 13] .ret))) (sQ (sO [om 14 1,Kc 15 14,Wq 16 3 15 1,om 17 16,YV 18 17 1,oT 19 17 (.iS (.t 18) (vI 0)),oT 20 17 (.bin .lss 5 true (.t 19) (.v (.int .u8 128))),YP 21 17 20] (cT 21 (sQ (.Uu 8 [om 22 0,om 23 1,o 24 (.iS (.t 23) (vI 0)),YU 25 232 22 24,om 26 1,o 27 (.iS (.t 26) (vI 0)),YU 28 231 25 27,om 4 28]) .ret))) (sQ (sO [om 30 1,Zk 31 233 30,om 29 31,YN 32 29 0,YN 33 29 1,o 5 (.al [bF,bF,bF,bF,bF,bF,bF,bF,bF,bF,bF,bF,bF,bF,bF,bF,bF,bF,bF,bF,bF,bF,bF,bF,bF,bF,bF,bF,bF,bF,bF,bF,bF,bF,bF,bF,bF,bF,bF,bF,bF,bF,bF,bF,bF,bF,bF,bF,bF,bF,bF,bF,bF,bF,bF,bF,bF,bF,bF,bF,bF,bF,bF,bF,bF,bF,bF,bF,bF,bF,bF,bF,bF,bF,bF,bF,bF,bF,bF,bF,bF,bF,bF,bF,bF,bF,bF,bF,bF,bF,bF,bF,bF,bF,bF,bF,bF,bF,bF,bF,bF,bF,bF,bF,bF,bF,bF,bF,bF,bF,bF,bF,bF,bF,bF,bF,bF,bF,bF,bF,bF,bF,bF,bF,bF,bF,bF,bF,bF,bF,bF,bF,bF,bF,bF,bF,bF,bF,bF,bF,bF,bF,bF,bF,bF,bF,bF,bF,bF,bF,bF,bF,bF,bF,bF,bF,bF,bF,bF,bF,bF,bF,bF,bF,bF,bF,bF,bF,bF,bF,bF,bF,bF,bF,bF,bF,bF,bF,bF,bF,bF,bF,bF,bF,bF,bF,bF,bF,bF,bF,bF,bF,bF,bF,bF,bF,bF,bF,bF,bF,bF,bF,bF,bF,bF,bF,bF,bF,bF,bF,bF,bF,bF,bF,bF,bF,bF,bF,bF,bF,bF,bF,bF,bF,bF,bF,bF,bF,bF,bF,bF,bF,bF,bF,bF,bF,bF,bF,bF,bF,bF,bF,bF,bF,bF,bF,bF,bF,bF,bF,bF,bF,bF,bF,bF,bF] 300),YC 256 5 32,om 6 33] (sO [om 34 6] (cT 34 (sO [om 35 0,YU 36 235 35 5,YU 37 234 36 5,om 4 37] .ret)))) (sO [om 38 0,om 39 1,YU 40 237 38 39,om 41 1,YU 42 236 40 41,om 4 42] .ret)))))
def al1:Zm 208=some ([.tmp 4],ahO):=It
def z_:RC:=(sQ (sO [om 5 0,Kc 6 5,Wx 7 3 6 0] (cS 7 (.exit 0))) (.block 1 (sQ (sO [om 8 1,om 9 0,o 10 (.iS (.t 9) (vI 0)),YU 11 259 8 10,WU 12 11] (cT 12 (.exit 0))) (oP [om 13 0,o 14 (.sls (.t 13) (some (vI 1)) none),om 0 14]))))
def aiz:RC:=(sO [EZ 4] (sQ (.block 0 (.loop z_)) (sO [om 15 0,om 4 15] .ret)))
def amI:Zm 234=some ([.tmp 4],aiz):=It
def Ah:RC:=(sQ (sO [om 5 0,Kc 6 5,Wx 7 3 6 0] (cS 7 (.exit 0))) (.block 1 (sQ (sO [om 8 1,om 9 0,om 10 0,Kc 11 10,Wy 12 3 11 1,o 13 (.iS (.t 9) (.t 12)),YU 14 259 8 13,WU 15 14] (cT 15 (.exit 0))) (oP [om 16 0,om 17 0,Kc 18 17,Wy 19 3 18 1,o 20 (.sls (.t 16) none (some (.t 19))),om 0 20]))))
def ahK:RC:=(sO [EZ 4] (sQ (.block 0 (.loop Ah)) (sO [om 21 0,om 4 21] .ret)))
def alX:Zm 235=some ([.tmp 4],ahK):=It
def aiy:RC:=(sO [Zf 4] (sO [om 5 0,om 6 1,X5 7 5,o 8 (.eL 256 1 (.t 7) (.t 6)),ZX 9 8,om 4 9] .ret))
def amH:Zm 259=some ([.tmp 4],aiy):=It
def OR:Kd->AV
 |.high=>.fn (.func 176) [] []
 |.low=>.fn (.func 176) [] []
 |.Gj=>.fn (.func 176) [] []
 |.fall=>.fn (.func 176) [] []
 |.pattern=>.fn (.func 176) [] []
 |.enter=>.fn (.func 176) [] []
 |.UB=>.fn (.func 174) [] []
 |.gap=>.fn (.func 174) [] []
 |.idle=>.fn (.func 175) [] []
 |.setup=>.fn (.func 175) [] []
 |.TC=>.fn (.func 192) [] []
 |_=>.VC
def RU:Kd->AV
 |.high=>.fn (.func 177) [] []
 |.low=>.fn (.func 177) [] []
 |.Gj=>.fn (.func 177) [] []
 |.fall=>.fn (.func 177) [] []
 |.pattern=>.fn (.func 177) [] []
 |.enter=>.fn (.func 177) [] []
 |.UB=>.fn (.func 177) [] []
 |.gap=>.fn (.func 177) [] []
 |.idle=>.fn (.func 177) [] []
 |.setup=>.fn (.func 190) [] []
 |.TC=>.fn (.func 177) [] []
 |_=>.VC
def OQ:Kd->AV
 |.high=>.fn (.func 216) [] [.fp [.fn (.func 179) [] []] 0]
 |.low=>.fn (.func 216) [] [.fp [.fn (.func 181) [] []] 0]
 |.Gj=>.fn (.func 216) [] [.fp [.fn (.func 182) [] []] 0]
 |.fall=>.fn (.func 216) [] [.fp [.fn (.func 184) [] []] 0]
 |.pattern=>.fn (.func 216) [] [.fp [.fn (.func 185) [] []] 0]
 |.enter=>.fn (.func 216) [] [.fp [.fn (.func 187) [] []] 0]
 |.UB=>.fn (.func 217) [] [.fp [.bool true] 0]
 |.gap=>.fn (.func 217) [] [.fp [.bool false] 0]
 |.idle=>.fn (.func 189) [] []
 |.setup=>.fn (.func 191) [] []
 |.TC=>.fn (.func 193) [] []
 |_=>.VC
def Vh (d:Kd):AV:=.agg [.bool (Yt d).a,.bool (Yt d).b,.bool (Yt d).mi,.bool (Yt d).ma,.bool (Yt d).pat,.bool (Yt d).kids,OR d,RU d,OQ d]
def Jn:List AV:=[.str [104,105,103,104],.str [108,111,119],.str [114,105,115,101],.str [102,97,108,108],.str [112,97,116,116,101,114,110],.str [101,110,116,101,114],.str [112,117,108,115,101],.str [103,97,112],.str [105,100,108,101],.str [115,101,116,117,112],.str [114,117,110,116],.str [110,111,116],.str [97,108,108],.str [97,110,121]]
def Jm:List AV:=[Vh .high,Vh .low,Vh .Gj,Vh .fall,Vh .pattern,Vh .enter,Vh .UB,Vh .gap,Vh .idle,Vh .setup,Vh .TC,Vh .Jl,Vh .nu,Vh .Gi]
def adI:ZE U 136 []=some (.fm Jn Jm):=U6 It rfl (YZ U (n:=100000) It)
def K3 (k:XJ)(ok:Bool)(s:St):WM U 215 (.fm Jn Jm) (.str k) ok s=some (if ok then .XQ [Vh (Zs k),.bool (Zs k).known] else Vh (Zs k)):=by
 have hu:U.Zd 215=some (.map 9 220):=It;have h9:U.Zd 9=some .string:=It;have hz:zero U 220=some (Vh .other):=It;obtain⟨h0,h1,h2,h3,h4,h5,h6,h7,h8,h9',h10,h11,h12,h13,h14⟩:=Qn k;unfold WM;rw[hu];simp only[Vr,h9,if_true,Jn,Jm,List.zip_cons_cons,List.zip_nil_left];generalize Zs k=d at *
 cases d <;> simp only[reduceCtorEq,decide_true,decide_false] at h1 h2 h3 h4 h5 h6 h7 h8 h9' h10 h11 h12 h13 h14 <;>
  simp only[UY,VP,h1,h2,h3,h4,h5,h6,h7,h8,h9',h10,h11,h12,h13,h14,hz] <;> rfl
def iF (X:Cx)(t:TypeId)(ok:Bool)(m k:Option AV)(s:St):Option (AV×St):=match m,k with
 |some m,some k=>Zh (WM X t m k ok s) s
 |_,_=>none
def t_ (X:Cx)(ex:Ex)(e:Env)(s:St)(t:TypeId)(m k:Operand)(ok:Bool):Yn X ex e (.lookup t m k ok) s=iF X t ok (eval X e m) (eval X e k) s:=by
 unfold iF;simp only[Yn];rfl
def tZ (X:Cx)(t:TypeId)(ok:Bool)(m k:AV)(s:St):iF X t ok (some m) (some k) s=Zh (WM X t m k ok s) s:=(λh=>h) rfl
def DL (k:XJ)(s:St):WM U 215 (.fm Jn Jm) (.str k) true s=some (.XQ [Vh (Zs k),.bool (Zs k).known]):=K3 k true s
def Me (k:XJ)(s:St):WM U 215 (.fm Jn Jm) (.str k) false s=some (Vh (Zs k)):=K3 k false s
attribute [go_sem] t_ tZ
def Pk:List AV:=(List.range 256).map λn=>.bool (Nat.beq n 48||Nat.beq n 49||Nat.beq n 120)
def zd:Pk.length=256:=by simp[Pk]
def tY:Pk.all Zu=true:=by simp[Pk,Zu]
def iE (c:UInt8):Pk[c.toNat]? = some (.bool (c==48||c==49||c==120)):=by
 have hc:c.toNat<256:=c.toNat_lt;have e:∀d:UInt8,Nat.beq c.toNat d.toNat=(c==d):=λd=>by
  rw[aqI,Nat.beq_eq,beq_iff_eq];exact UInt8.toNat_inj
 have e1:=e 48;have e2:=e 49;have e3:=e 120;simp only[Pk,aqc,List.getElem?_range hc,aqG];rw[<-e1,<-e2,<-e3];rfl
def ak0:ZE U 233 [.str [48,49,120]]=some (.XQ [.agg Pk,.bool true]):=U6 It rfl (YZ U (n:=100000) It)
def aeK (b:XJ)(k:IntKind)(n:Int):sy (.str b) none (some (.int k n))=if 0<=n/\n<=b.length then some (.str (b.take n.toNat)) else none:=by
 simp only[sy,Yv];by_cases h:0<=n/\n<=b.length
 ·simp[h]
 ·simp[h]
def aeL (b:XJ)(k:IntKind)(n:Int):sy (.str b) (some (.int k n)) none=if 0<=n/\n<=b.length then some (.str (b.drop n.toNat)) else none:=by
 simp only[sy,Yv];by_cases h:0<=n/\n<=b.length
 ·simp[h]
 ·simp[h]
attribute [go_sem] aeK aeL
def ahL (c:UInt8):ZE U 259 [.fp Pk 0,.int .u8 c.toNat]=some (.bool (c==48||c==49||c==120)):=by
 have hc:c.toNat<256:=c.toNat_lt;have hx:=iE c;have h0:(0:Int)<=(c.toNat:Int):=J;refine ZP amH It rfl ?_;simp only[go_sem,aiy,hx,hc,ap3,oO]
def T7 (c:UInt8):Bool:=c==48||c==49||c==120
def Ss (s:XJ):XJ:=(s.reverse.dropWhile T7).reverse
def xw (l:XJ)(c:UInt8):Ss (l++[c])=bif T7 c then Ss l else l++[c]:=by
 unfold Ss;rw[List.reverse_append,List.reverse_singleton,List.singleton_append,List.dropWhile_cons]
 cases T7 c <;> simp
def h_ (s:XJ):((Ss s).dropWhile T7==[])=s.all T7:=by
 have h1:∀l:XJ,(l.dropWhile T7=[])<->l.all T7=true:=λl=>by
  induction l with
  |nil=>simp
  |cons c l ih =>
   rw[List.dropWhile_cons,List.all_cons]
   cases h:T7 c <;> simp[ih]
 rw[aqI,beq_iff_eq,h1];unfold Ss;rw[List.all_reverse]
 constructor
 ·intro h;have h2:s.reverse.dropWhile T7=[]:=by
   cases hd:s.reverse.dropWhile T7 with
   |nil=>rfl
   |cons c l =>
    exfalso;rw[hd] at h;have:=List.head?_dropWhile_not (p:=T7) (l:=s.reverse);rw[hd] at this;simp only[List.head?_cons] at this;simp only[List.all_cons,ahe] at h;simp[h.1] at this
  rw[h1,List.all_reverse] at h2;exact h2
 ·intro h;have:s.reverse.dropWhile T7=[]:=by rw[h1,List.all_reverse];exact h
  rw[this];rfl
def al0 (s:XJ)(hl:s.length<2^30):ZE U 234 [.str s,.fp Pk 0]=some (.str (s.dropWhile T7)):=by
 refine ZP amI It rfl ?_;simp only[go_sem,aiz];refine Yk (σ:=XJ) (λx=>x.length) (λx=>some (AV.str (x.dropWhile T7))) (λx e s=>e.get 0=.str x/\e.get 1=.fp Pk 0) s ?_ rfl ?_
 ·rintro L x e s ⟨h0,h1⟩ ih
  cases x with
  |nil =>
   simp only[go_sem,z_,h0,gt_iff_lt,Int.natCast_zero,Int.lt_irrefl];rfl
  |cons c l =>
   have hp:(0:Int)<((l.length+1:Nat):Int):=J;have hle:((0:Int)<=1/\(1:Int)<=((l.length+1:Nat):Int)):=J;simp only[go_sem,z_,h0,h1,gt_iff_lt,hp,ahL,hle];rw[List.dropWhile_cons]
   cases hc:T7 c
   ·have Hl:(c==48||c==49||c==120)=false:=hc;simp only[go_sem,Hl,aqF];rfl
   ·have Hl:(c==48||c==49||c==120)=true:=hc;simp only[go_sem,Hl,aqB];refine ih l _ _ No ⟨?_,?_⟩ <;> simp only[go_sem,h1] <;> rfl
 ·refine⟨?_,?_⟩ <;> simp only[go_sem]
def CY {f:FuncId}{us:List AV}(h:ZE U f us=some v)(hp:OY f=true)(W_:ZT us=true)(hf:flat v=true)(s:St):UX U f (some us) s=some (v,s):=by
 have h:=Ai h (Ym U);obtain⟨p1,p2⟩:=PK hp;unfold UN TY at h;rw[p2] at h;simp only[p1,if_true,NL,U2,W_] at h
 split at h
 ·rename_i w hq
  cases h
  refine XM U s ?_;unfold X7 at hq ⊢
  split at hq
  ·rename_i v0 s' hB;simp only[if_true] at hq;have:=xy s' _ _ _ hq hf;subst this;simp[hf]
  ·cases hq
 ·cases h
def alW (s:XJ)(hl:s.length<2^30):ZE U 235 [.str s,.fp Pk 0]=some (.str (Ss s)):=by
 refine ZP alX It rfl ?_;simp +contextual only[go_sem,ahK];refine Yk (σ:=XJ) (λx=>x.length) (λx=>some (AV.str (Ss x))) (λx e s=>x.length<2^30/\e.get 0=.str x/\e.get 1=.fp Pk 0) s ?_ rfl ?_
 ·rintro L x e s ⟨hx,h0,h1⟩ ih;rcases List.eq_nil_or_concat x with rfl|⟨l,c,rfl⟩
  ·simp +contextual only[go_sem,Ah,h0,gt_iff_lt,Int.natCast_zero,Int.lt_irrefl];rfl
  ·rw[List.concat_eq_append] at *;have hlen:(l++[c]).length=l.length+1:=by simp
   have hp:(0:Int)<((l.length+1:Nat):Int):=J;have hw:IntKind.i64.wrap (((l.length+1:Nat):Int)-1)=(l.length:Int):=by rw[wrap_i64] <;> omega
   have hi:(l++[c])[l.length]? = some c:=by simp
   have hle:((0:Int)<=(l.length:Int)/\(l.length:Int)<=((l.length+1:Nat):Int)):=J;have K_:(l++[c]).take l.length=l:=by simp
   simp +contextual only[go_sem,Ah,h0,h1,gt_iff_lt,hlen,hp,hw,hi,ahL,hle,K_];rw[xw]
   cases hc:T7 c
   ·have Hl:(c==48||c==49||c==120)=false:=hc;simp +contextual only[go_sem,Hl,aqF]
   ·have Hl:(c==48||c==49||c==120)=true:=hc;simp +contextual only[go_sem,Hl,aqB];refine ih l _ _ No ⟨J,?_,?_⟩ <;> simp +contextual only[go_sem,h1]
 ·refine⟨hl,?_,?_⟩ <;> simp +contextual only[go_sem]
def xu:∀(vs c:List AV),vs.length=c.length->lay 0 vs c=some vs
 |[],[],_=>rfl
 |v::vs,x::c,h=>by
  simp only[lay];rw[xu vs c (by simpa using h)]
def sM (s:XJ):(Ss s).length<=s.length:=by
 unfold Ss;rw[List.length_reverse];refine aqM (List.Sublist.length_le (List.dropWhile_sublist _)) ?_;rw[List.length_reverse];exact api _
def fy (s:St)(d:Nat):YS (Ya U s (d+1)) Pk=some Pk:=by
 have:∀l:List AV,(∀x∈l,∃b,x=.bool b)->YS (Ya U s (d+1)) l=some l:=by
  intro l
  induction l with
  |nil=>intro _;rfl
  |cons x l ih =>
   intro h;obtain⟨b,rfl⟩:=h x (aba ..);rw[YS,ih λy hy=>h y (aab _ hy)];rfl
 refine this _ λx hx=>?_
 simp only[Pk,ap0] at hx;obtain⟨n,_,rfl⟩:=hx;exact⟨_,rfl⟩
def alY (h:ZT args=false):Yx U (ZE U 235 args) 235 args s=UX U 235 (YS (Ya U s 40) args) s:=LR It s h
def alZ (h:ZT args=false):Yx U (ZE U 234 args) 234 args s=UX U 234 (YS (Ya U s 40) args) s:=LR It s h
def ahM (x:XJ)(hl:x.length<2^30)(s:St):UX U 235 (some [.str x,.fp Pk 0]) s=some (.str (Ss x),s):=CY (alW x hl) It rfl rfl s
def ahN (x:XJ)(hl:x.length<2^30)(s:St):UX U 234 (some [.str x,.fp Pk 0]) s=some (.str (x.dropWhile T7),s):=CY (al0 x hl) It rfl rfl s
def ak7 (s:XJ)(hl:s.length<2^30):ZE U 208 [.str s,.str [48,49,120]]=some (.str ((Ss s).dropWhile T7)):=by
 refine ZP al1 It rfl ?_;have e0:(([48,49,120]:XJ)==[])=false:=rfl;have e4:(((3:Nat):Int)==1)=false:=rfl;have IY:(Ss s).length<2^30:=by have:=sM s;omega
 have hly:∀z:List AV,z.length=256->lay 0 Pk z=some Pk:=λz hz=>xu _ _ (by rw[zd,hz])
 simp (config:={ maxSteps:=1000000 }) +contextual only[go_sem,ahO,e0,e4,aqK,Zp,ak0,zd,tY,hly,alY,alZ,fy,ahM s hl,ahN _ IY]
 cases s with
 |nil=>rfl
 |cons c s=>rfl
def yW (s:XJ):(s.any λc=>c != 48&&c != 49&&c != 120)=!s.all T7:=by
 induction s with
 |nil=>rfl
 |cons c s ih =>
  rw[List.any_cons,List.all_cons,ih,T7];have e:(c != 48&&c != 49&&c != 120)=!(c==48||c==49||c==120):=by
   simp[bne,Bool.and_assoc]
  rw[e]
  cases (c==48||c==49||c==120) <;> rfl
def ak5 (lines:Int)(pat:XJ)(hl:pat.length<2^30):ZE U 156 [.int .i64 lines,.str pat]=some (.int .i64 (KX lines pat)):=by
 refine ZP ak6 It rfl ?_;simp +contextual only[go_sem,agO,ak7 pat hl,LX,h_];rw[KX,LS,yW]
def ak8 (d:Kd)(k:XJ)(a b mi ma:Int)(pat:XJ)(nl:Bool)(kids:List Z0) :
  ZE U 155 [Vh d,Zo (.mk k a b mi ma pat nl kids)]=some (.bool (!(Yt d).a&&a != 0||!(Yt d).b&&b != 0||!(Yt d).mi&&mi != 0||!(Yt d).ma&&ma != 0||!(Yt d).pat&&!pat==[]||!(Yt d).kids&&decide ((kids.length:Int)>0))):=by
 have hs:ZT [OR d,RU d,OQ d]=true:=by cases d <;> rfl
 have hn:Zu (OR d)=true/\Zu (RU d)=true/\Zu (OQ d)=true:=by cases d <;> exact⟨rfl,rfl,rfl⟩
 obtain⟨n1,n2,n3⟩:=hn;simp only[ZT,Bool.and_true,ahe] at hs;obtain⟨s1,s2,s3⟩:=hs;refine ZP ak9 It (by simp[ZT,still,Vh,Zo,YE,s1,s2,s3]) ?_;rw[Vh,Zo];generalize OR d=A1 at *;generalize RU d=A2 at *;generalize OQ d=A3 at *;simp (config:={ maxSteps:=1000000 }) +contextual only[go_sem,agP,ZN,Xw]
def aaq (l:List Int)(hl:l.length<2^62)(s:St):UX U 93 (some [.fz (ints l)]) s=some (.int .i64 (YD l),s) :=
 CY (ZP k89 It (by simp[ZT,still]) (g89 l hl)) It (by simp[ZT,still]) rfl s
def Jq (a b:Int)(s:St):UX U 93 (some [.fz [.int .i64 a,.int .i64 b]]) s=some (.int .i64 (YD [a,b]),s):=aaq [a,b] No s
def hZ (a b c:Int)(s:St):UX U 93 (some [.fz [.int .i64 a,.int .i64 b,.int .i64 c]]) s=some (.int .i64 (YD [a,b,c]),s):=aaq [a,b,c] No s
def hJ (a b c d:Int)(s:St):UX U 93 (some [.fz [.int .i64 a,.int .i64 b,.int .i64 c,.int .i64 d]]) s=some (.int .i64 (YD [a,b,c,d]),s):=aaq [a,b,c,d] No s
def adO (a b c d e f g:Int)(s:St):UX U 93 (some [.fz [.int .i64 a,.int .i64 b,.int .i64 c,.int .i64 d,.int .i64 e,.int .i64 f,.int .i64 g]]) s=some (.int .i64 (YD [a,b,c,d,e,f,g]),s):=aaq [a,b,c,d,e,f,g] No s
def z89 (h:ZT args=false):Yx U (ZE U 93 args) 93 args s=UX U 93 (YS (Ya U s 40) args) s:=LR It s h
section
variable (X:Cx)
def aZ (len:Nat)(x:Option (List AV)):Option (Nat×List AV):=match x with
 |some r=>some (len,r)
 |none=>none
def acx (len k o:Nat)(x:Option (List AV)):Option (Nat×List AV):=match x with
 |some c=>aZ len (Xi k o c)
 |none=>none
def jz (len:Nat)(r:List AV):aZ len (some r)=some (len,r):=(λh=>h) rfl
def jy (len k o:Nat)(c:List AV):acx len k o (some c)=aZ len (Xi k o c):=(λh=>h) rfl
def Bv (n b o len:Nat)(cap:Option Nat)(z:Nat)(s:St):VH n (.sl b o len cap z) s=acx len (len*n) o (cellsOf (s.get b)):=by
 simp only[VH,<-IE,acx,aZ];rfl
def aY (t:TypeId)(n m:Nat)(new:List AV)(b o len:Nat)(Vl:Nat)(s:St)(x:Option Uf):Option (AV×St):=match x with
 |some (.cells c e0 false N3 O_)=>match Xi (len*n) o c with
  |some old=>if Vl=n/\O_<=o+len*n/\e0=t/\new.all Zu=true then
    some (.sl s.next 0 (len+m) none n,(s.put b .gone).new (.cells (old++new) t false (N3-o) (O_-o)))
   else none
  |none=>none
 |_=>none
def PF (t:TypeId)(n m:Nat)(new:List AV)(d:AV)(s:St):Option (AV×St):=match d with
 |.ZQ=>some (.sl s.next 0 m none n,s.new (.cells new t false 0 0))
 |.sl b o len cap Vl=>match s.cells b with
  |some c=>match Xi (len*n) o c with
   |some old =>
    match cap with
    |some k=>if len+m<=k then
      if Vl=n then match WX s b (o+len*n) new with
       |some s'=>some (.sl b o (len+m) (some k) n,s')
       |none=>none
      else none
     else some (.sl s.next 0 (len+m) none n,s.new (.cells (old++new) t false 0 0))
    |none=>match s.get b with
     |some (.cells _ e0 false N3 O_) =>
      if Vl=n/\O_<=o+len*n/\e0=t/\new.all Zu=true then
       some (.sl s.next 0 (len+m) none n,(s.put b .gone).new (.cells (old++new) t false (N3-o) (O_-o)))
      else none
     |_=>none
   |none=>none
  |none=>none
 |_=>none
def aj' (d:AV)(s:St):Option (AV×St):=match d with
 |.ZQ=>some (d,s)
 |.sl ..=>some (d,s)
 |.fz _=>some (d,s)
 |_=>none
def An (t:TypeId)(n bytes:Nat)(d:AV)(x:Option (Nat×List AV))(s:St):Option (AV×St):=match x with
 |some (m,new) =>
  if new.length≠m*n\/(WV d+m)*bytes>2^40\/WV d+m>2^40 then none
  else if m=0 then aj' d s else PF t n m new d s
 |none=>none
def af8 (t:TypeId)(n bytes:Nat)(d x:AV)(s:St):kC t n bytes d x s=An t n bytes d (VH n x s) s:=by
 unfold kC An PF aj';rfl
def Zx {n bytes:Nat}{d:AV}{m:Nat}{new:List AV}(h1:new.length=m*n)(h2:(WV d+m)*bytes<=2^40)(h3:WV d+m<=2^40)(h4:m≠0) :
  An t n bytes d (some (m,new)) s=PF t n m new d s:=by
 simp only[An];rw[O3 J,O3 h4]
def Vz (t:TypeId)(n m:Nat)(new:List AV)(s:St):PF t n m new .ZQ s=some (.sl s.next 0 m none n,s.new (.cells new t false 0 0)):=(λh=>h) rfl
def R_ (t:TypeId)(n m:Nat)(new:List AV)(b o len Vl:Nat)(s:St):PF t n m new (.sl b o len none Vl) s=aY t n m new b o len Vl s (s.get b):=by
 simp only[PF,aY,St.cells]
 cases s.get b with
 |none=>rfl
 |some x =>
  cases x <;> simp only
  rename_i c e0 ro lo hi
  cases ro <;> simp only
  cases Xi (len*n) o c <;> rfl
def T9 {n m:Nat}{new:List AV}{b len:Nat}{lo hi:Nat}(hl:cs.length=len*n)(hh:hi<=len*n)(Pq:new.all Zu=true) :
  aY t n m new b 0 len n s (some (.cells cs t false lo hi))=some (.sl s.next 0 (len+m) none n,(s.put b .gone).new (.cells (cs++new) t false lo hi)):=by
 simp only[aY];rw[<-hl,VA];simp only[true_and];rw[Of ⟨J,Pq⟩];simp
def jw:WV .ZQ=0:=(λh=>h) rfl
def JX (b o n:Nat)(c:Option Nat)(z:Nat):WV (.sl b o n c z)=n:=(λh=>h) rfl
def ZD (s:St)(B:Nat)(t:TypeId)(n i:Nat)(cs:List AV)(v:AV):Prop :=
 (i=0/\v=.ZQ/\cs=[])\/(0<i/\cs.length=i*n/\∃b,B<=b/\b<s.next/\v=.sl b 0 i none n/\s.get b=some (.cells cs t false 0 0))
def ZD.nil (s:St)(B:Nat)(t:TypeId)(n:Nat):ZD s B t n 0 [] .ZQ:=.inl ⟨rfl,rfl,rfl⟩
def ZD.Zu {B:Nat}{n i:Nat}(h:ZD s B t n i cs v):Zu v=true:=by
 rcases h with⟨_,rfl,_⟩|⟨_,_,b,_,_,rfl,_⟩ <;> rfl
def ZD.cells {B:Nat}{n i:Nat}(h:ZD s B t n i cs v):v.cells=[v]:=by
 rcases h with⟨_,rfl,_⟩|⟨_,_,b,_,_,rfl,_⟩ <;> rfl
def ZD.len {B:Nat}{n i:Nat}(h:ZD s B t n i cs v):U1 v=some (.int .i64 i):=by
 rcases h with⟨rfl,rfl,_⟩|⟨_,_,b,_,_,rfl,_⟩ <;> rfl
def ZD.WV {B:Nat}{n i:Nat}(h:ZD s B t n i cs v):Go.Am.WV v=i:=by
 rcases h with⟨rfl,rfl,_⟩|⟨_,_,b,_,_,rfl,_⟩ <;> rfl
def ZD.mono {s s':St}{B:Nat}{n i:Nat}(h:ZD s B t n i cs v)(hn:s.next<=s'.next)(hg:∀j,B<=j->j<s.next->s'.get j=s.get j):ZD s' B t n i cs v:=by
 rcases h with⟨h0,h1,h2⟩|⟨h0,h1,b,h2,h3,h4,h5⟩
 ·exact .inl ⟨h0,h1,h2⟩
 ·exact .inr ⟨h0,h1,b,h2,J,h4,by rw[hg b h2 h3];exact h5⟩
def ZD.app {B:Nat}{n i:Nat}(h:ZD s B t n i cs v)(hB:B<=s.next){m:Nat}{new:List AV}(hm:m≠0)(hl:new.length=m*n)(Pq:new.all Go.Am.Zu=true) :
  ∃s1,PF t n m new v s=some (.sl s.next 0 (i+m) none n,s1)/\s1.next=s.next+1/\ZD s1 B t n (i+m) (cs++new) (.sl s.next 0 (i+m) none n)/\(∀j,j<B->s1.get j=s.get j)/\(Fr s->Fr s1):=by
 rcases h with⟨rfl,rfl,rfl⟩|⟨h0,h1,b,h2,h3,rfl,h5⟩
 ·refine⟨s.new (.cells new t false 0 0),by rw[Vz,ap4],rfl,.inr ⟨J,by rw[ap4,aqQ];exact hl,s.next,hB,O0,rfl,by rw[Z5,Of rfl];rfl⟩,λj hj=>by rw[Z5,O3 J],λhf=>hf.new _⟩
 ·refine⟨(s.put b .gone).new (.cells (cs++new) t false 0 0),by rw[R_,h5,T9 h1 J Pq],rfl,.inr ⟨J,by rw[ann,h1,hl,aq3],s.next,hB,O0,rfl,?_⟩,λj hj=>?_,λhf=>(hf.put h3 _).new _⟩
  ·rw[Z5,Z_,Of rfl]
  ·rw[Z5,Z_,O3 J,Z7,O3 J]
def Ef {A:Type}(enc:A->AV)(n:Nat)(hc:∀a,∃c,enc a=.agg c/\c.length=n):∀l:List A,Xk true n l.length (l.flatMap λa=>(enc a).cells)=l.map enc
 |[]=>rfl
 |a::l=>by
  obtain⟨c,h1,h2⟩:=hc a;have ih:=Ef enc n hc l;rw[ap1,LQ,aqp,h1,Qi,aqe,h1];rw[show (c++l.flatMap λa=>(enc a).cells).take n=c from by rw[<-h2,List.take_left],show (c++l.flatMap λa=>(enc a).cells).drop n=l.flatMap λa=>(enc a).cells from by rw[<-h2,aqT],ih]
def U' {f:AV->Option AV}:∀{l:List AV},(∀x∈l,f x=some x)->YS f l=some l
 |[],_=>rfl
 |x::l,h=>by
  rw[YS,h x (aba ..),U' λy hy=>h y (aab _ hy)]
def Ij {A:Type}(enc:A->AV)(n:Nat)(hc:∀a,∃c,enc a=.agg c/\c.length=n):∀l:List A,(l.flatMap λa=>(enc a).cells).length=l.length*n
 |[]=>by simp
 |a::l=>by
  obtain⟨c,h1,h2⟩:=hc a;rw[aqp,ann,Ij enc n hc l,h1,Qi,h2,ap1,aq3];omega
def ZD.Wt {B:Nat}{n:Nat}{A:Type}{enc:A->AV}{l:List A}(h:ZD s B t n l.length (l.flatMap λa=>(enc a).cells) v)(Dl:Ys X t=some true)(Vt:size X t=some n)(hn:n≠0)
  (hc:∀a,∃c,enc a=.agg c/\c.length=n){d:Nat}(hf:∀a,Ya X s d (enc a)=some (enc a)):Ya X s (d+1) v=some (ZU true (l.map enc)):=by
 rcases h with⟨h0,rfl,_⟩|⟨h0,h1,b,_,_,rfl,hg⟩
 ·have:l=[]:=aqo.1 h0;subst this;rfl
 ·rw[Uw,hg,Xo,<-h1,VA,Dl,Vt]
  cases n with
  |zero=>exact absurd rfl hn
  |succ n =>
   rw[Gd,Ef enc (n+1) hc,U' (λx hx=>?_),S9]
   ·cases l with
    |nil=>simp at h0
    |cons a l=>rfl
   ·obtain⟨a,_,rfl⟩:=ap0.1 hx;exact hf a
def ZD.QV {B:Nat}{l:List AV}(h:ZD s B t 1 l.length l v)(Dl:Ys X t=some false)(Vt:size X t=some 1)(Pq:l.all Go.Am.Zu=true)
  {d:Nat}{r:List AV}(hf:YS (Ya X s d) l=some r):Ya X s (d+1) v=some (ZU true r):=by
 rcases h with⟨h0,rfl,_⟩|⟨h0,h1,b,_,_,rfl,hg⟩
 ·have:l=[]:=aqo.1 h0;subst this;simp only[YS] at hf;cases hf;rfl
 ·rw[Uw,hg,Xo,ap3,VA,Dl,Vt,U0,Of Pq,UK,hf,S9]
  cases r with
  |nil =>
   exfalso
   cases l with
   |nil=>simp at h0
   |cons a l =>
    simp only[YS] at hf
    split at hf <;> cases hf
  |cons a r=>rfl
end
attribute [go_sem] jz jy Bv af8 Vz R_ jw JX
end Go.Am
namespace Go.Am
open Go
variable [Z8]
variable {β:Type}{s:St}{t:TypeId}{v:AV}{n:Nat}{cs:List AV}
def Sf (X:Cx)(g:FuncId)(x y args:List AV)(s:St):Kx X (.fn (.func g) x y) args s=Yx X (ZE X g (x++args++y)) g (x++args++y) s:=by
 rw[<-YJ];rfl
attribute [go_sem] Sf aqQ aqw aqk
def Vf (X:Cx)(t:TypeId)(c:Bool)(j:IntKind){n:Int}(h:0<=n/\n<=16):Xj X .shl t c (.int .i64 1) (.int j n)=some (.int .i64 (2^n.toNat)):=by
 obtain⟨h0,h1⟩:=h;have hn:¬n<0:=J;simp only[Xj,IN,hn,if_false];have hm:min n.toNat IntKind.i64.bits=n.toNat:=by
  have:IntKind.i64.bits=64:=rfl;rw[this];omega
 rw[hm,Int.one_mul];have hp:(2:Int)^n.toNat<=2^16:=by
  have h2:(2:Nat)^n.toNat<=2^16:=Nat.pow_le_pow_right J J
  exact_mod_cast h2
 have iU:(0:Int)<=2^n.toNat:=Int.pow_nonneg J;rw[wrap_i64 J J]
def XG (l:List Int)(t:Int):Int:=l.getD t.toNat 0
def abb {l:List Int}{t:Int}(h1:t.toNat<l.length):l[t.toNat]? = some (XG l t):=by
 unfold XG;rw[ap6,aaa h1];rfl
def lJ {l:List Int}{t:Int}(h:t.toNat<l.length):(ints l)[t.toNat]? = some (.int .i64 (XG l t)):=by
 rw[Ru,abb h];rfl
def abd {nl:Bool}{l:List Int}{t:Int}(h0:0<=t)(h1:t.toNat<l.length):UJ 1 (ZU nl (ints l)) (.int .i64 t)=some (.fp [.int .i64 (XG l t)] 0) :=
 Vi 1 nl (ints l) .i64 t (.int .i64 (XG l t)) h0 (lJ h1) rfl Mo
def Kb {nl:Bool}{l:List Int}{t:Nat}(h1:t<l.length):UJ 1 (ZU nl (ints l)) (.int .i64 (t:Int))=some (.fp [.int .i64 (XG l (t:Int))] 0) :=
 abd J J
def Xq {p:Bool}{e x:Int}(h:br p e x=0)(he:e≠0):p=false/\x=0:=by
 cases p
 ·exact⟨rfl,h⟩
 ·exact absurd h he
def Tk {n a b:Int}(h:outside n a b=false):a<=n/\n<=b:=by
 unfold outside at h;simp only[aqx,decide_eq_false_iff_not] at h;omega
def S4 (l:List Bool):(Zt l).all Zu=true:=by
 rw[ap8];intro x hx;obtain⟨b,_,rfl⟩:=ap0.1 hx;rfl
def UR (l:List Int):(ints l).all Zu=true:=by
 rw[ap8];intro x hx;obtain⟨b,_,rfl⟩:=ap0.1 hx;rfl
def M5 (s:St)(d:Nat)(l:List Bool):YS (Ya U s (d+1)) (Zt l)=some (Zt l):=U' λx hx=>by
 obtain⟨b,_,rfl⟩:=ap0.1 hx;rfl
def TQ (s:St)(d:Nat)(l:List Int):YS (Ya U s (d+1)) (ints l)=some (ints l):=U' λx hx=>by
 obtain⟨b,_,rfl⟩:=ap0.1 hx;rfl
def WE (l:List Bool):(Zt l).length=l.length:=by simp[Zt]
def ZD.M5 {B:Nat}{l:List Bool}(h:ZD s B 4 1 l.length (Zt l) v)(d:Nat):Ya U s (d+2) v=some (ZU true (Zt l)):=by
 have h':ZD s B 4 1 (Zt l).length (Zt l) v:=by rw[WE];exact h
 exact h'.QV U m9 m8 (S4 l) (Go.Am.M5 s d l)
def ZD.TQ {B:Nat}{l:List Int}(h:ZD s B 3 1 l.length (ints l) v)(d:Nat):Ya U s (d+2) v=some (ZU true (ints l)):=by
 have h':ZD s B 3 1 (ints l).length (ints l) v:=by rw[YB];exact h
 exact h'.QV U AW AU (UR l) (Go.Am.TQ s d l)
def B4 (l:List Bool)(i:Nat):(Zt l)[i]? = (l[i]?).map .bool:=by simp[Zt]
def Rj (n:Int)(h1:n<=16):(1:Int)<=2^n.toNat/\(2:Int)^n.toNat<=65536:=by
 obtain⟨k,hk⟩:∃k:Nat,n.toNat=k:=⟨_,rfl⟩;rw[hk];have:∀k:Fin 17,(1:Int)<=2^k.val/\(2:Int)^k.val<=65536:=by decide
 exact this ⟨k,J⟩
def Nz (lines:Int)(l:List Int):Bool:=l.any λx=>outside x 0 (2^lines.toNat-1)
def Sl (lines:Int)(l:List Int):Int:=br (decide ((l.length:Int)>4096)) 5 (br (Nz lines l) 3 0)
def c28 (lines:Int)(h0:1<=lines)(h1:lines<=16)(nl:Bool)(l:List Int):ZE U 31 [.int .i64 lines,ZU nl (ints l)]=some (.int .i64 (Sl lines l)):=by
 refine ZP k28 It (by simp[ZT,YE,still]) ?_;rw[Sl];simp (maxSteps:=2000000) +contextual only[go_sem,r28,ZN,YB];simp only[Uo];refine TA λhle=>?_
 have hle:l.length<=4096:=by simp at hle;omega
 refine Yk (σ:=Nat) (λi=>l.length-i) (λi=>some (AV.int .i64 (br (Nz lines (l.drop i)) 3 0))) (λi e s=>i<=l.length/\e.get 0=.int .i64 lines/\e.get 1=ZU nl (ints l)/\e.get 5=.int .i64 i) 0 ?_ ?_ ?_
 ·rintro L i e s ⟨hi,g0,g1,g5⟩ ih;by_cases hd:i<l.length
  ·have hx:=Kb (nl:=nl) hd;have hw:=ZI hd J;have hp:=Rj lines h1;have LO:IntKind.i64.wrap (2^lines.toNat-1)=2^lines.toNat-1:=by rw[wrap_i64] <;> omega
   have CH:XG l (i:Int)=l[i]:=by unfold XG;rw[aqt,ap6,aaa hd];rfl
   rw[CH] at hx;simp +contextual only[go_sem,sE,g0,g1,g5,Z9,hd,hx,ZN,YB,Vf U _ _ _ (show 0<=lines/\lines<=16 from⟨J,h1⟩),LO,c94];rw[aea hd,Nz,List.any_cons]
   cases hb:outside l[i] 0 (2^lines.toNat-1) with
   |true=>simp +contextual only[go_sem,Bool.true_or]
   |false =>
    simp +contextual only[go_sem,hw,aqE];refine ih (i+1) _ _ J ⟨J,?_,?_,?_⟩ <;> simp +contextual only[go_sem,g0,g1]
  ·have:i=l.length:=J;subst this;simp +contextual only[go_sem,sE,g1,g5,Z9,ap5,ZN,YB];rw[aqi];rfl
 ·simp only[aqy,Uo]
 ·refine⟨apW _,?_,?_,?_⟩ <;> simp +contextual only[go_sem] <;> rfl
def YT {X:Cx}{fin:Fl->β}{ks:List K} [Stat] {b:RC}{σ:Type}{ZC:β->Prop}(m:σ->Nat)(I:σ->Env->St->Prop)(x:σ){e:Env}
  (h:∀(L:RC) (x:σ) (e:Env) (s:St),I x e s->(∀(y:σ) (e':Env) (s':St),m y<m x->I y e' s'->ZC (SJ X fin ks L e' s'))->ZC (go X fin (.lp L::ks) b e s))
  (hI:I x e s):ZC (SJ X fin ks b e s):=by
 have key:∀n (x:σ) (e:Env) (s:St),m x=n->I x e s->ZC (SJ X fin ks b e s):=by
  intro n
  induction n using Nat.strongRecOn with
  |ind n ih =>
   intro x e s hx hI;rw[Qx];exact h b x e s hI λy e' s' hy qh=>ih (m y) J y e' s' rfl qh
 exact key _ x e s rfl hI
def ZD.FA {B:Nat}{n i:Nat}(h:ZD s B t n i cs v)(hB:B<=s.next){m:Nat}{new:List AV}(hm:m≠0)(hl:new.length=m*n)(Pq:new.all Go.Am.Zu=true) :
  ∃s1,PF t n m new v s=some (.sl s.next 0 (i+m) none n,s1)/\s1.next=s.next+1/\ZD s1 B t n (i+m) (cs++new) (.sl s.next 0 (i+m) none n)/\(∀j,j≠s.next->v≠.sl j 0 i none n->s1.get j=s.get j)/\(Fr s->Fr s1):=by
 rcases h with⟨rfl,rfl,rfl⟩|⟨h0,h1,b,h2,h3,rfl,h5⟩
 ·refine⟨s.new (.cells new t false 0 0),by rw[Vz,ap4],rfl,.inr ⟨J,by rw[ap4,aqQ];exact hl,s.next,hB,O0,rfl,by rw[Z5,Of rfl];rfl⟩,λj hj _=>by rw[Z5,O3 J],λhf=>hf.new _⟩
 ·refine⟨(s.put b .gone).new (.cells (cs++new) t false 0 0),by rw[R_,h5,T9 h1 J Pq],rfl,.inr ⟨J,by rw[ann,h1,hl,aq3],s.next,hB,O0,rfl,?_⟩,λj hj hv=>?_,λhf=>(hf.put h3 _).new _⟩
  ·rw[Z5,Z_,Of rfl]
  ·have:b≠j:=λe=>hv (by rw[e])
   rw[Z5,Z_,O3 J,Z7,O3 this]
def ZD.xQ {B:Nat}{n i:Nat}(h:ZD s B t n i cs v){j:Nat}(hj:s.next<=j\/j<B):v≠.sl j 0 i none n:=by
 rintro rfl;rcases h with⟨_,h,_⟩|⟨_,_,b,h1,h2,h3,_⟩
 ·cases h
 ·cases h3;omega
def ZD.other {B:Nat}{n i:Nat}(h:ZD s B t n i cs v){j:Nat}{c:List AV}{t':TypeId}{lo hi:Nat}(hj:s.get j=some (.cells c t' false lo hi))(ht:t'≠t):v≠.sl j 0 i none n:=by
 rintro rfl;rcases h with⟨_,h,_⟩|⟨_,_,b,h1,h2,h3,h4⟩
 ·cases h
 ·cases h3
  rw[hj] at h4
  cases h4;exact ht rfl
def TT {c:Code}{l:List eP}(h:OH U c=some (n,l))(fin:Fl->β)(ks:List K)(e:Env)(s:St):go U fin ks (.raw c) e s =
  bif SO s.next s l then eO U (oW U fin ks c e s) fin ks s.next l e (s.upto (s.next+n)) [s.upto (s.next+n)] [] else oW U fin ks c e s:=aeE U h fin ks e s
def T5 (x:AV):∀n:Nat,UC n [x]=List.replicate n x
 |0=>rfl
 |n+1=>by rw[UC,T5 x n];rfl
def Kt:∀(cs:List AV) (i:Nat) (x:AV),i<cs.length->lay i [x] cs=some (cs.set i x)
 |[],i,x,h=>by simp at h
 |c::cs,0,x,h=>by rw[w_,oV];rfl
 |c::cs,i+1,x,h=>by
  rw[w9,Kt cs i x (by simpa using h)];rfl
def part {A:Type}(l:List A)(z:A)(n i:Nat):List A:=l.take i++List.replicate (n-i) z
def w8 {A:Type}(l:List A)(z:A){n i:Nat}(h:l.length=n)(hi:i<=n):(part l z n i).length=n:=by
 simp[part,h];omega
def w7 {A:Type}(l:List A)(z:A){n i:Nat}(h:l.length=n)(hi:i<n):(part l z n i).set i (l[i]'J)=part l z n (i+1):=by
 unfold part;have h1:(l.take i).length=i:=by rw[aqO];omega
 rw[List.set_append,O3 J,h1,Nat.sub_self,show n-i=(n-(i+1))+1 by omega,List.replicate_succ,List.set_cons_zero,ap7 J,aqs];rfl
def B3 {A:Type}(l:List A)(z:A)(h:l.length=n):part l z n n=l:=by
 unfold part;rw[Nat.sub_self,List.replicate_zero,aqw,<-h,aqN]
def lI {A:Type}(l:List A)(z:A)(n:Nat):part l z n 0=List.replicate n z:=by unfold part;simp
def J0 {b d:Nat}{cap:Option Nat}{l:List Int}(hg:s.get b=some (.cells (ints l) 3 false 0 0)):Ya U s (d+2) (.sl b 0 l.length cap 1)=some (.fz (ints l)):=by
 have e:l.length=(ints l).length:=(YB l).symm;rw[Uw,hg,Xo,ap3,e,VA,AW,AU,U0,Of (UR l),UK,TQ,S9]
def amv (x lines:Int)(h0:1<=lines)(h1:lines<=16):ZE U 135 [.int .i64 x,.fp [.int .i64 lines] 0]=some (.bool (outside x 0 (2^lines.toNat-1))):=by
 refine ZP amw It (by simp[ZT,still]) ?_;have hp:(decide (x<0)||decide (x>=2^lines.toNat))=outside x 0 (2^lines.toNat-1):=by
  unfold outside
  congr 1
  congr 1
  apply propext;omega
 rw[<-hp];simp +contextual only[go_sem,aif,Vf U _ _ _ (show 0<=lines/\lines<=16 from⟨J,h1⟩)]
def Dk (P:Int->Bool):Nat->List Int->Int
 |_,[] => -1
 |i,x::l=>bif P x then (i:Int) else Dk P (i+1) l
def Ff (P:Int->Bool):∀(l:List Int) (i:Nat),decide (Dk P i l>=0)=l.any P
 |[],i=>by simp[Dk]
 |x::l,i=>by
  rw[Dk,List.any_cons]
  cases P x with
  |true=>simp
  |false=>rw[cond_false,Ff P l (i+1),aqE]
def amx (nl:Bool)(l:List Int)(lines:Int)(h0:1<=lines)(h1:lines<=16)(hl:l.length<=2^40) :
  ZE U 173 [ZU nl (ints l),.fn (.func 135) [] [.fp [.int .i64 lines] 0]]=some (.int .i64 (Dk (λx=>outside x 0 (2^lines.toNat-1)) 0 l)):=by
 refine ZP aih It (by simp[ZT,still,YE]) ?_;simp +contextual only[go_sem,aeF,ZN,YB];refine Yk (σ:=Nat) (λi=>l.length-i) (λi=>some (AV.int .i64 (Dk (λx=>outside x 0 (2^lines.toNat-1)) i (l.drop i)))) (λi e s=>i<=l.length/\e.get 0=ZU nl (ints l)/\e.get 1=.fn (.func 135) [] [.fp [.int .i64 lines] 0]/\e.get 7=.int .i64 l.length/\e.get 8=.int .i64 i) 0 ?_ rfl ?_
 ·rintro L i e s ⟨hi,g0,g1,g7,g8⟩ ih;by_cases hd:i<l.length
  ·have hx:=Kb (nl:=nl) hd;have hw:=ZI hd J;have CH:XG l (i:Int)=l[i]:=by unfold XG;rw[aqt,ap6,aaa hd];rfl
   rw[CH] at hx;have hc:=amv l[i] lines h0 h1;rw[aea hd,Dk];simp +contextual only[go_sem,MH,g0,g1,g7,g8,Z9,hd,hx,hc]
   cases hb:outside l[i] 0 (2^lines.toNat-1) with
   |true=>simp +contextual only[go_sem]
   |false =>
    simp +contextual only[go_sem,hw];refine ih (i+1) _ _ J ⟨J,?_,?_,?_,?_⟩ <;> simp +contextual only[go_sem,g0,g1,g7]
  ·have:i=l.length:=J;subst this;simp +contextual only[go_sem,MH,g7,g8,Z9,ap5];rw[aqi];rfl
 ·refine⟨apW _,?_,?_,?_,?_⟩ <;> simp +contextual only[go_sem] <;> rfl
def amy (nl:Bool)(l:List Int)(lines:Int)(h0:1<=lines)(h1:lines<=16)(hl:l.length<=2^40) :
  ZE U 134 [ZU nl (ints l),.fn (.func 135) [] [.fp [.int .i64 lines] 0]]=some (.bool (Nz lines l)):=by
 refine ZP aii It (by simp[ZT,still,YE]) ?_;have:=amx nl l lines h0 h1 hl;have hi:=Ff (λx=>outside x 0 (2^lines.toNat-1)) l 0;simp +contextual only[go_sem,aeG,this,hi];rfl
def aij {args:List AV}(h:ZT args=false):Yx U (ZE U 134 args) 134 args s=UX U 134 (YS (Ya U s 40) args) s:=LR It s h
def c91 (nl:Bool)(l:List Int)(lines:Int)(h0:1<=lines)(h1:lines<=16):ZE U 66 [.int .i64 lines,ZU nl (ints l)]=some (.int .i64 (Sl lines l)):=by
 refine ZP k91 It (by simp[ZT,still,YE]) ?_;rw[Sl]
 cases hb:decide ((l.length:Int)>4096) with
 |true =>
  simp +contextual only[go_sem,r91,ZN,YB,hb]
 |false =>
  have hle:l.length<=2^40:=by simp at hb;omega
  have hz:=λs=>CY (amy nl l lines h0 h1 hle) It (by simp[ZT,still,YE]) rfl s
  have W_:ZT [ZU nl (ints l),.fn (.func 135) [] [.ptr 8 0]]=false:=by simp[ZT,still,YE]
  simp +contextual only[go_sem,r91,ZN,YB,hb,aij W_,Vg,hz,LX]
def SN:List Int->List Int->Bool
 |[],[]=>true
 |x::a,y::b=>bif x != y then false else SN a b
 |_,_=>false
def BZ:∀{a b:List Int},a.length≠b.length->SN a b=false
 |[],[],h=>absurd rfl h
 |[],_::_,_=>rfl
 |_::_,[],_=>rfl
 |a::x,b::y,h=>by
  rw[SN,BZ (λe=>h (by simp[e]))]
  cases a != b <;> rfl
def Ri:∀a:List Int,SN a a=true
 |[]=>rfl
 |a::x=>by rw[SN,Ri x];simp
def amA {f:FuncId}(hk:Zm f=some ([.tmp 4],aeH))(hp:OY f=true)(na nb:Bool)(a b:List Int)(ha:a.length<2^62):ZE U f [ZU na (ints a),ZU nb (ints b)]=some (.bool (SN a b)):=by
 refine ZP hk hp (by simp[ZT,YE]) ?_;simp (maxSteps:=2000000) +contextual only[go_sem,aeH,ZN,YB]
 cases hl:((a.length:Int) != (b.length:Int)) with
 |true =>
  have:a.length≠b.length:=by simp at hl;omega
  rw[BZ this];simp +contextual only[go_sem]
 |false =>
  have hl:a.length=b.length:=by simp at hl;omega
  simp +contextual only[go_sem];refine Yk (σ:=Nat) (λi=>a.length-i) (λi=>some (AV.bool (SN (a.drop i) (b.drop i)))) (λi e s=>i<=a.length/\e.get 0=ZU na (ints a)/\e.get 1=ZU nb (ints b)/\e.get 5=.int .i64 i) 0 ?_ rfl ?_
  ·rintro L i e s ⟨hi,g0,g1,g5⟩ ih;by_cases hd:i<a.length
   ·have Qr:i<b.length:=J;have hx:UJ 1 (ZU na (ints a)) (.int .i64 (i:Int))=some (.fp [.int .i64 a[i]] 0):=Vi 1 na (ints a) .i64 i (.int .i64 a[i]) J (by rw[aqt,Ru,aaa hd];rfl) rfl Mo;have hy:UJ 1 (ZU nb (ints b)) (.int .i64 (i:Int))=some (.fp [.int .i64 b[i]] 0):=Vi 1 nb (ints b) .i64 i (.int .i64 b[i]) J (by rw[aqt,Ru,aaa Qr];rfl) rfl Mo;have hw:=ZI hd J;rw[aea hd,aea Qr,SN];simp +contextual only[go_sem,Ab,g0,g1,g5,Z9,hd,hx,hy,ZN,YB]
    cases hb:a[i] != b[i] with
    |true=>simp +contextual only[go_sem]
    |false =>
     simp +contextual only[go_sem,hw];refine ih (i+1) _ _ J ⟨J,?_,?_,?_⟩ <;> simp +contextual only[go_sem,g0,g1]
   ·have:i=a.length:=J;subst this;simp +contextual only[go_sem,Ab,g0,g5,Z9,ap5,ZN,YB];rw[aqi,hl,aqi];rfl
  ·refine⟨apW _,?_,?_,?_⟩ <;> simp +contextual only[go_sem] <;> rfl
def aik (na nb:Bool)(a b:List Int)(ha:a.length<2^62):ZE U 92 [ZU na (ints a),ZU nb (ints b)]=some (.bool (SN a b)):=amA amB It na nb a b ha
def c56 (na nb:Bool)(a b:List Int)(ha:a.length<2^62):ZE U 32 [ZU na (ints a),ZU nb (ints b)]=some (.bool (SN a b)):=by
 refine ZP k56 It (by simp[ZT,YE]) ?_;have:=aik na nb a b ha;simp (maxSteps:=2000000) +contextual only[go_sem,r56,this]
def VI (a:Zv):AV:=ZU a.Xb (a.next.map ZF)
def XD (a:Zv):AV:=ZU a.WG (a.ZW.map ZM)
def YH (a:Zv):XW a=.agg [.int .i64 a.lines,VI a,XD a]:=rfl
def XC (a:Zv):still (XW a)=true:=by simp[XW,still,ZT,YE]
def Ul {nl:Bool}{l:List (Bool×List Int)}{i:Nat}(h:i<l.length):UJ 1 (ZU nl (l.map ZF)) (.int .i64 (i:Int))=some (.fp [ZU l[i].1 (ints l[i].2)] 0):=by
 have:=Vi 1 nl (l.map ZF) .i64 i (ZF l[i]) J (by rw[aqt,aqc,aaa h];rfl) (by rw[ZF,ZK];rfl) Mo;rw[ZF,ZK] at this;exact this
def Uj {nl:Bool}{l:List (Bool×List Bool)}{i:Nat}(h:i<l.length):UJ 1 (ZU nl (l.map ZM)) (.int .i64 (i:Int))=some (.fp [ZU l[i].1 (Zt l[i].2)] 0):=by
 have:=Vi 1 nl (l.map ZM) .i64 i (ZM l[i]) J (by rw[aqt,aqc,aaa h];rfl) (by rw[ZM,ZK];rfl) Mo;rw[ZM,ZK] at this;exact this
def Rh {nl:Bool}{l:List Int}{i:Nat}(h:i<l.length):UJ 1 (ZU nl (ints l)) (.int .i64 (i:Int))=some (.fp [.int .i64 l[i]] 0) :=
 Vi 1 nl (ints l) .i64 i (.int .i64 l[i]) J (by rw[aqt,Ru,aaa h];rfl) rfl Mo
def MT {nl:Bool}{l:List Bool}{i:Nat}(h:i<l.length):UJ 1 (ZU nl (Zt l)) (.int .i64 (i:Int))=some (.fp [.bool l[i]] 0) :=
 Vi 1 nl (Zt l) .i64 i (.bool l[i]) J (by rw[aqt,B4,aaa h];rfl) rfl Mo
def zk (lines:Int):Int:=2^lines.toNat
def Tq (m n:Int):List (Bool×List Int)->List (Bool×List Bool)->Int
 |[],_=>0
 |r::l,f=>br ((r.2.length:Int) != m||(((f.headD (true,[])).2.length:Int) != m)) 2 <| br (r.2.any λx=>outside x 0 (n-1)) 10 <| Tq m n l f.tail
def tT (a:Zv):Int :=
 br (outside a.lines 1 4) 3 <| br ((a.next.length:Int)==0) 12 <| br (decide ((a.next.length:Int)>256)) 5 <| br ((a.ZW.length:Int) != a.next.length) 2 <| Tq (zk a.lines) a.next.length a.next a.ZW
def c50 (a:Zv):ZE U 17 [XW a]=some (.int .i64 (tT a)):=by
 refine ZP k50 It (by simp[ZT,XC]) ?_;rw[YH,tT];have nn:=ZV a.Xb (a.next.map ZF);have nf:=ZV a.WG (a.ZW.map ZM);have ln:=ZN a.Xb (a.next.map ZF);have lf:=ZN a.WG (a.ZW.map ZM);have cn:=ZK a.Xb (a.next.map ZF);have cf:=ZK a.WG (a.ZW.map ZM);rw[ala] at ln lf;unfold VI XD
 cases ho:outside a.lines 1 4 with
 |true =>
  simp only[go_sem,r50,c94,ho]
 |false =>
 have hl:1<=a.lines/\a.lines<=4:=by
  simp only[outside,aqx,decide_eq_false_iff_not] at ho;omega
 have SI:=Vf U 3 true .i64 (n:=a.lines) (show 0<=a.lines/\a.lines<=16 by omega);simp only[go_sem,r50,c94,ln,lf,ho];simp only[Uo];refine TA λh1=>?_
 refine TA λh2=>?_
 refine TA λh3=>?_
 have hn:a.next.length<=256:=by simp at h2;omega
 have Mw:a.ZW.length=a.next.length:=by simp at h3;omega
 have hp:=Rj a.lines J;have uI:IntKind.i64.wrap ((a.next.length:Int)-1)=(a.next.length:Int)-1:=by rw[wrap_i64] <;> omega
 refine Yk (σ:=Nat) (λi=>a.next.length-i) (λi=>some (AV.int .i64 (Tq (zk a.lines) a.next.length (a.next.drop i) (a.ZW.drop i)))) (λi e s=>i<=a.next.length/\e.get 1=.ptr 8 0/\e.get 3=.int .i64 (i:Nat)/\8<s.next /\
  s.get 8=some (.cells [.int .i64 a.lines,ZU a.Xb (a.next.map ZF),ZU a.WG (a.ZW.map ZM)] 46 false 0 0)) 0 ?_ (by rw[aqy,aqy]) ?_
 ·rintro L i e s ⟨hi,g1,g3,nx,gs⟩ IH;by_cases hd:i<a.next.length
  ·have hw:=ZI hd J;have hx:=Ul (nl:=a.Xb) hd;have hy:=Uj (nl:=a.WG) (show i<a.ZW.length by omega);have Oi:=ZN a.next[i].1 (ints a.next[i].2);have VK:=ZN a.ZW[i].1 (Zt a.ZW[i].2);rw[YB] at Oi;rw[WE] at VK;have hfd:(a.ZW.drop i).headD (true,[])=a.ZW[i]:=by rw[aea (show i<a.ZW.length by omega)];rfl
   have hft:(a.ZW.drop i).tail=a.ZW.drop (i+1):=by rw[List.tail_drop]
   rw[aea hd,Tq,hfd,hft];generalize hR:a.next[i]=R at *;generalize hF:a.ZW[i]=F at *;have ne8:∀q,(s.next+q=8)=False:=λq=>F_
   cases h4:((R.2.length:Int) != zk a.lines) with
   |true =>
    unfold zk at h4;simp only[go_sem,FJ,g1,g3,gs,Z9,hd,ln,hx,Oi,SI,h4]
    all_goals rfl
   |false =>
   cases h5:((F.2.length:Int) != zk a.lines) with
   |true =>
    unfold zk at h4 h5;simp only[go_sem,FJ,g1,g3,gs,Z9,hd,ln,hx,hy,Oi,VK,SI,h4,h5]
    all_goals rfl
   |false =>
    unfold zk at h4 h5;simp only[go_sem,FJ,g1,g3,gs,Z9,hd,ln,hx,hy,Oi,VK,SI,h4,h5];have hRl:R.2.length<=65536:=by simp at h4;omega
    refine Yk (σ:=Nat) (λx=>R.2.length-x) (λx=>some (AV.int .i64 (br ((R.2.drop x).any λy=>outside y 0 ((a.next.length:Int)-1)) 10 (Tq (zk a.lines) a.next.length (a.next.drop (i+1)) (a.ZW.drop (i+1)))))) (λx e s=>x<=R.2.length/\e.get 1=.ptr 8 0/\e.get 3=.int .i64 (i:Nat)/\e.get 4=.int .i64 (x:Nat)/\8<s.next /\
     s.get 8=some (.cells [.int .i64 a.lines,ZU a.Xb (a.next.map ZF),ZU a.WG (a.ZW.map ZM)] 46 false 0 0)) 0 ?_ (by rw[aqy];rfl) ?_
    ·rintro L' x e' s' ⟨L7,g1',g3',g4',nx',EG⟩ IH';by_cases Qr:x<R.2.length
     ·have Lb:=ZI Qr J;have hxx:=Rh (nl:=R.1) Qr;rw[aea Qr,List.any_cons]
      cases Ic:outside R.2[x] 0 ((a.next.length:Int)-1) with
      |true=>simp only[go_sem,As,g1',g3',g4',EG,Z9,Qr,ln,hx,Oi,hxx,uI,c94,Ic,Bool.true_or]
      |false =>
       simp only[go_sem,As,g1',g3',g4',EG,Z9,Qr,ln,hx,Oi,hxx,uI,c94,Ic,aqE,Lb];refine IH' (x+1) _ _ J ⟨J,?_,?_,?_,?_,?_⟩
       all_goals simp only[go_sem,g1',g3',EG,ZR]
       all_goals omega
     ·have:x=R.2.length:=J;subst this;simp only[go_sem,As,g1',g3',g4',EG,Z9,ap5,hx,Oi,hw];rw[aqi];refine IH (i+1) _ _ J ⟨J,?_,?_,?_,?_⟩
      all_goals try simp only[go_sem,g1',EG]
      all_goals omega
    ·refine⟨apW _,?_,?_,?_,?_,?_⟩
     all_goals try simp only[go_sem,g1,g3,gs]
     all_goals first|rfl|omega
  ·have:i=a.next.length:=J;subst this;simp only[go_sem,FJ,g1,g3,gs,Z9,ap5,ln];rw[aqi,Tq]
 ·refine⟨apW _,?_,?_,?_,?_⟩
  all_goals try simp only[go_sem]
  all_goals rfl
def Fe (a:Zv):List AV:=[.int .i64 a.lines,ZU a.Xb (a.next.map ZF),ZU a.WG (a.ZW.map ZM)]
def amF (x:Int)(a:Zv)(hn:a.next.length<=2^40):ZE U 154 [.int .i64 x,.fp (Fe a) 0]=some (.bool (outside x 0 ((a.next.length:Int)-1))):=by
 refine ZP amG It (by simp[ZT,still]) ?_;have ln:=ZN a.Xb (a.next.map ZF);rw[ala] at ln;have hp:outside x 0 ((a.next.length:Int)-1)=(decide (x<0)||decide (x>=(a.next.length:Int))):=by
  unfold outside
  congr 1
  congr 1
  apply propext;omega
 rw[hp];unfold Fe
 cases h:decide (x<0) <;> simp +contextual only[go_sem,aim,ln,h]
 all_goals rfl
def ain (x:Int)(a:Zv)(hn:a.next.length<=2^40)(s:St):Kx U (.fn (.func 154) [] [.fp (Fe a) 0]) [.int .i64 x] s=some (.bool (outside x 0 ((a.next.length:Int)-1)),s):=by
 have h:=amF x a hn;simp only[Sf,aqQ,aqk,h,UO]
def aio (P:Int->Bool)(fn:AV)(W_:still fn=true)(hf:∀x s,Kx U fn [.int .i64 x] s=some (.bool (P x),s))(nl:Bool)(l:List Int)(hl:l.length<=2^40):ZE U 173 [ZU nl (ints l),fn]=some (.int .i64 (Dk P 0 l)):=by
 refine ZP aih It (by simp[ZT,YE,W_]) ?_;simp +contextual only[go_sem,aeF,ZN,YB];refine Yk (σ:=Nat) (λi=>l.length-i) (λi=>some (AV.int .i64 (Dk P i (l.drop i)))) (λi e s=>i<=l.length/\e.get 0=ZU nl (ints l)/\e.get 1=fn/\e.get 7=.int .i64 l.length/\e.get 8=.int .i64 i) 0 ?_ rfl ?_
 ·rintro L i e s ⟨hi,g0,g1,g7,g8⟩ ih;by_cases hd:i<l.length
  ·have hx:=Rh (nl:=nl) hd;have hw:=ZI hd J;rw[aea hd,Dk];have hc:=hf l[i]
   cases hb:P l[i] with
   |true=>simp +contextual only[go_sem,MH,g0,g1,g7,g8,Z9,hd,hx,hc,hb]
   |false =>
    simp +contextual only[go_sem,MH,g0,g1,g7,g8,Z9,hd,hx,hc,hb,hw];refine ih (i+1) _ _ J ⟨J,?_,?_,?_,?_⟩ <;> simp +contextual only[go_sem,g0,g1,g7]
  ·have:i=l.length:=J;subst this;simp +contextual only[go_sem,MH,g7,g8,Z9,ap5];rw[aqi];rfl
 ·refine⟨apW _,?_,?_,?_,?_⟩ <;> simp +contextual only[go_sem] <;> rfl
def aip (P:Int->Bool)(fn:AV)(W_:still fn=true)(hf:∀x s,Kx U fn [.int .i64 x] s=some (.bool (P x),s))(nl:Bool)(l:List Int)(hl:l.length<=2^40):ZE U 134 [ZU nl (ints l),fn]=some (.bool (l.any P)):=by
 refine ZP aii It (by simp[ZT,YE,W_]) ?_;have h:=aio P fn W_ hf nl l hl;have hi:=Ff P l 0;simp +contextual only[go_sem,aeG,h,hi]
def c58 (a:Zv)(hn:a.next.length<=2^40)(hr:∀r∈a.next,r.2.length<=2^40):ZE U 94 [XW a]=some (.int .i64 (tT a)):=by
 refine ZP k58 It (by simp[ZT,XC]) ?_;rw[YH];have nn:=ZV a.Xb (a.next.map ZF);have nf:=ZV a.WG (a.ZW.map ZM);have ln:=ZN a.Xb (a.next.map ZF);have lf:=ZN a.WG (a.ZW.map ZM);have cn:=ZK a.Xb (a.next.map ZF);have cf:=ZK a.WG (a.ZW.map ZM);rw[ala] at ln lf;unfold VI XD;have hz:ZT [.sl 29 0 4 (some 4) 1]=false:=rfl;simp (maxSteps:=2000000) +contextual only[go_sem,r58,aaC,LX,ln,lf,z89,hJ];rw[show within a.lines 1 4=br (outside a.lines 1 4) 3 0 from rfl,tT]
 cases ho:outside a.lines 1 4 with
 |true=>rfl
 |false =>
 cases h1:((a.next.length:Int)==0) with
 |true=>rfl
 |false =>
 cases h2:decide ((a.next.length:Int)>256) with
 |true=>rfl
 |false =>
 cases h3:((a.ZW.length:Int) != a.next.length) with
 |true=>rfl
 |false =>
 have hl:1<=a.lines/\a.lines<=4:=by
  simp only[outside,aqx,decide_eq_false_iff_not] at ho;omega
 have SI:=Vf U 3 true .i64 (n:=a.lines) (show 0<=a.lines/\a.lines<=16 by omega);have hp:=Rj a.lines J;have hn:a.next.length<=256:=by simp at h2;omega
 have Mw:a.ZW.length=a.next.length:=by simp at h3;omega
 simp only[Zp];rw[show (YD [0,0,0,0] != 0)=false from rfl,Zp];refine Yk (σ:=Nat) (λi=>a.next.length-i) (λi=>some (AV.int .i64 (Tq (zk a.lines) a.next.length (a.next.drop i) (a.ZW.drop i)))) (λi e s=>i<=a.next.length/\e.get 1=.ptr 8 0/\e.get 36=ZU a.Xb (a.next.map ZF)/\e.get 37=.int .i64 a.next.length/\e.get 38=.int .i64 (i:Nat)/\8<s.next/\Fr s /\
  s.get 8=some (.cells [.int .i64 a.lines,ZU a.Xb (a.next.map ZF),ZU a.WG (a.ZW.map ZM)] 42 false 0 0)) 0 ?_ (by rw[aqy,aqy]) ?_
 ·rintro L i e s ⟨hi,g1,mo,xU,fF,nx,fr,gs⟩ IH;by_cases hd:i<a.next.length
  ·have hw:=ZI hd J;have hx:=Ul (nl:=a.Xb) hd;have hy:=Uj (nl:=a.WG) (show i<a.ZW.length by omega);have Oi:=ZN a.next[i].1 (ints a.next[i].2);have VK:=ZN a.ZW[i].1 (Zt a.ZW[i].2);rw[YB] at Oi;rw[WE] at VK;have hfd:(a.ZW.drop i).headD (true,[])=a.ZW[i]:=by rw[aea (show i<a.ZW.length by omega)];rfl
   have hft:(a.ZW.drop i).tail=a.ZW.drop (i+1):=by rw[List.tail_drop]
   rw[aea hd,Tq,hfd,hft];generalize hR:a.next[i]=R at *;generalize hF:a.ZW[i]=F at *;have ne8:∀q,(s.next+q=8)=False:=λq=>F_
   have apF:(s.next=8)=False:=F_;have Ps:=fr.at;have qg:=hr R (by rw[<-hR];exact adm hd);have hz:=λs=>CY (aip _ (.fn (.func 154) [] [.fp (Fe a) 0]) (by simp[still,ZT]) (λx s=>ain x a J s) R.1 R.2 qg) It (by simp[ZT,still,YE]) rfl s
   have W_:ZT [ZU R.1 (ints R.2),.fn (.func 154) [] [.ptr 8 0]]=false:=by simp[ZT,still,YE]
   have iZ:∀j,ZT [.sl j 0 2 (some 2) 1]=false:=λ_=>rfl
   simp only[Fe] at hz;simp (maxSteps:=2000000) +contextual only[go_sem,tw,g1,mo,xU,fF,gs,Z9,hd,hx,hy,Oi,VK,SI,aij W_,Vg,hz,LX,z89,Jq,iZ];have hm:(2:Int)^a.lines.toNat=zk a.lines:=rfl;rw[hm]
   cases h4:((R.2.length:Int) != zk a.lines||(F.2.length:Int) != zk a.lines) with
   |true=>rfl
   |false =>
   cases h5:(R.2.any λx=>outside x 0 ((a.next.length:Int)-1)) with
   |true=>rfl
   |false =>
   simp only[Zp];rw[show (YD [0,0] != 0)=false from rfl,Zp];refine IH (i+1) _ _ J ⟨J,?_,?_,?_,?_,?_,?_,?_⟩
   case refine_6 =>
    repeat first|exact fr|apply Fr.new|apply Fr.put|apply Fr.upto
    all_goals try simp +contextual only[go_sem]
    all_goals omega
   all_goals try simp +contextual only[go_sem,g1,mo,xU,gs,hw,ne8]
   all_goals omega
  ·have:i=a.next.length:=J;subst this;simp +contextual only[go_sem,tw,xU,fF,Z9,ap5];rw[aqi,Tq]
 ·refine⟨apW _,?_,?_,?_,?_,?_,?_,?_⟩
  case refine_6 =>
   repeat first|exact Fr.own|apply Fr.new|apply Fr.put|apply Fr.upto
   all_goals simp +contextual only[go_sem]
  all_goals try simp +contextual only[go_sem]
  all_goals rfl
end Go.Am
namespace Go.Am
open Go
variable {n:Nat}{i:Nat}
structure Fa where
 n:Nat
 m:Nat
 nx:Nat->Nat->Nat
 fr:Nat->Nat->Bool
structure Fa.ok (A:Fa):Prop where
 pos:0<A.n
 lt:∀s x,s<A.n->x<A.m->A.nx s x<A.n
def Fa.E (A:Fa)(f:Nat->Nat)(u v:Nat):Prop:=∀x,x<A.m->A.fr u x=A.fr v x/\f (A.nx u x)=f (A.nx v x)
def Fa.agz (A:Fa)(f:Nat->Nat)(u:Nat):A.E f u u:=λ_ _=>⟨rfl,rfl⟩
def Fa.E.symm {A:Fa}{f:Nat->Nat}{u v:Nat}(h:A.E f u v):A.E f v u:=λx hx=>⟨(h x hx).1.symm,(h x hx).2.symm⟩
def Fa.E.trans {A:Fa}{f:Nat->Nat}{u v w:Nat}(h:A.E f u v)(k:A.E f v w):A.E f u w:=λx hx=>⟨(h x hx).1.trans (k x hx).1,(h x hx).2.trans (k x hx).2⟩
def aai (A:Fa)(f:Nat->Nat)(u v:Nat):Nat->Bool
 |0=>true
 |x+1=>aai A f u v x&&(A.fr u x==A.fr v x&&f (A.nx u x)==f (A.nx v x))
def uT (A:Fa)(f:Nat->Nat)(u v:Nat):∀k,aai A f u v k=true<->∀x,x<k->A.fr u x=A.fr v x/\f (A.nx u x)=f (A.nx v x)
 |0=>by simp[aai]
 |k+1=>by
  rw[aai,ahe,uT A f u v k,ahe,beq_iff_eq,beq_iff_eq]
  constructor
  ·rintro⟨h1,h2⟩ x hx;by_cases e:x=k
   ·subst e;exact h2
   ·exact h1 x J
  ·intro h;exact⟨λx hx=>h x J,h k J⟩
def alk (A:Fa)(f:Nat->Nat)(u v:Nat):Bool:=aai A f u v A.m
def nL (A:Fa)(f:Nat->Nat)(u v:Nat):alk A f u v=true<->A.E f u v:=uT A f u v A.m
def JA (al:Nat->Bool):Nat->Nat->Nat
 |0,c=>c
 |k+1,c=>JA al k (bif al k then k else c)
def Ld (al:Nat->Bool):∀k c,k<=c->(JA al k c<=c)/\(JA al k c=c\/(JA al k c<k/\al (JA al k c)=true))/\∀o,o<k->o<JA al k c->al o=false
 |0,c,_=>⟨api _,.inl rfl,λo h=>J⟩
 |k+1,c,hk=>by
  rw[JA]
  cases ha:al k with
  |true =>
   obtain⟨h1,h2,h3⟩:=Ld al k k (api _);simp only[cond_true];refine⟨J,.inr ?_,λo ho hs=>h3 o J hs⟩;rcases h2 with h2|⟨h2,h4⟩
   ·rw[h2];exact⟨J,ha⟩
   ·exact⟨J,h4⟩
  |false =>
   obtain⟨h1,h2,h3⟩:=Ld al k c J;simp only[cond_false];refine⟨h1,?_,λo ho hs=>?_⟩
   ·rcases h2 with h2|⟨h2,h4⟩
    ·exact .inl h2
    ·exact .inr ⟨J,h4⟩
   ·by_cases e:o=k
    ·subst e;exact ha
    ·exact h3 o J hs
def SV (A:Fa)(f:Nat->Nat)(s:Nat):Nat:=JA (alk A f s) s s
def Mz (A:Fa)(f:Nat->Nat)(s:Nat):SV A f s<=s/\A.E f s (SV A f s)/\∀o,o<SV A f s->¬A.E f s o:=by
 obtain⟨h1,h2,h3⟩:=Ld (alk A f s) s s (api _);refine⟨h1,?_,λo ho he=>?_⟩
 ·rcases h2 with h2|⟨_,h2⟩
  ·show A.E f s (JA _ s s);rw[h2];exact A.agz f s
  ·exact (nL A f _ _).1 h2
 ·have:=h3 o (by unfold SV at ho;omega) ho;rw[(nL A f _ _).2 he] at this
  cases this
def PZ (A:Fa)(f:Nat->Nat)(u v:Nat):SV A f u=SV A f v<->A.E f u v:=by
 obtain⟨u1,u2,u3⟩:=Mz A f u;obtain⟨v1,v2,v3⟩:=Mz A f v
 constructor
 ·intro h;rw[h] at u2;exact u2.trans v2.symm
 ·intro h;have a:¬SV A f u<SV A f v:=λhl=>v3 _ hl (h.symm.trans u2)
  have b:¬SV A f v<SV A f u:=λhl=>u3 _ hl (h.trans v2)
  omega
structure Can (g:Nat->Nat):Prop where
 le:∀s,g s<=s
 fix:∀s,g (g s)=g s
def Can.min {g:Nat->Nat}(h:Can g){s u:Nat}(e:g u=g s):g s<=u:=by rw[<-e];exact h.le u
def D2 (A:Fa)(f:Nat->Nat):Can (SV A f):=⟨λs=>(Mz A f s).1,λs=>((PZ A f _ _).2 (Mz A f s).2.1).symm⟩
def acV (g f:Nat->Nat):Prop:=∀u v,g u=g v->f u=f v
def jh (A:Fa){f:Nat->Nat}(h:acV (SV A f) f):acV (SV A (SV A f)) (SV A f):=λu v e=>by
 rw[PZ] at e ⊢;exact λx hx=>⟨(e x hx).1,h _ _ (e x hx).2⟩
def PY (g:Nat->Nat):Nat->Nat
 |0=>0
 |k+1=>PY g k+if g k=k then 1 else 0
def nK (g:Nat->Nat):∀k,PY g k<=k
 |0=>api _
 |k+1=>by have:=nK g k;rw[PY];split <;> omega
def Bg {g h:Nat->Nat}(H:∀s,g s=s->h s=s):∀k,PY g k<=PY h k
 |0=>api _
 |k+1=>by
  have:=Bg H k;rw[PY,PY];by_cases e:g k=k
  ·rw[Of e,Of (H k e)];omega
  ·rw[O3 e];split <;> omega
def nJ {g h:Nat->Nat}(H:∀s,g s=s->h s=s){t:Nat}(h1:h t=t)(h2:g t≠t):∀k,t<k->PY g k<PY h k
 |k+1,hk=>by
  rw[PY,PY];by_cases e:t=k
  ·subst e;have:=Bg H t;rw[O3 h2,Of h1];omega
  ·have:=nJ H h1 h2 k J;by_cases e:g k=k
   ·rw[Of e,Of (H k e)];omega
   ·rw[O3 e];split <;> omega
def grow {g h:Nat->Nat}(cg:Can g)(ch:Can h)(hf:acV h g){n s:Nat}(hs:s<n)(ZB:h s≠g s):PY g n<PY h n:=by
 refine nJ (t:=h s) (λu hu=>?_) (ch.fix s) (λe=>?_) n (aqJ (ch.le s) hs)
 ·have:=hf (h u) u (ch.fix u);have:=cg.min this;have:=ch.le u;omega
 ·have:=hf (h s) s (ch.fix s);exact ZB J
def NW (g f:Nat->Nat):Nat->Bool
 |0=>true
 |k+1=>NW g f k&&g k==f k
def Ip (g f:Nat->Nat):∀k,NW g f k=true<->∀s,s<k->g s=f s
 |0=>by simp[NW]
 |k+1=>by
  rw[NW,ahe,Ip g f k,beq_iff_eq]
  constructor
  ·rintro⟨h1,h2⟩ s hs;by_cases e:s=k
   ·subst e;exact h2
   ·exact h1 s J
  ·intro h;exact⟨λs hs=>h s J,h k J⟩
def Mr (A:Fa):Nat->(Nat->Nat)->Nat->Nat
 |0,f=>f
 |r+1,f=>bif NW (SV A f) f A.n then f else Mr A r (SV A f)
def uR {g f:Nat->Nat}{k:Nat}(h:NW g f k=false):∃s,s<k/\g s≠f s:=by
 refine Classical.byContradiction λhc=>?_
 have:NW g f k=true:=(Ip g f k).2 λs hs=>Classical.byContradiction λe=>hc ⟨s,hs,e⟩
 rw[h] at this;cases this
def NV (A:Fa):∀(r:Nat) (f:Nat->Nat),Can f->acV (SV A f) f->A.n<PY f A.n+r->∀s,s<A.n->SV A (Mr A r f) s=Mr A r f s
 |0,f,_,_,h=>by have:=nK f A.n;omega
 |r+1,f,cf,hf,h=>by
  rw[Mr]
  cases hs:NW (SV A f) f A.n with
  |true=>exact (Ip _ _ _).1 hs
  |false =>
   obtain⟨s,h1,h2⟩:=uR hs;have:=grow cf (D2 A f) hf h1 h2;exact NV A r _ (D2 A f) (jh A hf) J
def uQ (A:Fa):∀(r:Nat) (f:Nat->Nat),Can f->Can (Mr A r f)
 |0,f,h=>h
 |r+1,f,h=>by
  rw[Mr]
  cases NW (SV A f) f A.n with
  |true=>exact h
  |false=>exact uQ A r _ (D2 A f)
structure Bis (A:Fa)(B:Nat->Nat->Prop):Prop where
 lt:∀u v,B u v->u<A.n/\v<A.n
 fr:∀u v,B u v->∀x,x<A.m->A.fr u x=A.fr v x
 nx:∀u v,B u v->∀x,x<A.m->B (A.nx u x) (A.nx v x)
def uO {A:Fa}{B:Nat->Nat->Prop}(hB:Bis A B):∀(r:Nat) (f:Nat->Nat),(∀u v,B u v->f u=f v)->∀u v,B u v->Mr A r f u=Mr A r f v
 |0,f,h=>h
 |r+1,f,h=>by
  rw[Mr]
  cases NW (SV A f) f A.n with
  |true=>exact h
  |false=>exact uO hB r _ λu v ny=>(PZ A f u v).2 λx hx=>⟨hB.fr u v ny x hx,h _ _ (hB.nx u v ny x hx)⟩
def Zb (A:Fa):Nat->Nat:=Mr A (A.n+1) λ_=>0
def X8 (A:Fa):Can (Zb A):=uQ A _ _ ⟨λ_=>apW _,λ_=>rfl⟩
def WQ {A:Fa}(h:A.ok){u v:Nat}(hu:u<A.n)(hv:v<A.n):Zb A u=Zb A v<->A.E (Zb A) u v:=by
 have h0:0<PY (λ_=>0) A.n:=by
  have:∀k,0<k->0<PY (λ_=>0) k:=by
   intro k hk
   induction k with
   |zero=>omega
   |succ k ih =>
    rw[PY];by_cases e:k=0
    ·subst e;decide
    ·have:=ih J;omega
  exact this _ h.pos
 have st:=NV A (A.n+1) (λ_=>0) ⟨λ_=>apW _,λ_=>rfl⟩ (λ_ _ _=>rfl) J;have e:=PZ A (Zb A) u v;rw[<-e];show _<->SV A (Mr A (A.n+1) λ_=>0) u=SV A (Mr A (A.n+1) λ_=>0) v;rw[st u hu,st v hv];rfl
def On {A:Fa}{B:Nat->Nat->Prop}(hB:Bis A B)(u v:Nat)(h:B u v):Zb A u=Zb A v:=uO hB _ _ (λ_ _ _=>rfl) u v h
def ue {A:Fa}(h:A.ok):Bis A λu v=>u<A.n/\v<A.n/\Zb A u=Zb A v :=
 ⟨λu v k=>⟨k.1,k.2.1⟩,λu v k x hx=>(((WQ h k.1 k.2.1).1 k.2.2) x hx).1,λu v k x hx=>⟨h.lt u x k.1 hx,h.lt v x k.2.1 hx,(((WQ h k.1 k.2.1).1 k.2.2) x hx).2⟩⟩
def gt (l:List Nat)(i:Nat):Nat:=l.getD i 0
def TF (l:List Nat)(i x j:Nat):gt (l.set i x) j=if i=j/\j<l.length then x else gt l j:=by
 unfold gt;rw[ap6,ap6,List.getElem?_set];by_cases e:i=j
 ·subst e;by_cases h:i<l.length
  ·simp[h]
  ·simp[h]
 ·simp[e]
def IK (l:List Nat)(x j:Nat):gt (l++[x]) j=if j=l.length then x else gt l j:=by
 unfold gt;rw[ap6,ap6];by_cases e:j=l.length
 ·subst e;simp
 ·rw[O3 e];by_cases h:j<l.length
  ·rw[aql h]
  ·rw[aqA F_,aqA J]
structure Pt where
 list:List Nat
 place:List Nat
 set:List Nat
 bg:List Nat
 en:List Nat
 mr:List Nat
structure Pt.Wf (n:Nat)(p:Pt):Prop where
 ll:p.list.length=n
 lp:p.place.length=n
 ls:p.set.length=n
 le:p.en.length=p.bg.length
 lm:p.mr.length=p.bg.length
 pl:∀u,u<n->gt p.place u<n/\gt p.list (gt p.place u)=u
 li:∀i,i<n->gt p.list i<n/\gt p.place (gt p.list i)=i
 st:∀u,u<n->gt p.set u<p.bg.length/\gt p.bg (gt p.set u)<=gt p.place u/\gt p.place u<gt p.en (gt p.set u)
 sp:∀k,k<p.bg.length->gt p.bg k<gt p.en k/\gt p.en k<=n/\∀i,gt p.bg k<=i->i<gt p.en k->gt p.set (gt p.list i)=k
 mr:∀k,k<p.bg.length->gt p.bg k+gt p.mr k<=gt p.en k
def Pt.Mk (p:Pt)(u:Nat):Prop:=gt p.place u<gt p.bg (gt p.set u)+gt p.mr (gt p.set u)
instance (p:Pt)(u:Nat):Decidable (p.Mk u):=inferInstanceAs (Decidable (_<_))
def Pt.Wi (p:Pt)(u:Nat):Pt×Bool :=
 bif decide (gt p.place u<gt p.bg (gt p.set u)+gt p.mr (gt p.set u)) then (p,false) else
  ({ p with
   list:=(p.list.set (gt p.place u) (gt p.list (gt p.bg (gt p.set u)+gt p.mr (gt p.set u)))).set (gt p.bg (gt p.set u)+gt p.mr (gt p.set u)) u
   place:=(p.place.set (gt p.list (gt p.bg (gt p.set u)+gt p.mr (gt p.set u))) (gt p.place u)).set u (gt p.bg (gt p.set u)+gt p.mr (gt p.set u))
   mr:=p.mr.set (gt p.set u) (gt p.mr (gt p.set u)+1) },gt p.mr (gt p.set u)+1==1)
def LV {p:Pt}(h:p.Wf n){u:Nat}(hu:u<n):(p.Wi u).1.Wf n/\(p.Wi u).1.set=p.set/\(p.Wi u).1.bg=p.bg/\(p.Wi u).1.en=p.en/\(∀v,v<n->((p.Wi u).1.Mk v<->p.Mk v\/v=u)) /\
  ((p.Wi u).2=true<->gt p.mr (gt p.set u)=0)/\(∀k,k<p.bg.length->(0<gt (p.Wi u).1.mr k<->0<gt p.mr k\/k=gt p.set u)):=by
 obtain⟨RX,TB,yX⟩:=h.st u hu;obtain⟨G0,xh,hk3⟩:=h.sp _ RX;obtain⟨zl,xR⟩:=h.pl u hu;unfold Pt.Wi;generalize hs:gt p.set u=s at *;generalize ha:gt p.place u=a at *;generalize ht:gt p.bg s+gt p.mr s=t at *;by_cases hm:a<t
 ·rw[decide_eq_true hm,cond_true];refine⟨h,rfl,rfl,rfl,λv hv=>⟨.inl,?_⟩,?_,λk hk=>⟨.inl,?_⟩⟩
  ·rintro (h1|rfl)
   ·exact h1
   ·unfold Pt.Mk;rw[hs,ha,ht];exact hm
  ·simp;omega
  ·rintro (h1|rfl)
   ·exact h1
   ·simp only;omega
 ·rw[decide_eq_false hm,cond_false];have o4:t<n:=J;obtain⟨Da,IY⟩:=h.li t o4;have hso:=hk3 t J J;generalize ho:gt p.list t=o at *;have L:∀i,gt ((p.list.set a o).set t u) i=if i=t then u else if i=a then o else gt p.list i:=λi=>by
   rw[TF,TF,aqH,h.ll];by_cases e1:i=t
   ·subst e1;rw[Of ⟨rfl,o4⟩,Of rfl]
   ·rw[O3 J,O3 e1];by_cases e2:i=a
    ·subst e2;rw[Of ⟨rfl,zl⟩,Of rfl]
    ·rw[O3 J,O3 e2]
  have P:∀v,gt ((p.place.set o a).set u t) v=if v=u then t else if v=o then a else gt p.place v:=λv=>by
   rw[TF,TF,aqH,h.lp];by_cases e1:v=u
   ·subst e1;rw[Of ⟨rfl,hu⟩,Of rfl]
   ·rw[O3 J,O3 e1];by_cases e2:v=o
    ·subst e2;rw[Of ⟨rfl,Da⟩,Of rfl]
    ·rw[O3 J,O3 e2]
  have M:∀k,gt (p.mr.set s (gt p.mr s+1)) k=if k=s then gt p.mr s+1 else gt p.mr k:=λk=>by
   rw[TF,h.lm];by_cases e:k=s
   ·subst e;rw[Of ⟨rfl,RX⟩,Of rfl]
   ·rw[O3 J,O3 e]
  have hou:o=u<->a=t:=by
   constructor
   ·intro e;rw[e,ha] at IY;exact IY
   ·intro e;rw[<-e,xR] at ho;exact ho.symm
  refine⟨⟨?_,?_,h.ls,h.le,?_,λv hv=>?_,λi hi=>?_,λv hv=>?_,λk hk=>?_,λk hk=>?_⟩,rfl,rfl,rfl,λv hv=>?_,?_,λk hk=>?_⟩
  ·simp[h.ll]
  ·simp[h.lp]
  ·simp[h.lm]
  ·show gt ((p.place.set o a).set u t) v<n/\gt ((p.list.set a o).set t u) (gt ((p.place.set o a).set u t) v)=v;rw[P v];by_cases e1:v=u
   ·rw[Of e1];exact⟨o4,by rw[L,Of rfl,e1]⟩
   ·rw[O3 e1];by_cases e2:v=o
    ·rw[Of e2];exact⟨zl,by rw[L,O3 (λe=>e1 (e2.trans (hou.2 e))),Of rfl,e2]⟩
    ·rw[O3 e2];obtain⟨q1,q2⟩:=h.pl v hv;refine⟨q1,?_⟩;rw[L,O3 (λe=>e2 (by rw[<-q2,e,ho])),O3 (λe=>e1 (by rw[<-q2,e,xR])),q2]
  ·show gt ((p.list.set a o).set t u) i<n/\gt ((p.place.set o a).set u t) (gt ((p.list.set a o).set t u) i)=i;rw[L i];by_cases e1:i=t
   ·rw[Of e1];exact⟨hu,by rw[P,Of rfl,e1]⟩
   ·rw[O3 e1];by_cases e2:i=a
    ·rw[Of e2];exact⟨Da,by rw[P,O3 (λe=>e1 (e2.trans (hou.1 e))),Of rfl,e2]⟩
    ·rw[O3 e2];obtain⟨q1,q2⟩:=h.li i hi;refine⟨q1,?_⟩;rw[P,O3 (λe=>e2 (by rw[<-q2,e,ha])),O3 (λe=>e1 (by rw[<-q2,e,IY])),q2]
  ·show gt p.set v<p.bg.length/\gt p.bg (gt p.set v)<=gt ((p.place.set o a).set u t) v/\gt ((p.place.set o a).set u t) v<gt p.en (gt p.set v);rw[P v];by_cases e1:v=u
   ·rw[Of e1,e1,hs];exact⟨RX,J,J⟩
   ·rw[O3 e1];by_cases e2:v=o
    ·rw[Of e2,e2,hso];exact⟨RX,J,J⟩
    ·rw[O3 e2];exact h.st v hv
  ·obtain⟨q1,q2,q3⟩:=h.sp k hk;refine⟨q1,q2,λi hi1 hi2=>?_⟩;show gt p.set (gt ((p.list.set a o).set t u) i)=k;have:=q3 i hi1 hi2;rw[L i];by_cases e1:i=t
   ·rw[Of e1,hs];rw[e1,ho,hso] at this;exact this
   ·rw[O3 e1];by_cases e2:i=a
    ·rw[Of e2,hso];rw[e2,xR,hs] at this;exact this
    ·rw[O3 e2];exact this
  ·show gt p.bg k+gt (p.mr.set s (gt p.mr s+1)) k<=gt p.en k;rw[M k];by_cases e:k=s
   ·rw[Of e,e];omega
   ·rw[O3 e];exact h.mr k hk
  ·show gt ((p.place.set o a).set u t) v<gt p.bg (gt p.set v)+gt (p.mr.set s (gt p.mr s+1)) (gt p.set v)<->p.Mk v\/v=u;unfold Pt.Mk;rw[P v,M];by_cases e1:v=u
   ·rw[Of e1,e1,hs,Of rfl];exact⟨λ_=>.inr rfl,λ_=>J⟩
   ·rw[O3 e1];by_cases e2:v=o
    ·have CH:a≠t:=λe=>e1 (e2.trans (hou.2 e))
     rw[Of e2,e2,hso,Of rfl,IY]
     constructor
     ·intro hh;exfalso;omega
     ·rintro (hh|hh)
      ·exfalso;omega
      ·exact absurd (e2.trans hh) e1
    ·rw[O3 e2];by_cases e3:gt p.set v=s
     ·have ZB:gt p.place v≠t:=λe=>e2 (by rw[<-(h.pl v hv).2,e,ho])
      rw[e3,Of rfl]
      constructor
      ·intro hh;exact .inl J
      ·rintro (hh|hh)
       ·omega
       ·exact absurd hh e1
     ·rw[O3 e3];exact⟨.inl,λhh=>hh.resolve_right e1⟩
  ·simp
  ·show 0<gt (p.mr.set s (gt p.mr s+1)) k<->_;rw[M k];by_cases e:k=s
   ·rw[Of e];exact⟨λ_=>.inr e,λ_=>J⟩
   ·rw[O3 e];exact⟨.inl,λhh=>hh.resolve_right e⟩
def Xd (k:Nat):List Nat->List Nat->List Nat
 |[],s=>s
 |u::l,s=>Xd k l (s.set u k)
def Lu (k:Nat):∀(l s:List Nat),(Xd k l s).length=s.length
 |[],s=>rfl
 |u::l,s=>by rw[Xd,Lu k l,aqH]
def B6 (k:Nat):∀(l s:List Nat) (v:Nat),v<s.length->gt (Xd k l s) v=if v∈l then k else gt s v
 |[],s,v,_=>by simp[Xd]
 |u::l,s,v,hv=>by
  rw[Xd,B6 k l _ v (by rw[aqH];exact hv),TF];by_cases h1:v∈l
  ·rw[Of h1,Of (aab _ h1)]
  ·rw[O3 h1];by_cases h2:u=v
   ·rw[Of ⟨h2,hv⟩,Of (by rw[h2];exact aba ..)]
   ·rw[O3 J,O3 (by simp[h1];omega)]
def piece (l:List Nat)(a b:Nat):List Nat:=(l.drop a).take (b-a)
def M8 {l:List Nat}{a b x:Nat}(hb:b<=l.length):x∈piece l a b<->∃i,a<=i/\i<b/\gt l i=x:=by
 unfold piece;rw[List.mem_take_iff_getElem]
 constructor
 ·rintro⟨j,hj,e⟩;rw[List.length_drop] at hj;rw[List.getElem_drop] at e;refine⟨a+j,J,J,?_⟩;unfold gt;rw[ap6,aaa J];exact e
 ·rintro⟨i,h1,h2,e⟩;refine⟨i-a,by rw[List.length_drop];omega,?_⟩;rw[List.getElem_drop];unfold gt at e;rw[ap6,aaa J] at e;simp only[aq6] at e;rw[<-e]
  congr 1
  omega
def Pt.cut (p:Pt)(s:Nat):Pt×Bool :=
 bif gt p.mr s==gt p.en s-gt p.bg s then ({ p with mr:=p.mr.set s 0 },false) else
 bif decide (2*gt p.mr s>gt p.en s-gt p.bg s) then
  ({ p with mr:=p.mr.set s 0++[0],bg:=p.bg++[gt p.bg s+gt p.mr s],en:=p.en.set s (gt p.bg s+gt p.mr s)++[gt p.en s],set:=Xd p.bg.length (piece p.list (gt p.bg s+gt p.mr s) (gt p.en s)) p.set },true)
 else
  ({ p with mr:=p.mr.set s 0++[0],bg:=p.bg.set s (gt p.bg s+gt p.mr s)++[gt p.bg s],en:=p.en++[gt p.bg s+gt p.mr s],set:=Xd p.bg.length (piece p.list (gt p.bg s) (gt p.bg s+gt p.mr s)) p.set },true)
structure Cut (n:Nat)(p:Pt)(s:Nat)(r:Pt×Bool):Prop where
 wf:r.1.Wf n
 len:r.1.bg.length=p.bg.length+(bif r.2 then 1 else 0)
 num:∀v,v<n->gt r.1.set v=gt p.set v\/(gt p.set v=s/\gt r.1.set v=p.bg.length/\r.2=true)
 eq:∀u v,u<n->v<n->(gt r.1.set u=gt r.1.set v<->gt p.set u=gt p.set v/\(gt p.set u=s->(p.Mk u<->p.Mk v)))
 mr:∀k,k<p.bg.length->k≠s->gt r.1.mr k=gt p.mr k
 mk0:gt r.1.mr s=0
 mkK:r.2=true->gt r.1.mr p.bg.length=0
 Mk:∀v,v<n->gt p.set v≠s->(r.1.Mk v<->p.Mk v)
def xe {p:Pt}(h:p.Wf n){s:Nat}(hs:s<p.bg.length)(b:Bool){f t f' t':Nat}(hb:gt p.bg s<=f/\f<t/\t<=gt p.en s)(SG:gt p.bg s<=f'/\f'<t'/\t'<=gt p.en s)
  (hm:∀i,gt p.bg s<=i->i<gt p.en s->((f<=i/\i<t<->(i<gt p.bg s+gt p.mr s<->b=true))/\(f'<=i/\i<t'<->¬(f<=i/\i<t)))){bg1 DO:List Nat}
  (Ik:bg1.length=p.bg.length)(Dn:DO.length=p.bg.length)(hbg:∀k,gt bg1 k=if k=s then f' else gt p.bg k)(hen:∀k,gt DO k=if k=s then t' else gt p.en k) :
  Cut n p s ({ p with mr:=p.mr.set s 0++[0],bg:=bg1++[f],en:=DO++[t],set:=Xd p.bg.length (piece p.list f t) p.set },true):=by
 obtain⟨k1,k2,k3⟩:=h.sp s hs;have hS:∀v,v<n->gt (Xd p.bg.length (piece p.list f t) p.set) v=if gt p.set v=s/\(p.Mk v<->b=true) then p.bg.length else gt p.set v:=λv hv=>by
  rw[B6 _ _ _ _ (by rw[h.ls];exact hv)];obtain⟨q1,q2⟩:=h.pl v hv;have hi:v∈piece p.list f t<->gt p.set v=s/\(p.Mk v<->b=true):=by
   rw[M8 (by rw[h.ll];omega)]
   constructor
   ·rintro⟨i,h1,h2,rfl⟩;have TD:i<n:=J;have e:=(h.li i TD).2;have es:=k3 i J J;refine⟨es,?_⟩;have:=((hm i J J).1).1 ⟨h1,h2⟩;unfold Pt.Mk;rw[e,es];exact this
   ·rintro⟨h1,h2⟩;obtain⟨_,r2,r3⟩:=h.st v hv;rw[h1] at r2 r3;unfold Pt.Mk at h2;rw[h1] at h2;obtain⟨h3,h4⟩:=((hm _ r2 r3).1).2 h2;exact⟨_,h3,h4,q2⟩
  by_cases e:v∈piece p.list f t
  ·rw[Of e,Of (hi.1 e)]
  ·rw[O3 e,O3 λc=>e (hi.2 c)]
 have hK:∀v,v<n->gt p.set v<p.bg.length:=λv hv=>(h.st v hv).1
 have hM:∀k,gt (p.mr.set s 0++[0]) k=if k=s\/k=p.bg.length then 0 else gt p.mr k:=λk=>by
  rw[IK,TF,aqH,h.lm];by_cases e1:k=p.bg.length
  ·rw[Of e1,Of (.inr e1)]
  ·rw[O3 e1];by_cases e2:k=s
   ·rw[Of ⟨e2.symm,J⟩,Of (.inl e2)]
   ·rw[O3 J,O3 J]
 have hB:∀k,gt (bg1++[f]) k=if k=p.bg.length then f else if k=s then f' else gt p.bg k:=λk=>by rw[IK,Ik,hbg]
 have hE:∀k,gt (DO++[t]) k=if k=p.bg.length then t else if k=s then t' else gt p.en k:=λk=>by rw[IK,Dn,hen]
 have TD:∀v,v<n->gt p.set v=s->((f<=gt p.place v/\gt p.place v<t<->(p.Mk v<->b=true))/\(f'<=gt p.place v/\gt p.place v<t'<->¬(f<=gt p.place v/\gt p.place v<t))):=λv hv e=>by
  obtain⟨_,r2,r3⟩:=h.st v hv;rw[e] at r2 r3;have:=hm _ r2 r3;unfold Pt.Mk;rw[e];exact this
 refine⟨⟨h.ll,h.lp,by rw[Lu];exact h.ls,by simp[Dn,Ik],by simp[h.lm,Ik],h.pl,h.li,λv hv=>?_,λk hk=>?_,λk hk=>?_⟩,by simp[Ik],λv hv=>?_,λu v hu hv=>?_,λk hk ZB=>?_,?_,λ_=>?_,λv hv ZB=>?_⟩
 ·show gt (Xd p.bg.length (piece p.list f t) p.set) v<(bg1++[f]).length/\gt (bg1++[f]) (gt (Xd p.bg.length (piece p.list f t) p.set) v)<=gt p.place v/\gt p.place v<gt (DO++[t]) (gt (Xd p.bg.length (piece p.list f t) p.set) v);rw[hS v hv,hB,hE,ann,Ik];have hkv:=hK v hv;obtain⟨r1,r2,r3⟩:=h.st v hv;by_cases c:gt p.set v=s/\(p.Mk v<->b=true)
  ·have:=((TD v hv c.1).1).2 c.2;simp only[Of c];exact⟨by simp,this.1,this.2⟩
  ·simp only[O3 c];have ZB:¬gt p.set v=p.bg.length:=J;rw[O3 ZB,O3 ZB];by_cases e:gt p.set v=s
   ·have:=((TD v hv e).2).2 λc2=>c ⟨e,((TD v hv e).1).1 c2⟩
    rw[Of e,Of e];exact⟨F_,this.1,this.2⟩
   ·rw[O3 e,O3 e];exact⟨F_,r2,r3⟩
 ·show gt (bg1++[f]) k<gt (DO++[t]) k/\gt (DO++[t]) k<=n/\∀i,gt (bg1++[f]) k<=i->i<gt (DO++[t]) k->gt (Xd p.bg.length (piece p.list f t) p.set) (gt p.list i)=k;have hk:k<p.bg.length+1:=by simpa[Ik] using hk
  rw[hB,hE];by_cases e1:k=p.bg.length
  ·rw[Of e1,Of e1];refine⟨hb.2.1,J,λi h1 h2=>?_⟩;obtain⟨q1,q2⟩:=h.li i J;have es:=k3 i J J;rw[hS _ q1,Of ⟨es,((TD _ q1 es).1).1 (by rw[q2];exact⟨h1,h2⟩)⟩,e1]
  ·rw[O3 e1,O3 e1];by_cases e2:k=s
   ·rw[Of e2,Of e2];refine⟨SG.2.1,J,λi h1 h2=>?_⟩;obtain⟨q1,q2⟩:=h.li i J;have es:=k3 i J J;have RW:¬(f<=i/\i<t):=((hm i J J).2).1 ⟨h1,h2⟩;rw[hS _ q1,O3 (λc=>RW (by have:=((TD _ q1 es).1).2 c.2;rw[q2] at this;exact this)),es,e2]
   ·rw[O3 e2,O3 e2];obtain⟨r1,r2,r3⟩:=h.sp k J;refine⟨r1,r2,λi h1 h2=>?_⟩;obtain⟨q1,_⟩:=h.li i J;have es:=r3 i h1 h2;rw[hS _ q1,O3 (λc=>e2 (es.symm.trans c.1)),es]
 ·show gt (bg1++[f]) k+gt (p.mr.set s 0++[0]) k<=gt (DO++[t]) k;have hk:k<p.bg.length+1:=by simpa[Ik] using hk
  rw[hB,hE,hM];by_cases e1:k=p.bg.length
  ·rw[Of e1,Of e1,Of (.inr e1)];omega
  ·rw[O3 e1,O3 e1];by_cases e2:k=s
   ·rw[Of e2,Of e2,Of (.inl e2)];omega
   ·rw[O3 e2,O3 e2,O3 J];exact h.mr k J
 ·show gt (Xd p.bg.length (piece p.list f t) p.set) v=_\/_;rw[hS v hv];by_cases c:gt p.set v=s/\(p.Mk v<->b=true)
  ·right
   refine⟨c.1,?_,rfl⟩;rw[Of c]
  ·rw[O3 c];exact .inl rfl
 ·show gt (Xd p.bg.length (piece p.list f t) p.set) u=gt (Xd p.bg.length (piece p.list f t) p.set) v<->_;have hku:=hK u hu;have hkv:=hK v hv;rw[hS u hu,hS v hv];by_cases cu:gt p.set u=s/\(p.Mk u<->b=true)
  ·by_cases cv:gt p.set v=s/\(p.Mk v<->b=true)
   ·rw[Of cu,Of cv];exact⟨λ_=>⟨cu.1.trans cv.1.symm,λ_=>cu.2.trans cv.2.symm⟩,λ_=>rfl⟩
   ·rw[Of cu,O3 cv]
    constructor
    ·intro e;omega
    ·rintro⟨e1,e2⟩;exact absurd ⟨e1.symm.trans cu.1,(e2 cu.1).symm.trans cu.2⟩ cv
  ·by_cases cv:gt p.set v=s/\(p.Mk v<->b=true)
   ·rw[O3 cu,Of cv]
    constructor
    ·intro e;omega
    ·rintro⟨e1,e2⟩;have es:=e1.trans cv.1;exact absurd ⟨es,(e2 es).trans cv.2⟩ cu
   ·rw[O3 cu,O3 cv]
    constructor
    ·intro e;refine⟨e,λes=>?_⟩;have c1:¬(p.Mk u<->b=true):=λc=>cu ⟨es,c⟩
     have c2:¬(p.Mk v<->b=true):=λc=>cv ⟨e.symm.trans es,c⟩
     cases b with
     |true=>simp only[iff_true] at c1 c2;exact⟨λx=>absurd x c1,λx=>absurd x c2⟩
     |false =>
      simp only[aqa,iff_false,Classical.not_not] at c1 c2;exact⟨λ_=>c2,λ_=>c1⟩
    ·exact λe=>e.1
 ·show gt (p.mr.set s 0++[0]) k=gt p.mr k;rw[hM,O3 J]
 ·show gt (p.mr.set s 0++[0]) s=0;rw[hM,Of (.inl rfl)]
 ·show gt (p.mr.set s 0++[0]) p.bg.length=0;rw[hM,Of (.inr rfl)]
 ·show gt p.place v<gt (bg1++[f]) (gt (Xd p.bg.length (piece p.list f t) p.set) v)+gt (p.mr.set s 0++[0]) (gt (Xd p.bg.length (piece p.list f t) p.set) v)<->p.Mk v;have hkv:=hK v hv;rw[hS v hv,O3 (λc=>ZB c.1),hB,hM,O3 J,O3 ZB,O3 J];rfl
def zh {p:Pt}(h:p.Wf n){s:Nat}(hs:s<p.bg.length)(hm:0<gt p.mr s):Cut n p s (p.cut s):=by
 obtain⟨k1,k2,k3⟩:=h.sp s hs;have kk:=h.mr s hs;unfold Pt.cut
 cases Xx:gt p.mr s==gt p.en s-gt p.bg s with
 |true =>
  have Xx:gt p.mr s=gt p.en s-gt p.bg s:=by simpa using Xx
  rw[cond_true];have hM:∀k,gt (p.mr.set s 0) k=if k=s then 0 else gt p.mr k:=λk=>by
   rw[TF,h.lm];by_cases e:k=s
   ·rw[Of ⟨e.symm,J⟩,Of e]
   ·rw[O3 J,O3 e]
  refine⟨⟨h.ll,h.lp,h.ls,h.le,by simp[h.lm],h.pl,h.li,h.st,h.sp,λk hk=>?_⟩,rfl,λv _=>.inl rfl,λu v hu hv=>⟨λe=>⟨e,λes=>?_⟩,λe=>e.1⟩,λk hk ZB=>?_,?_,λh=>(nomatch h),λv hv ZB=>?_⟩
  ·show gt p.bg k+gt (p.mr.set s 0) k<=gt p.en k;rw[hM];have:=h.mr k hk
   split <;> omega
  ·have au:=(h.st u hu).2.2;have av:=(h.st v hv).2.2;have e:gt p.set u=gt p.set v:=e;unfold Pt.Mk;rw[<-e] at av ⊢;rw[es] at au av ⊢
   constructor <;> intro _ <;> omega
  ·show gt (p.mr.set s 0) k=_;rw[hM,O3 ZB]
  ·show gt (p.mr.set s 0) s=0;rw[hM,Of rfl]
  ·show gt p.place v<gt p.bg (gt p.set v)+gt (p.mr.set s 0) (gt p.set v)<->p.Mk v;rw[hM,O3 ZB];rfl
 |false =>
  have Xx:gt p.mr s≠gt p.en s-gt p.bg s:=by simpa using Xx
  rw[cond_false]
  cases decide (2*gt p.mr s>gt p.en s-gt p.bg s) with
  |true =>
   rw[cond_true];refine xe h hs false (f:=gt p.bg s+gt p.mr s) (t:=gt p.en s) (f':=gt p.bg s) (t':=gt p.bg s+gt p.mr s) J J (λi h1 h2=>?_) rfl (by rw[aqH];exact h.le) (λk=>?_) λk=>?_
   ·simp only[aqa,iff_false];omega
   ·by_cases e:k=s
    ·rw[Of e,e]
    ·rw[O3 e]
   ·rw[TF,h.le];by_cases e:k=s
    ·rw[Of ⟨e.symm,J⟩,Of e]
    ·rw[O3 J,O3 e]
  |false =>
   rw[cond_false];refine xe h hs true (f:=gt p.bg s) (t:=gt p.bg s+gt p.mr s) (f':=gt p.bg s+gt p.mr s) (t':=gt p.en s) J J (λi h1 h2=>?_) (by rw[aqH]) h.le (λk=>?_) λk=>?_
   ·simp only[iff_true];omega
   ·rw[TF];by_cases e:k=s
    ·rw[Of ⟨e.symm,J⟩,Of e]
    ·rw[O3 J,O3 e]
   ·by_cases e:k=s
    ·rw[Of e,e]
    ·rw[O3 e]
def Yp:List Nat->Pt->List Nat->Pt×List Nat
 |[],p,T=>(p,T)
 |u::l,p,T=>Yp l (p.Wi u).1 (bif (p.Wi u).2 then T++[gt p.set u] else T)
def Im:∀(a b:List Nat) (p:Pt) (T:List Nat),Yp (a++b) p T=Yp b (Yp a p T).1 (Yp a p T).2
 |[],b,p,T=>rfl
 |u::a,b,p,T=>by rw[aqk,Yp,Yp,Im a b]
structure Tch (p:Pt)(T:List Nat):Prop where
 nd:T.Nodup
 mem:∀k,k<p.bg.length->(k∈T<->0<gt p.mr k)
 lt:∀k∈T,k<p.bg.length
structure aao (n:Nat)(us:List Nat)(p:Pt)(r:Pt×List Nat):Prop where
 wf:r.1.Wf n
 set:r.1.set=p.set
 bg:r.1.bg=p.bg
 en:r.1.en=p.en
 tch:Tch r.1 r.2
 Mk:∀v,v<n->(r.1.Mk v<->p.Mk v\/v∈us)
def Pn {n:Nat}:∀(us:List Nat) {p:Pt} {T:List Nat},p.Wf n->Tch p T->(∀u∈us,u<n)->aao n us p (Yp us p T)
 |[],p,T,h,ht,_=>⟨h,rfl,rfl,rfl,ht,λv _=>by simp[Yp]⟩
 |u::l,p,T,h,ht,hu=>by
  have hun:=hu u (aba ..);obtain⟨m1,m2,m3,m4,m5,m6,m7⟩:=LV h hun;have hsu:=(h.st u hun).1;have ht1:Tch (p.Wi u).1 (bif (p.Wi u).2 then T++[gt p.set u] else T):=by
   refine⟨?_,λk hk=>?_,λk hk=>?_⟩
   ·cases hb:(p.Wi u).2 with
    |false=>exact ht.nd
    |true =>
     have h0:=m6.1 hb;rw[cond_true,List.nodup_append];refine⟨ht.nd,by simp,λa ha b hb=>?_⟩;rw[apY.1 hb];rintro rfl;have:=(ht.mem _ hsu).1 ha;omega
   ·rw[m3] at hk;rw[m7 k hk]
    cases hb:(p.Wi u).2 with
    |false =>
     have h0:gt p.mr (gt p.set u)≠0:=λe=>by rw[m6.2 e] at hb;cases hb
     rw[cond_false,ht.mem k hk]
     constructor
     ·exact .inl
     ·rintro (h1|rfl)
      ·exact h1
      ·omega
    |true =>
     rw[cond_true,aqm,apY,ht.mem k hk]
   ·rw[m3]
    cases hb:(p.Wi u).2 with
    |false=>rw[hb] at hk;exact ht.lt k hk
    |true =>
     rw[hb,cond_true,aqm,apY] at hk;rcases hk with hk|rfl
     ·exact ht.lt k hk
     ·exact hsu
  have ih:=Pn l m1 ht1 λx hx=>hu x (aab _ hx)
  rw[Yp];refine⟨ih.wf,ih.set.trans m2,ih.bg.trans m3,ih.en.trans m4,ih.tch,λv hv=>?_⟩;rw[ih.Mk v hv,m5 v hv,ap9,or_assoc]
def SF:List Nat->Pt->List Nat->Pt×List Nat
 |[],p,w=>(p,w)
 |t::T,p,w=>SF T (p.cut t).1 (bif (p.cut t).2 then w++[p.bg.length] else w)
def Pt.Zero (p:Pt):Prop:=∀k,k<p.bg.length->gt p.mr k=0
structure adH (n:Nat)(p:Pt)(w:List Nat)(R:Nat->Nat->Prop)(r:Pt×List Nat):Prop where
 wf:r.1.Wf n
 zero:r.1.Zero
 le:p.bg.length<=r.1.bg.length
 nC:r.2.length+p.bg.length=w.length+r.1.bg.length
 work:∀k,k∈r.2<->k∈w\/(p.bg.length<=k/\k<r.1.bg.length)
 num:∀v,v<n->gt r.1.set v=gt p.set v\/p.bg.length<=gt r.1.set v
 eq:∀u v,u<n->v<n->(gt r.1.set u=gt r.1.set v<->gt p.set u=gt p.set v/\R u v)
def Il {n:Nat}:∀(T:List Nat) {p:Pt} (w:List Nat),p.Wf n->T.Nodup->(∀k∈T,k<p.bg.length/\0<gt p.mr k)->(∀k,k<p.bg.length->k∉T->gt p.mr k=0) ->
  adH n p w (λu v=>gt p.set u∈T->(p.Mk u<->p.Mk v)) (SF T p w)
 |[],p,w,h,_,_,hz=>⟨h,λk hk=>hz k hk No,api _,rfl,λk=>by simp only[SF];constructor;exact .inl;rintro (h|h);exact h;omega,λv _=>.inl rfl,λu v _ _=>by simp[SF]⟩
 |t::T,p,w,h,hn,hT,hz=>by
  obtain⟨ht,hm⟩:=hT t (aba ..);have hc:=zh h ht hm;rw[aqW] at hn;rw[SF];generalize hr:p.cut t=r at *;obtain⟨p1,b⟩:=r;simp only at hc ⊢;have hlen:p1.bg.length=p.bg.length+(bif b then 1 else 0):=hc.len;have hle:p.bg.length<=p1.bg.length:=J;have hT1:∀k∈T,k<p1.bg.length/\0<gt p1.mr k:=λk hk=>by
   obtain⟨q1,q2⟩:=hT k (aab _ hk);refine⟨J,?_⟩;have:gt p1.mr k=gt p.mr k:=hc.mr k q1 λe=>hn.1 (e ▸ hk)
   omega
  have ug:∀k,k<p1.bg.length->k∉T->gt p1.mr k=0:=λk hk hnk=>by
   by_cases e:k=t
   ·rw[e];exact hc.mk0
   ·by_cases e2:k<p.bg.length
    ·have:gt p1.mr k=gt p.mr k:=hc.mr k e2 e;rw[this];exact hz k e2 λSE=>by
      rcases ap9.1 SE with h1|h1
      ·exact e h1
      ·exact hnk h1
    ·cases b with
     |false=>simp at hlen;omega
     |true =>
      have:k=p.bg.length:=by simp at hlen;omega
      rw[this];exact hc.mkK rfl
  have ih:=Il (p:=p1) T (bif b then w++[p.bg.length] else w) hc.wf hn.2 hT1 ug;have ile:=ih.le;have iwl:=ih.nC;refine⟨ih.wf,ih.zero,J,?_,λk=>?_,λv hv=>?_,λu v hu hv=>?_⟩
  ·cases b with
   |false=>simp at hlen iwl ⊢;omega
   |true=>simp at hlen iwl ⊢;omega
  ·rw[ih.work k]
   cases b with
   |false =>
    have hlen:p1.bg.length=p.bg.length:=by simpa using hlen
    rw[cond_false,hlen]
   |true =>
    have hlen:p1.bg.length=p.bg.length+1:=by simpa using hlen
    simp only[cond_true] at ile;rw[cond_true,aqm,apY]
    constructor
    ·rintro ((h1|h1)|h1)
     ·exact .inl h1
     ·exact .inr J
     ·exact .inr J
    ·rintro (h1|h1)
     ·exact .inl (.inl h1)
     ·by_cases e:k=p.bg.length
      ·exact .inl (.inr e)
      ·exact .inr J
  ·rcases ih.num v hv with h1|h1
   ·rcases hc.num v hv with h2|h2
    ·exact .inl (h1.trans h2)
    ·have h3:gt p1.set v=p.bg.length:=h2.2.1;exact .inr J
   ·exact .inr J
  ·rw[ih.eq u v hu hv];have he:gt p1.set u=gt p1.set v<->gt p.set u=gt p.set v/\(gt p.set u=t->(p.Mk u<->p.Mk v)):=hc.eq u v hu hv;have SE:∀x,x<n->(gt p1.set x∈T<->gt p.set x∈T):=λx hx=>by
    have Oq:gt p1.set x=gt p.set x\/(gt p.set x=t/\gt p1.set x=p.bg.length/\b=true):=hc.num x hx;rcases Oq with h1|⟨h1,h2,_⟩
    ·rw[h1]
    ·rw[h1,h2]
     constructor
     ·intro hk;have:=(hT _ (aab _ hk)).1;omega
     ·intro hk;exact absurd hk hn.1
   have hMk:∀x,x<n->gt p.set x≠t->(p1.Mk x<->p.Mk x):=hc.Mk;rw[he]
   constructor
   ·rintro⟨⟨e1,e2⟩,e3⟩;refine⟨e1,λhx=>?_⟩;rcases ap9.1 hx with h1|h1
    ·exact e2 h1
    ·have ZB:gt p.set u≠t:=λe=>hn.1 (e ▸ h1)
     have:=e3 ((SE u hu).2 h1);rw[hMk u hu ZB,hMk v hv (by rw[<-e1];exact ZB)] at this;exact this
   ·rintro⟨e1,e2⟩;refine⟨⟨e1,λhx=>e2 (by rw[hx];exact aba ..)⟩,λhx=>?_⟩;have h1:=(SE u hu).1 hx;have ZB:gt p.set u≠t:=λe=>hn.1 (e ▸ h1)
    rw[hMk u hu ZB,hMk v hv (by rw[<-e1];exact ZB)];exact e2 (aab _ h1)
def nz (Xh:Nat->List Nat)(S:List Nat)(p:Pt)(w:List Nat):Pt×List Nat :=
 SF (Yp (S.flatMap Xh) p []).2 (Yp (S.flatMap Xh) p []).1 w
def zg {p:Pt}(h:p.Wf n)(hz:p.Zero)(w:List Nat){nx:Nat->Nat}{Xh:Nat->List Nat}{S:List Nat}(hS:∀c∈S,c<n)(hb:∀c,c<n->∀u,u∈Xh c<->u<n/\nx u=c) :
  adH n p w (λu v=>nx u∈S<->nx v∈S) (nz Xh S p w):=by
 have LU:∀u,u∈S.flatMap Xh<->u<n/\nx u∈S:=λu=>by
  rw[List.mem_flatMap]
  constructor
  ·rintro⟨c,h1,h2⟩;obtain⟨q1,q2⟩:=(hb c (hS c h1) u).1 h2;exact⟨q1,by rw[q2];exact h1⟩
  ·rintro⟨h1,h2⟩;exact⟨_,h2,(hb _ (hS _ h2) u).2 ⟨h1,rfl⟩⟩
 have ht0:Tch p []:=⟨by simp,λk hk=>by simp[hz k hk],λk hk=>by simp at hk⟩;have hm:=Pn (S.flatMap Xh) h ht0 λu hu=>((LU u).1 hu).1
 unfold nz;generalize Yp (S.flatMap Xh) p []=r at *;obtain⟨p1,T⟩:=r;have e1:p1.set=p.set:=hm.set;have e2:p1.bg=p.bg:=hm.bg;have t1:T.Nodup:=hm.tch.nd;have t2:∀k,k<p1.bg.length->(k∈T<->0<gt p1.mr k):=hm.tch.mem;have t3:∀k∈T,k<p1.bg.length:=hm.tch.lt;have hc:=Il (p:=p1) T w hm.wf t1 (λk hk=>⟨t3 k hk,(t2 k (t3 k hk)).1 hk⟩) (λk hk hn=>by have:=t2 k hk;have:¬0<gt p1.mr k:=λh=>hn (this.2 h);omega);have hM:∀v,v<n->(p1.Mk v<->nx v∈S):=λv hv=>by
  have:p1.Mk v<->p.Mk v\/v∈S.flatMap Xh:=hm.Mk v hv;rw[this,LU]
  constructor
  ·rintro (h1|h1)
   ·obtain⟨q1,q2,_⟩:=h.st v hv;unfold Pt.Mk at h1;rw[hz _ q1] at h1;omega
   ·exact h1.2
  ·exact λh1=>.inr ⟨hv,h1⟩
 simp only[e1] at hc;have hle:=hc.le;have hwl:=hc.nC;have hwk:=hc.work;have uf:=hc.num;simp only[e1,e2] at hle hwl hwk uf;refine⟨hc.wf,hc.zero,hle,hwl,hwk,uf,λu v hu hv=>?_⟩;have:=hc.eq u v hu hv;simp only[e1] at this;rw[this]
 constructor
 ·rintro⟨q1,q2⟩;refine⟨q1,?_⟩;by_cases ui:gt p.set u∈T
  ·rw[<-hM u hu,<-hM v hv];exact q2 ui
  ·have RW:∀x,x<n->gt p.set x=gt p.set u->¬nx x∈S:=λx hx e hxS=>by
    obtain⟨r1,r2,r3⟩:=hm.wf.st x hx;simp only[e1,e] at r1 r2 r3;have h0:¬0<gt p1.mr (gt p.set u):=λh=>ui ((t2 _ r1).2 h)
    have qF:=(hM x hx).2 hxS;unfold Pt.Mk at qF;rw[e1,e] at qF;omega
   exact⟨λh=>absurd h (RW u hu rfl),λh=>absurd h (RW v hv q1.symm)⟩
 ·rintro⟨q1,q2⟩;exact⟨q1,λ_=>by rw[hM u hu,hM v hv];exact q2⟩
def Oo (Xh:Nat->Nat->List Nat)(S:List Nat):Nat->Nat->Pt->List Nat->Pt×List Nat
 |0,_,p,w=>(p,w)
 |r+1,x,p,w=>Oo Xh S r (x+1) (nz (Xh x) S p w).1 (nz (Xh x) S p w).2
def zf {n:Nat}{nx:Nat->Nat->Nat}{Xh:Nat->Nat->List Nat}{S:List Nat}(hS:∀c∈S,c<n):∀(r x:Nat) {p:Pt} (w:List Nat),p.Wf n->p.Zero->(∀y,x<=y->y<x+r->∀c,c<n->∀u,u∈Xh y c<->u<n/\nx u y=c) ->
  adH n p w (λu v=>∀y,x<=y->y<x+r->(nx u y∈S<->nx v y∈S)) (Oo Xh S r x p w)
 |0,x,p,w,h,hz,_=>⟨h,hz,api _,rfl,λk=>by simp only[Oo];constructor;exact .inl;rintro (h|h);exact h;omega,λv _=>.inl rfl,λu v _ _=>⟨λe=>⟨e,λy h1 h2=>J⟩,λe=>e.1⟩⟩
 |r+1,x,p,w,h,hz,hb=>by
  have h1:=zg h hz w (nx:=λu=>nx u x) hS (hb x (api _) J);rw[Oo];generalize nz (Xh x) S p w=q at *;obtain⟨p1,w1⟩:=q;simp only at h1 ⊢;have ih:=zf (p:=p1) hS r (x+1) w1 h1.wf h1.zero λy hy1 hy2=>hb y J J
  have a1:=h1.le;have a2:=ih.le;have a3:=h1.nC;have a4:=ih.nC;simp only at a1 a2 a3 a4;refine⟨ih.wf,ih.zero,J,J,λk=>?_,λv hv=>?_,λu v hu hv=>?_⟩
  ·rw[ih.work k];have:=h1.work k;simp only at this;rw[this]
   constructor
   ·rintro ((h|h)|h)
    ·exact .inl h
    ·exact .inr J
    ·exact .inr J
   ·rintro (h|h)
    ·exact .inl (.inl h)
    ·by_cases e:k<p1.bg.length
     ·exact .inl (.inr ⟨h.1,e⟩)
     ·exact .inr ⟨J,h.2⟩
  ·have b1:=h1.num v hv;have b2:=ih.num v hv;simp only at b1 b2;rcases b2 with b2|b2
   ·rcases b1 with b1|b1
    ·exact .inl (b2.trans b1)
    ·exact .inr J
   ·exact .inr J
  ·rw[ih.eq u v hu hv];have:=h1.eq u v hu hv;simp only at this;rw[this]
   constructor
   ·rintro⟨⟨e1,e2⟩,e3⟩;refine⟨e1,λy hy1 hy2=>?_⟩;by_cases e:y=x
    ·subst e;exact e2
    ·exact e3 y J J
   ·rintro⟨e1,e2⟩;exact⟨⟨e1,e2 x (api _) J⟩,λy hy1 hy2=>e2 y J J⟩
def Jo:∀(n K:Nat) (f:Nat->Nat),(∀k,k<K->f k<n)->(∀i j,i<K->j<K->f i=f j->i=j)->K<=n
 |0,K,f,h1,_=>by
  rcases Nat.eq_zero_or_pos K with h|h
  ·omega
  ·exact absurd (h1 0 h) J
 |n+1,K,f,h1,h2=>by
  by_cases hex:∃k,k<K/\f k=n
  ·obtain⟨k0,Jz,e0⟩:=hex;have:=Jo n (K-1) (λk=>if k=k0 then f (K-1) else f k) (λk hk=>by
    by_cases e:k=k0
    ·rw[Of e];have:=h1 (K-1) J;have:f (K-1)≠n:=λe'=>by have:=h2 (K-1) k0 J Jz (e'.trans e0.symm);omega
     omega
    ·rw[O3 e];have:=h1 k J;have:f k≠n:=λe'=>e (h2 k k0 J Jz (e'.trans e0.symm))
     omega) (λi j hi hj e=>by
    by_cases e1:i=k0
    ·by_cases e2:j=k0
     ·omega
     ·rw[Of e1,O3 e2] at e;have:=h2 _ _ J J e;omega
    ·by_cases e2:j=k0
     ·rw[O3 e1,Of e2] at e;have:=h2 _ _ J J e;omega
     ·rw[O3 e1,O3 e2] at e;exact h2 _ _ J J e)
   omega
  ·have:=Jo n K f (λk hk=>by
    have:=h1 k hk;have:f k≠n:=λe=>hex ⟨k,hk,e⟩
    omega) h2
   omega
def Pt.Wf.few {p:Pt}(h:p.Wf n):p.bg.length<=n:=by
 refine Jo n _ (λk=>gt p.bg k) (λk hk=>by have:=h.sp k hk;omega) λi j hi hj e=>?_
 obtain⟨a1,a2,a3⟩:=h.sp i hi;obtain⟨b1,b2,b3⟩:=h.sp j hj;have e:gt p.bg i=gt p.bg j:=e;have:=a3 _ (api _) a1;have:=b3 _ (api _) b1;rw[e] at *;omega
def Gk (Xh:Nat->Nat->List Nat)(m:Nat):Nat->Pt->List Nat->Pt
 |0,p,_=>p
 |f+1,p,w=>match w.getLast? with
  |none=>p
  |some s=>Gk Xh m f (Oo Xh (piece p.list (gt p.bg s) (gt p.en s)) m 0 p w.dropLast).1 (Oo Xh (piece p.list (gt p.bg s) (gt p.en s)) m 0 p w.dropLast).2
structure Hop (A:Fa)(p:Pt)(w:List Nat):Prop where
 wf:p.Wf A.n
 zero:p.Zero
 work:∀k∈w,k<p.bg.length
 fr:∀u v,u<A.n->v<A.n->gt p.set u=gt p.set v->∀x,x<A.m->A.fr u x=A.fr v x
 bis:∀B,Bis A B->∀u v,B u v->gt p.set u=gt p.set v
 part:∃xc:Nat->Nat,(∀u v,u<A.n->v<A.n->gt p.set u=gt p.set v->xc u=xc v)/\(∀u v,u<A.n->v<A.n->gt p.set u=gt p.set v->∀x,x<A.m->xc (A.nx u x)=xc (A.nx v x)) /\
  ∀u v,u<A.n->v<A.n->xc u=xc v->gt p.set u∈w\/gt p.set v∈w\/gt p.set u=gt p.set v
def ze {A:Fa}(hA:A.ok){Xh:Nat->Nat->List Nat}(hb:∀y,y<A.m->∀c,c<A.n->∀u,u∈Xh y c<->u<A.n/\A.nx u y=c){p:Pt}{w:List Nat}(h:Hop A p w){s:Nat}(hs:w.getLast? = some s) :
  Hop A (Oo Xh (piece p.list (gt p.bg s) (gt p.en s)) A.m 0 p w.dropLast).1 (Oo Xh (piece p.list (gt p.bg s) (gt p.en s)) A.m 0 p w.dropLast).2 /\
  2*(A.n-(Oo Xh (piece p.list (gt p.bg s) (gt p.en s)) A.m 0 p w.dropLast).1.bg.length)+(Oo Xh (piece p.list (gt p.bg s) (gt p.en s)) A.m 0 p w.dropLast).2.length<2*(A.n-p.bg.length)+w.length:=by
 have hw:w=w.dropLast++[s]:=by
  have ZB:w≠[]:=λe=>by rw[e] at hs;cases hs
  rw[List.getLast?_eq_some_getLast ZB] at hs;have:=List.dropLast_concat_getLast ZB;rw[aqb hs] at this;exact this.symm
 have hsK:s<p.bg.length:=h.work s (by rw[hw];simp);obtain⟨k1,k2,k3⟩:=h.wf.sp s hsK;have hS:∀c,c<A.n->(c∈piece p.list (gt p.bg s) (gt p.en s)<->gt p.set c=s):=λc hc=>by
  rw[M8 (by rw[h.wf.ll];exact k2)]
  constructor
  ·rintro⟨i,h1,h2,rfl⟩;exact k3 i h1 h2
  ·intro e;obtain⟨_,r2,r3⟩:=h.wf.st c hc;rw[e] at r2 r3;exact⟨_,r2,r3,(h.wf.pl c hc).2⟩
 have DX:∀c∈piece p.list (gt p.bg s) (gt p.en s),c<A.n:=λc hc=>by
  rw[M8 (by rw[h.wf.ll];exact k2)] at hc;obtain⟨i,h1,h2,rfl⟩:=hc;exact (h.wf.li i J).1
 have hp:=zf (nx:=A.nx) DX A.m 0 w.dropLast h.wf h.zero λy _ hy=>hb y J
 generalize piece p.list (gt p.bg s) (gt p.en s)=S at *;generalize Oo Xh S A.m 0 p w.dropLast=q at *;obtain⟨p1,w1⟩:=q;have qz:p1.Wf A.n:=hp.wf;have Pm:=qz.few;have hle:p.bg.length<=p1.bg.length:=hp.le;have hwl:w1.length+p.bg.length=w.dropLast.length+p1.bg.length:=hp.nC;have hwk:∀k,k∈w1<->k∈w.dropLast\/(p.bg.length<=k/\k<p1.bg.length):=hp.work;have Oq:∀v,v<A.n->gt p1.set v=gt p.set v\/p.bg.length<=gt p1.set v:=hp.num;have heq:∀u v,u<A.n->v<A.n->(gt p1.set u=gt p1.set v<->gt p.set u=gt p.set v/\∀y,0<=y->y<0+A.m->(A.nx u y∈S<->A.nx v y∈S)):=hp.eq;have apm:w.length=w.dropLast.length+1:=by
  conv=>lhs;rw[hw]
  simp
 refine⟨⟨qz,hp.zero,λk hk=>?_,λu v hu hv e=>h.fr u v hu hv ((heq u v hu hv).1 e).1,λB hB u v ny=>?_,?_⟩,by show 2*(A.n-p1.bg.length)+w1.length<_;omega⟩
 ·rcases (hwk k).1 hk with h1|h1
  ·have:=h.work k (by rw[hw];exact List.mem_append_left _ h1);show k<p1.bg.length;omega
  ·exact h1.2
 ·obtain⟨hu,hv⟩:=hB.lt u v ny;refine (heq u v hu hv).2 ⟨h.bis B hB u v ny,λy _ hy=>?_⟩;have hn:=hB.nx u v ny y J;obtain⟨n1,n2⟩:=hB.lt _ _ hn;rw[hS _ n1,hS _ n2,h.bis B hB _ _ hn]
 ·obtain⟨xc,x1,x2,x3⟩:=h.part;refine⟨λu=>2*xc u+if gt p.set u=s then 1 else 0,λu v hu hv e=>?_,λu v hu hv e x hx=>?_,λu v hu hv e=>?_⟩
  ·have e:=((heq u v hu hv).1 e).1;simp only[x1 u v hu hv e,e]
  ·obtain⟨e,e'⟩:=(heq u v hu hv).1 e;have n1:=hA.lt u x hu hx;have n2:=hA.lt v x hv hx;have hm:=e' x (apW _) J;rw[hS _ n1,hS _ n2] at hm;simp only[x2 u v hu hv e x hx];by_cases c:gt p.set (A.nx u x)=s
   ·rw[Of c,Of (hm.1 c)]
   ·rw[O3 c,O3 λc'=>c (hm.2 c')]
  ·have ex:xc u=xc v/\(gt p.set u=s<->gt p.set v=s):=by
    simp only at e;by_cases c:gt p.set u=s
    ·by_cases c':gt p.set v=s
     ·rw[Of c,Of c'] at e;exact⟨J,by simp[c,c']⟩
     ·rw[Of c,O3 c'] at e;omega
    ·by_cases c':gt p.set v=s
     ·rw[O3 c,Of c'] at e;omega
     ·rw[O3 c,O3 c'] at e;exact⟨J,by simp[c,c']⟩
   show gt p1.set u∈w1\/gt p1.set v∈w1\/gt p1.set u=gt p1.set v;by_cases cu:gt p1.set u∈w1
   ·exact .inl cu
   by_cases cv:gt p1.set v∈w1
   ·exact .inr (.inl cv)
   refine .inr (.inr ?_);have old:∀v,v<A.n->¬gt p1.set v∈w1->gt p1.set v=gt p.set v/\¬gt p.set v∈w.dropLast:=λv hv c=>by
    have YA:=(qz.st v hv).1;rcases Oq v hv with h1|h1
    ·refine⟨h1,λhm=>c ((hwk _).2 (.inl ?_))⟩;rw[h1];exact hm
    ·exact absurd ((hwk _).2 (.inr ⟨h1,YA⟩)) c
   obtain⟨u1,u2⟩:=old u hu cu;obtain⟨v1,v2⟩:=old v hv cv;rw[u1,v1];by_cases c:gt p.set u=s
   ·rw[c,ex.2.1 c]
   ·have c':gt p.set v≠s:=λh=>c (ex.2.2 h)
    rcases x3 u v hu hv ex.1 with h1|h1|h1
    ·rw[hw,aqm,apY] at h1;rcases h1 with h1|h1
     ·exact absurd h1 u2
     ·exact absurd h1 c
    ·rw[hw,aqm,apY] at h1;rcases h1 with h1|h1
     ·exact absurd h1 v2
     ·exact absurd h1 c'
    ·exact h1
def Bb {A:Fa}(hA:A.ok){Xh:Nat->Nat->List Nat}(hb:∀y,y<A.m->∀c,c<A.n->∀u,u∈Xh y c<->u<A.n/\A.nx u y=c):∀(f:Nat) {p:Pt} {w:List Nat},Hop A p w->2*(A.n-p.bg.length)+w.length<=f->Hop A (Gk Xh A.m f p w) []
 |0,p,w,h,hf=>by
  have:w=[]:=aqo.1 J;subst this;exact h
 |f+1,p,w,h,hf=>by
  rw[Gk]
  cases hs:w.getLast? with
  |none =>
   have:w=[]:=by simpa using hs
   subst this;exact h
  |some s =>
   obtain⟨h1,h2⟩:=ze hA hb h hs;exact Bb hA hb f h1 J
def aap {A:Fa}(hA:A.ok){p:Pt}(h:Hop A p []){u v:Nat}(hu:u<A.n)(hv:v<A.n):gt p.set u=gt p.set v<->Zb A u=Zb A v:=by
 constructor
 ·intro e;obtain⟨xc,x1,x2,x3⟩:=h.part;refine On (B:=λu v=>u<A.n/\v<A.n/\gt p.set u=gt p.set v) ⟨λu v k=>⟨k.1,k.2.1⟩,λu v k=>h.fr u v k.1 k.2.1 k.2.2,λu v k x hx=>⟨hA.lt u x k.1 hx,hA.lt v x k.2.1 hx,?_⟩⟩ u v ⟨hu,hv,e⟩;rcases x3 _ _ (hA.lt u x k.1 hx) (hA.lt v x k.2.1 hx) (x2 u v k.1 k.2.1 k.2.2 x hx) with h1|h1|h1
  ·simp at h1
  ·simp at h1
  ·exact h1
 ·intro e;exact h.bis _ (ue hA) u v ⟨hu,hv,e⟩
def WR:List Nat->Nat->Nat
 |[],_=>0
 |x::l,c=>bif x==c then 0 else WR l c+1
def QW:∀(l:List Nat) (c:Nat),WR l c<l.length<->c∈l
 |[],c=>by simp[WR]
 |x::l,c=>by
  have:=QW l c;rw[WR,ap1,ap9]
  cases h:x==c with
  |true =>
   have:x=c:=by simpa using h
   simp[this]
  |false =>
   have ZB:¬x=c:=by simpa using h
   simp only[cond_false]
   constructor
   ·intro h;exact .inr (this.1 J)
   ·rintro (h|h)
    ·exact absurd h.symm ZB
    ·have:=this.2 h;omega
def yw (f g:Nat->Nat)(n:Nat):∀(l:List Nat),(∀a∈l,f a=f n<->g a=g n)->WR (l.map f) (f n)=WR (l.map g) (g n)
 |[],_=>rfl
 |x::l,h=>by
  have h0:=h x (aba ..);have he:(f x==f n)=(g x==g n):=by rw[aqI,beq_iff_eq,beq_iff_eq];exact h0
  rw[aqe,aqe,WR,WR,he,yw f g n l λa ha=>h a (aab _ ha)]
def YW (κ:Nat->Nat):List Nat->List Nat->List Nat×List Nat
 |[],st=>(st,[])
 |c::cs,st=>bif decide (WR (st.map κ) (κ c)<st.length) then ((YW κ cs st).1,WR (st.map κ) (κ c)::(YW κ cs st).2) else ((YW κ cs (st++[c])).1,st.length::(YW κ cs (st++[c])).2)
def RA {κ ρ:Nat->Nat}{Q:Nat->Prop}(hk:∀a b,Q a->Q b->(κ a=κ b<->ρ a=ρ b)):∀(cs st:List Nat),(∀a∈cs,Q a)->(∀a∈st,Q a)->YW id (cs.map ρ) (st.map ρ)=((YW κ cs st).1.map ρ,(YW κ cs st).2)/\∀a∈(YW κ cs st).1,Q a
 |[],st,_,h=>⟨rfl,h⟩
 |c::cs,st,h1,h2=>by
  have hc:=h1 c (aba ..);have FO:=λa ha=>h1 a (aab _ ha)
  have he:WR ((st.map ρ).map id) (id (ρ c))=WR (st.map κ) (κ c):=by
   rw[List.map_id];exact (yw κ ρ c st λa ha=>hk a c (h2 a ha) hc).symm
  rw[aqe,YW,YW,he,ala]
  cases decide (WR (st.map κ) (κ c)<st.length) with
  |true =>
   obtain⟨e1,e2⟩:=RA hk cs st FO h2;simp only[cond_true,e1];exact⟨by first|rfl|trivial,e2⟩
  |false =>
   obtain⟨e1,e2⟩:=RA hk cs (st++[c]) FO λa ha=>by
    rcases aqm.1 ha with h|h
    ·exact h2 a h
    ·rw[apY.1 h];exact hc
   have e3:st.map ρ++[ρ c]=(st++[c]).map ρ:=by simp
   simp only[cond_false,e3,e1];exact⟨by first|rfl|trivial,e2⟩
def Vs (κ:Nat->Nat)(row:Nat->List Nat):Nat->Nat->List Nat->List (Nat×List Nat)
 |0,_,_=>[]
 |f+1,i,st=>match st[i]? with
  |none=>[]
  |some s=>(s,(YW κ (row s) st).2)::Vs κ row f (i+1) (YW κ (row s) st).1
def Kw {κ ρ:Nat->Nat}{Q:Nat->Prop}(hk:∀a b,Q a->Q b->(κ a=κ b<->ρ a=ρ b)){row gk:Nat->List Nat}(hr:∀s,Q s->gk (ρ s)=(row s).map ρ/\∀a∈row s,Q a):∀(f i:Nat) (st:List Nat),(∀a∈st,Q a) ->
  Vs id gk f i (st.map ρ)=(Vs κ row f i st).map (λx=>(ρ x.1,x.2))/\∀x∈Vs κ row f i st,Q x.1
 |0,i,st,h=>⟨rfl,λx hx=>by simp[Vs] at hx⟩
 |f+1,i,st,h=>by
  rw[Vs,Vs,aqc]
  cases hs:st[i]? with
  |none=>exact⟨rfl,λx hx=>by simp at hx⟩
  |some s =>
   have hq:=h s (aqn hs);obtain⟨r1,r2⟩:=hr s hq;obtain⟨e1,e2⟩:=RA hk (row s) st r2 h;obtain⟨i1,i2⟩:=Kw hk hr f (i+1) _ e2;simp only[aqG,r1,e1,i1,aqe];refine⟨by first|rfl|trivial,λx hx=>?_⟩;rcases ap9.1 hx with rfl|hx
   ·exact hq
   ·exact i2 x hx
def U9 {κ:Nat->Nat}:∀(cs st:List Nat),(st.map κ).Nodup->((YW κ cs st).1.map κ).Nodup/\st.length<=(YW κ cs st).1.length/\(∀i,i<st.length->(YW κ cs st).1[i]? = st[i]?)/\(YW κ cs st).2.length=cs.length/\∀k∈(YW κ cs st).2,k<(YW κ cs st).1.length
 |[],st,h=>⟨h,api _,λ_ _=>rfl,rfl,λk hk=>by simp[YW] at hk⟩
 |c::cs,st,h=>by
  rw[YW]
  cases hd:decide (WR (st.map κ) (κ c)<st.length) with
  |true =>
   obtain⟨h1,h2,h3,h4,h5⟩:=U9 cs st h;have hd:WR (st.map κ) (κ c)<st.length:=by simpa using hd
   simp only[cond_true,ap1,h4];refine⟨h1,h2,h3,by first|rfl|trivial,λk hk=>?_⟩;rcases ap9.1 hk with rfl|hk
   ·omega
   ·exact h5 k hk
  |false =>
   have hd:¬WR (st.map κ) (κ c)<(st.map κ).length:=by rw[ala];simpa using hd
   rw[QW] at hd;obtain⟨h1,h2,h3,h4,h5⟩:=U9 cs (st++[c]) (by
    rw[aqf,List.nodup_append];refine⟨h,by simp,λa ha b hb=>?_⟩;rw[aqe,List.map_nil,apY] at hb;rintro rfl;rw[hb] at ha;exact hd ha)
   rw[ann,aqh] at h2;simp only[cond_false,ap1,h4];refine⟨h1,J,λi hi=>?_,by first|rfl|trivial,λk hk=>?_⟩
   ·rw[h3 i (by rw[ann];omega),aql hi]
   ·rcases ap9.1 hk with rfl|hk
    ·omega
    ·exact h5 k hk
def Wj {κ:Nat->Nat}{st:List Nat}(h:(st.map κ).Nodup)(hn:∀a∈st,a<n):st.length<=n:=by
 have Ax:st.Nodup:=by
  rw[List.Nodup,List.pairwise_map] at h;exact h.imp λZB e=>ZB (by rw[e])
 refine Jo n st.length (λi=>gt st i) (λi hi=>?_) λi j hi hj e=>?_
 ·have:gt st i=st[i]:=by unfold gt;rw[ap6,aaa hi];rfl
  simp only[this];exact hn _ (adm hi)
 ·have e1:gt st i=st[i]:=by unfold gt;rw[ap6,aaa hi];rfl
  have e2:gt st j=st[j]:=by unfold gt;rw[ap6,aaa hj];rfl
  simp only[e1,e2] at e;exact (List.getElem_inj Ax).1 e
def XR (A:Fa)(s:Nat):List Nat:=(List.range A.m).map (A.nx s)
def LG (A:Fa)(cl:Nat->Nat):List (Nat×List Nat):=Vs cl (XR A) (A.n+1) 0 [0]
def VJ (A:Fa):List (Nat×List Nat):=Vs id (λc=>(XR A c).map (Zb A)) (A.n+1) 0 [Zb A 0]
def min_eq {A:Fa}(hA:A.ok){cl:Nat->Nat}(hc:∀u v,u<A.n->v<A.n->(cl u=cl v<->Zb A u=Zb A v)) :
  VJ A=(LG A cl).map (λx=>(Zb A x.1,x.2))/\∀x∈LG A cl,x.1<A.n:=by
 have hr:∀s,s<A.n->(λc=>(XR A c).map (Zb A)) (Zb A s)=(XR A s).map (Zb A)/\∀a∈XR A s,a<A.n:=λs hs=>by
  refine⟨?_,λa ha=>?_⟩
  ·have YA:Zb A s<A.n:=aqJ ((X8 A).le s) hs;have he:=(WQ hA YA hs).1 ((X8 A).fix s);simp only[XR,aqY];refine aqD λx hx=>?_
   exact (he x (aqg.1 hx)).2
  ·obtain⟨x,hx,rfl⟩:=ap0.1 ha;exact hA.lt s x hs (aqg.1 hx)
 have:=Kw (κ:=cl) (ρ:=Zb A) (Q:=λa=>a<A.n) hc (row:=XR A) (gk:=λc=>(XR A c).map (Zb A)) hr (A.n+1) 0 [0] λa ha=>by rw[apY.1 ha];exact hA.pos
 exact this
def Aw {A:Fa}(hA:A.ok){s:Nat}(hs:s<A.n){x:Nat}(hx:x<A.m):A.fr (Zb A s) x=A.fr s x :=
 (((WQ hA (aqJ ((X8 A).le s) hs) hs).1 ((X8 A).fix s)) x hx).1
section
variable {α:Type} [DecidableEq α]
def Yg (κ:Nat->α):Nat->List α
 |0=>[]
 |i+1=>if κ i∈Yg κ i then Yg κ i else Yg κ i++[κ i]
def SW (κ:Nat->α)(k:α):∀n,k∈Yg κ n<->∃i,i<n/\κ i=k
 |0=>by simp[Yg]
 |n+1=>by
  have ih:=SW κ k n;have ihn:=SW κ (κ n) n;rw[Yg]
  constructor
  ·intro h;by_cases e:κ n∈Yg κ n
   ·rw[Of e] at h;obtain⟨i,h1,h2⟩:=ih.1 h;exact⟨i,J,h2⟩
   ·rw[O3 e,aqm,apY] at h;rcases h with h|h
    ·obtain⟨i,h1,h2⟩:=ih.1 h;exact⟨i,J,h2⟩
    ·exact⟨n,J,h.symm⟩
  ·rintro⟨i,h1,h2⟩;by_cases hi:i=n
   ·subst hi;by_cases e:κ i∈Yg κ i
    ·rw[Of e,<-h2];exact e
    ·rw[O3 e,h2];simp
   ·have:=ih.2 ⟨i,J,h2⟩;by_cases e:κ n∈Yg κ n
    ·rw[Of e];exact this
    ·rw[O3 e];exact List.mem_append_left _ this
def O8 (κ:Nat->α):∀n,(Yg κ n).Nodup
 |0=>by simp[Yg]
 |n+1=>by
  have ih:=O8 κ n;rw[Yg];by_cases e:κ n∈Yg κ n
  ·rw[Of e];exact ih
  ·rw[O3 e,List.nodup_append];refine⟨ih,by simp,λa ha b hb=>?_⟩;rw[apY.1 hb];rintro rfl;exact e ha
def FQ (κ:Nat->α):∀n,(Yg κ n).length<=n
 |0=>api _
 |n+1=>by
  have:=FQ κ n;rw[Yg]
  split
  ·omega
  ·simp;omega
def RD (κ:Nat->α)(k:α)(n:Nat):List Nat:=(List.range n).filter λi=>decide (κ i=k)
def O9 (κ:Nat->α)(k:α)(n u:Nat):u∈RD κ k n<->u<n/\κ u=k:=by simp[RD]
def aB (κ:Nat->α)(k:α)(n:Nat):(RD κ k n).Nodup:=List.Pairwise.filter _ List.nodup_range
def JD (κ:Nat->α)(k:α)(n:Nat):RD κ k (n+1)=if κ n=k then RD κ k n++[n] else RD κ k n:=by
 unfold RD;rw[List.range_succ,List.filter_append];by_cases e:κ n=k <;> simp[e]
def Wa (c:Nat):List Nat->Pt->Pt
 |[],p=>p
 |u::l,p=>Wa c l { p with place:=p.place.set u p.list.length,set:=p.set.set u c,list:=p.list++[u] }
structure akD (n c:Nat)(l:List Nat)(p q:Pt):Prop where
 list:q.list=p.list++l
 bg:q.bg=p.bg
 en:q.en=p.en
 mr:q.mr=p.mr
 lp:q.place.length=n
 ls:q.set.length=n
 out:∀v,v∉l->gt q.place v=gt p.place v/\gt q.set v=gt p.set v
 inn:∀j (h:j<l.length),gt q.place l[j]=p.list.length+j/\gt q.set l[j]=c
def D7 (n c:Nat):∀(l:List Nat) (p:Pt),l.Nodup->(∀u∈l,u<n)->p.place.length=n->p.set.length=n->akD n c l p (Wa c l p)
 |[],p,_,_,h1,h2=>⟨by simp[Wa],rfl,rfl,rfl,h1,h2,λ_ _=>⟨rfl,rfl⟩,λj h=>by simp at h⟩
 |u::l,p,hn,hu,h1,h2=>by
  rw[aqW] at hn;have hun:=hu u (aba ..);have ih:=D7 n c l { p with place:=p.place.set u p.list.length,set:=p.set.set u c,list:=p.list++[u] } hn.2 (λx hx=>hu x (aab _ hx)) (by simp[h1]) (by simp[h2]);rw[Wa];generalize Wa c l { p with place:=p.place.set u p.list.length,set:=p.set.set u c,list:=p.list++[u] }=q at *;refine⟨by rw[ih.list];simp,ih.bg,ih.en,ih.mr,ih.lp,ih.ls,λv hv=>?_,λj hj=>?_⟩
  ·rw[ap9,not_or] at hv;obtain⟨a,b⟩:=ih.out v hv.2;rw[a,b];simp only[TF];rw[O3 J,O3 J];exact⟨rfl,rfl⟩
  ·cases j with
   |zero =>
    obtain⟨a,b⟩:=ih.out u hn.1;rw[List.getElem_cons_zero,a,b];rw[TF,TF,Of ⟨rfl,J⟩,Of ⟨rfl,J⟩];exact⟨rfl,rfl⟩
   |succ j =>
    obtain⟨a,b⟩:=ih.inn j (by simpa using hj);rw[List.getElem_cons_succ,a,b];refine⟨?_,rfl⟩;simp only[ann,aqh];omega
def Cv (κ:Nat->α)(n:Nat):List α->Pt->Pt
 |[],p=>p
 |k::ks,p=>Cv κ n ks { Wa p.bg.length (RD κ k n) p with bg:=p.bg++[p.list.length],mr:=p.mr++[0],en:=p.en++[(Wa p.bg.length (RD κ k n) p).list.length] }
def VL (κ:Nat->α)(n:Nat):Pt:=Cv κ n (Yg κ n) ⟨[],List.replicate n 0,List.replicate n 0,[],[],[]⟩
structure Fil (κ:Nat->α)(n:Nat)(done:List α)(p:Pt):Prop where
 lp:p.place.length=n
 ls:p.set.length=n
 lb:p.bg.length=done.length
 le:p.en.length=done.length
 lm:p.mr.length=done.length
 li:∀i,i<p.list.length->gt p.list i<n/\gt p.place (gt p.list i)=i/\κ (gt p.list i)∈done
 st:∀u,u<n->κ u∈done->gt p.place u<p.list.length/\gt p.list (gt p.place u)=u/\gt p.set u<done.length/\gt p.bg (gt p.set u)<=gt p.place u/\gt p.place u<gt p.en (gt p.set u)/\done[gt p.set u]? = some (κ u)
 sp:∀k,k<done.length->gt p.bg k<gt p.en k/\gt p.en k<=p.list.length/\∀i,gt p.bg k<=i->i<gt p.en k->gt p.set (gt p.list i)=k
 mr:∀k,k<done.length->gt p.mr k=0
def zH {a b:List Nat}(h:i<a.length):gt (a++b) i=gt a i:=by
 unfold gt;rw[ap6,ap6,aql h]
def vL {a b:List Nat}(h:a.length<=i):gt (a++b) i=gt b (i-a.length):=by
 unfold gt;rw[ap6,ap6,aqZ h]
def Sy {l:List Nat}(h:i<l.length):gt l i=l[i]:=by
 unfold gt;rw[ap6,aaa h];rfl
def aA {κ:Nat->α}{done:List α}{p:Pt}(h:Fil κ n done p){k:α}(hk:k∉done)(hex:∃i,i<n/\κ i=k) :
  Fil κ n (done++[k]) { Wa p.bg.length (RD κ k n) p with bg:=p.bg++[p.list.length],mr:=p.mr++[0],en:=p.en++[(Wa p.bg.length (RD κ k n) p).list.length] }:=by
 have ha:=D7 n p.bg.length (RD κ k n) p (aB κ k n) (λu hu=>((O9 κ k n u).1 hu).1) h.lp h.ls;generalize Wa p.bg.length (RD κ k n) p=q at *;have ZB:0<(RD κ k n).length:=by
  obtain⟨i,h1,h2⟩:=hex;exact List.length_pos_of_mem ((O9 κ k n i).2 ⟨h1,h2⟩)
 have hgm:=O9 κ k n;have hgd:=aB κ k n;generalize RD κ k n=G at *;have hql:q.list.length=p.list.length+G.length:=by rw[ha.list];simp
 have hdl:(done++[k]).length=done.length+1:=by simp
 have hB:∀i,gt (p.bg++[p.list.length]) i=if i=done.length then p.list.length else gt p.bg i:=λi=>by rw[IK,h.lb]
 have hE:∀i,gt (p.en++[q.list.length]) i=if i=done.length then q.list.length else gt p.en i:=λi=>by rw[IK,h.le]
 have hM:∀i,gt (p.mr++[0]) i=if i=done.length then 0 else gt p.mr i:=λi=>by rw[IK,h.lm]
 have hold:∀i,i<p.list.length->gt q.list i=gt p.list i:=λi hi=>by rw[ha.list,zH hi]
 have agr:∀j (hj:j<G.length),gt q.list (p.list.length+j)=G[j]:=λj hj=>by rw[ha.list,vL J,Nat.add_sub_cancel_left,Sy hj]
 have LH:∀i,i<p.list.length->gt p.list i∉G:=λi hi hm=>by
  have:=(h.li i hi).2.2;rw[((hgm _).1 hm).2] at this;exact hk this
 refine⟨ha.lp,ha.ls,by simp[h.lb],by simp[h.le],by simp[h.lm],λi hi=>?_,λu hu hd=>?_,λj hj=>?_,λj hj=>?_⟩
 ·have hi:i<q.list.length:=hi;by_cases YA:i<p.list.length
  ·obtain⟨a,b,c⟩:=h.li i YA;obtain⟨o1,_⟩:=ha.out _ (LH i YA);simp only[hold i YA];exact⟨a,o1.trans b,List.mem_append_left _ c⟩
  ·obtain⟨j,rfl⟩:∃j,i=p.list.length+j:=⟨i-p.list.length,J⟩;have hj:j<G.length:=J;simp only[agr j hj];obtain⟨g1,g2⟩:=(hgm _).1 (adm hj);exact⟨g1,(ha.inn j hj).1,by rw[g2];simp⟩
 ·show gt q.place u<q.list.length/\gt q.list (gt q.place u)=u/\gt q.set u<(done++[k]).length/\gt (p.bg++[p.list.length]) (gt q.set u)<=gt q.place u/\gt q.place u<gt (p.en++[q.list.length]) (gt q.set u)/\(done++[k])[gt q.set u]? = some (κ u);by_cases hg:u∈G
  ·obtain⟨j,hj,rfl⟩:=aqd.1 hg;obtain⟨i1,i2⟩:=ha.inn j hj;have hs:gt q.set G[j]=done.length:=by rw[i2,h.lb]
   rw[i1,hs,agr j hj,hB,hE,Of rfl,Of rfl,hdl,((hgm _).1 hg).2];exact⟨J,rfl,J,J,J,by simp⟩
  ·have Qr:κ u∈done:=by
    rcases aqm.1 hd with h1|h1
    ·exact h1
    ·exact absurd ((hgm u).2 ⟨hu,apY.1 h1⟩) hg
   obtain⟨a,b,c,d,e,f⟩:=h.st u hu Qr;obtain⟨o1,o2⟩:=ha.out u hg;rw[o1,o2,hold _ a,hB,hE,O3 J,O3 J,hdl,aql c];exact⟨J,b,J,d,e,f⟩
 ·show gt (p.bg++[p.list.length]) j<gt (p.en++[q.list.length]) j/\gt (p.en++[q.list.length]) j<=q.list.length/\∀i,gt (p.bg++[p.list.length]) j<=i->i<gt (p.en++[q.list.length]) j->gt q.set (gt q.list i)=j;rw[hB,hE];by_cases e:j=done.length
  ·rw[Of e,Of e];refine⟨J,api _,λi h1 h2=>?_⟩;obtain⟨r,rfl⟩:∃r,i=p.list.length+r:=⟨i-p.list.length,J⟩;have hr:r<G.length:=J;rw[agr r hr,(ha.inn r hr).2,h.lb,e]
  ·have Dq:j<done.length:=by have:j<(done++[k]).length:=hj;omega
   rw[O3 e,O3 e];obtain⟨a,b,c⟩:=h.sp j Dq;refine⟨a,J,λi h1 h2=>?_⟩;rw[hold i J,(ha.out _ (LH i J)).2];exact c i h1 h2
 ·show gt (p.mr++[0]) j=0;rw[hM];by_cases e:j=done.length
  ·rw[Of e]
  ·rw[O3 e];exact h.mr j (by have:j<(done++[k]).length:=hj;omega)
def nO {κ:Nat->α}{n:Nat}:∀(ks:List α) {done:List α} {p:Pt},Fil κ n done p->(done++ks).Nodup->(∀k∈ks,∃i,i<n/\κ i=k)->Fil κ n (done++ks) (Cv κ n ks p)
 |[],done,p,h,_,_=>by rw[aqw];exact h
 |k::ks,done,p,h,hn,he=>by
  have hk:k∉done:=λhm=>by
   rw[List.nodup_append] at hn;exact hn.2.2 k hm k (aba ..) rfl
  have h1:=aA h hk (he k (aba ..));have e:done++k::ks=(done++[k])++ks:=by simp
  rw[e] at hn ⊢;exact nO ks h1 hn λx hx=>he x (aab _ hx)
def wI (κ:Nat->α)(n:Nat):Fil κ n (Yg κ n) (VL κ n):=by
 have h0:Fil κ n [] ⟨[],List.replicate n 0,List.replicate n 0,[],[],[]⟩:=⟨by simp,by simp,rfl,rfl,rfl,λi hi=>by simp at hi,λu _ h=>by simp at h,λk hk=>by simp at hk,λk hk=>by simp at hk⟩;have:=nO (Yg κ n) h0 (by simpa using O8 κ n) λk hk=>(SW κ k n).1 hk
 rw[aqQ] at this;exact this
def vS {A:Fa}{κ:Nat->α}(hk:∀u v,u<A.n->v<A.n->(κ u=κ v<->∀x,x<A.m->A.fr u x=A.fr v x)):Hop A (VL κ A.n) (List.range (VL κ A.n).bg.length):=by
 have h:=wI κ A.n;generalize VL κ A.n=p at *;have hd:∀u,u<A.n->κ u∈Yg κ A.n:=λu hu=>(SW κ _ _).2 ⟨u,hu,rfl⟩
 have Hm:p.list.length=A.n:=by
  refine Nat.le_antisymm (Jo A.n p.list.length (gt p.list) (λi hi=>(h.li i hi).1) λi j hi hj e=>?_) (Jo p.list.length A.n (gt p.place) (λu hu=>(h.st u hu (hd u hu)).1) λu v hu hv e=>?_)
  ·have a:=(h.li i hi).2.1;have b:=(h.li j hj).2.1;rw[e] at a;exact a.symm.trans b
  ·have a:=(h.st u hu (hd u hu)).2.1;have b:=(h.st v hv (hd v hv)).2.1;rw[e] at a;exact a.symm.trans b
 have Mg:∀u v,u<A.n->v<A.n->(gt p.set u=gt p.set v<->κ u=κ v):=λu v hu hv=>by
  obtain⟨_,_,a,_,_,b⟩:=h.st u hu (hd u hu);obtain⟨_,_,c,_,_,d⟩:=h.st v hv (hd v hv)
  constructor
  ·intro e;rw[e,d] at b;exact (aqb b).symm
  ·intro e;rw[aaa a] at b;rw[aaa c] at d;have:=(aqb b).trans (e.trans (aqb d).symm);exact (List.getElem_inj (O8 κ A.n)).1 this
 refine⟨⟨Hm,h.lp,h.ls,by rw[h.le,h.lb],by rw[h.lm,h.lb],λu hu=>?_,λi hi=>?_,λu hu=>?_,λk Lz=>?_,λk Lz=>?_⟩,λk Lz=>h.mr k (by rw[h.lb] at Lz;exact Lz),λk Lz=>aqg.1 Lz,λu v hu hv e=>(hk u v hu hv).1 ((Mg u v hu hv).1 e),λB hB u v ny=>?_,λ_=>0,λ_ _ _ _ _=>rfl,λ_ _ _ _ _ _ _=>rfl,λu v hu hv _=>?_⟩
 ·obtain⟨a,b,_⟩:=h.st u hu (hd u hu);exact⟨J,b⟩
 ·obtain⟨a,b,_⟩:=h.li i J;exact⟨a,b⟩
 ·obtain⟨_,_,a,b,c,_⟩:=h.st u hu (hd u hu);exact⟨by rw[h.lb];exact a,b,c⟩
 ·obtain⟨a,b,c⟩:=h.sp k (by rw[h.lb] at Lz;exact Lz);exact⟨a,J,c⟩
 ·have a:=h.mr k (by rw[h.lb] at Lz;exact Lz);have b:=h.sp k (by rw[h.lb] at Lz;exact Lz);omega
 ·obtain⟨hu,hv⟩:=hB.lt u v ny;exact (Mg u v hu hv).2 ((hk u v hu hv).2 (hB.fr u v ny))
 ·obtain⟨_,_,a,_⟩:=h.st u hu (hd u hu);exact .inl (aqg.2 (by rw[h.lb];exact a))
end
def akE {α:Type} [DecidableEq α] (A:Fa)(κ:Nat->α)(Xh:Nat->Nat->List Nat):Nat->Nat :=
 gt (Gk Xh A.m (2*(A.n-(VL κ A.n).bg.length)+(VL κ A.n).bg.length) (VL κ A.n) (List.range (VL κ A.n).bg.length)).set
def Mh (A:Fa)(x c:Nat):List Nat:=(List.range A.n).filter λu=>A.nx u x==c
def JN (A:Fa)(x c u:Nat):u∈Mh A x c<->u<A.n/\A.nx u x=c:=by simp[Mh]
def afJ {α:Type} [DecidableEq α] {A:Fa}(hA:A.ok){κ:Nat->α}(hk:∀u v,u<A.n->v<A.n->(κ u=κ v<->∀x,x<A.m->A.fr u x=A.fr v x)){u v:Nat}(hu:u<A.n)(hv:v<A.n) :
  akE A κ (Mh A) u=akE A κ (Mh A) v<->Zb A u=Zb A v:=by
 have h0:=vS hk;have h1:=Bb hA (λy _ c _ u=>JN A y c u) _ h0 (api _);rw[aqR] at h1;exact aap hA h1 hu hv
end Go.Am
namespace Go.Am
open Go
variable [Z8]
variable {β:Type}{fin:Fl->β}{ks:List K}{ZC:β->Prop}{e:Env}{s:St}{t:TypeId}{v:AV}{L:List Nat}{i:Nat}{cs:List AV}
structure Zv.ok (a:Zv):Prop where
 lines:1<=a.lines/\a.lines<=4
 pos:0<a.next.length
 few:a.next.length<=512
 fl:a.ZW.length=a.next.length
 row:∀i (h:i<a.next.length),a.next[i].2.length=2^a.lines.toNat/\∀x∈a.next[i].2,0<=x/\x<(a.next.length:Int)
 Wh:∀i (h:i<a.ZW.length),a.ZW[i].2.length=2^a.lines.toNat
def M6 (n:Int):zk n=((2^n.toNat:Nat):Int):=by unfold zk;simp
def HG {m:Nat}{n:Int}:∀{l:List (Bool×List Int)} {f:List (Bool×List Bool)},l.length=f.length->Tq m n l f=0 ->
  (∀i (h:i<l.length),l[i].2.length=m/\∀x∈l[i].2,0<=x/\x<n)/\∀i (h:i<f.length),f[i].2.length=m
 |[],f,hl,_=>by
  have:f=[]:=aqo.1 hl.symm;subst this;exact⟨λi h=>by simp at h,λi h=>by simp at h⟩
 |r::l,[],hl,_=>by simp at hl
 |r::l,g::f,hl,h=>by
  rw[Tq] at h;obtain⟨h1,h⟩:=Xq h Mo;obtain⟨h2,h⟩:=Xq h Mo;obtain⟨i1,i2⟩:=HG (by simpa using hl) h;rw[aqx] at h1;have e1:r.2.length=m:=by have:=h1.1;simp at this;omega
  have e2:g.2.length=m:=by have:=h1.2;simp at this;omega
  have e3:∀x∈r.2,0<=x/\x<n:=λx hx=>by
   have:=Tk (by simpa using List.any_eq_false.1 h2 x hx:outside x 0 (n-1)=false);omega
  refine⟨λi hi=>?_,λi hi=>?_⟩
  ·cases i with
   |zero=>exact⟨e1,e3⟩
   |succ i=>simpa using i1 i (by simpa using hi)
  ·cases i with
   |zero=>exact e2
   |succ i=>simpa using i2 i (by simpa using hi)
def Zv.L8 {a:Zv}(h:tT a=0):a.ok:=by
 rw[tT] at h;obtain⟨h1,h⟩:=Xq h Mo;obtain⟨h2,h⟩:=Xq h Mo;obtain⟨h3,h⟩:=Xq h Mo;obtain⟨h4,h⟩:=Xq h Mo;have hl:1<=a.lines/\a.lines<=4:=by
  simp only[outside,aqx,decide_eq_false_iff_not] at h1;omega
 have hf:a.ZW.length=a.next.length:=by simp at h4;omega
 rw[M6] at h;obtain⟨r1,r2⟩:=HG hf.symm h;exact⟨hl,Nat.pos_of_ne_zero λe=>by rw[e] at h2;exact absurd h2 Mo,by simp at h3;omega,hf,r1,r2⟩
def Zv.fa (a:Zv):Fa where
 n:=a.next.length
 m:=2^a.lines.toNat
 nx s x:=((a.next.getD s (true,[])).2.getD x 0).toNat
 fr s x:=(a.ZW.getD s (true,[])).2.getD x false
def Y' {A:Type}{l:List A}{d:A}(h:i<l.length):l.getD i d=l[i]:=by
 rw[ap6,aaa h];rfl
def Zv.ok.UU {a:Zv}(h:a.ok):a.fa.ok:=by
 refine⟨h.pos,λs x hs hx=>?_⟩;have hs:s<a.next.length:=hs;have hx:x<2^a.lines.toNat:=hx;obtain⟨r1,r2⟩:=h.row s hs;show ((a.next.getD s (true,[])).2.getD x 0).toNat<a.next.length;rw[Y' hs,Y' (show x<a.next[s].2.length by omega)];have:=r2 _ (adm (show x<a.next[s].2.length by omega));omega
def Zv.ok.mM {a:Zv}(h:a.ok){s x:Nat}(hs:s<a.next.length)(hx:x<2^a.lines.toNat):UJ 1 (ZU a.next[s].1 (ints a.next[s].2)) (.int .i64 (x:Int))=some (.fp [.int .i64 ((a.fa.nx s x:Nat):Int)] 0):=by
 obtain⟨r1,r2⟩:=h.row s hs;have L7:x<a.next[s].2.length:=J;rw[Rh L7];have e:a.fa.nx s x=(a.next[s].2[x]).toNat:=by
  show ((a.next.getD s (true,[])).2.getD x 0).toNat=_;rw[Y' hs,Y' L7]
 have:=r2 _ (adm L7);rw[e,Int.toNat_of_nonneg this.1]
def Zv.ok.aaZ {a:Zv}(h:a.ok){s x:Nat}(hs:s<a.next.length)(hx:x<2^a.lines.toNat):UJ 1 (ZU (a.ZW[s]'(by rw[h.fl];exact hs)).1 (Zt (a.ZW[s]'(by rw[h.fl];exact hs)).2)) (.int .i64 (x:Int))=some (.fp [.bool (a.fa.fr s x)] 0):=by
 have LP:s<a.ZW.length:=by rw[h.fl];exact hs
 have r1:=h.Wh s LP;have L7:x<a.ZW[s].2.length:=J;rw[MT L7];have e:a.fa.fr s x=a.ZW[s].2[x]:=by
  show (a.ZW.getD s (true,[])).2.getD x false=_;rw[Y' LP,Y' L7]
 rw[e]
def ez (m:Nat)(l:List Int):Prop:=l.length<=4096/\∀x∈l,0<=x/\x<(m:Int)
def WL (l:List Int)(t:Nat):Nat:=(l.getD t 0).toNat
def abi {m:Nat}{l:List Int}(h:ez m l){nl:Bool}{t:Nat}(ht:t<l.length):UJ 1 (ZU nl (ints l)) (.int .i64 (t:Int))=some (.fp [.int .i64 ((WL l t:Nat):Int)] 0)/\WL l t<m:=by
 rw[Rh ht];have e:WL l t=(l[t]).toNat:=by unfold WL;rw[ap6,aaa ht];rfl
 have:=h.2 _ (adm ht);rw[e,Int.toNat_of_nonneg this.1];exact⟨rfl,J⟩
def IS (A:Fa)(l:List Int):Nat->Nat->Nat->List Int×Nat
 |0,_,s=>([],s)
 |r+1,t,s=>(bif A.fr s (WL l t) then (t:Int)::(IS A l r (t+1) (A.nx s (WL l t))).1 else (IS A l r (t+1) (A.nx s (WL l t))).1,(IS A l r (t+1) (A.nx s (WL l t))).2)
def Zv.ok.m16 {a:Zv}(ha:a.ok):2^a.lines.toNat<=65536:=by have:=Rj a.lines (by have:=ha.lines;omega);have:=M6 a.lines;unfold zk at this;omega
def Ur (l:List Nat):List Int:=l.map λk:Nat=>(k:Int)
def Zz (l:List Nat):List AV:=ints (Ur l)
def VG (l:List Nat):(Ur l).length=l.length:=by simp[Ur]
def Wd (l:List Nat):(Zz l).length=l.length:=by rw[Zz,YB,VG]
def XY {l:List Nat}{i:Nat}(h:i<l.length):(Zz l)[i]? = some (.int .i64 ((gt l i:Nat):Int)):=by
 rw[Zz,Ru,Ur,aqc,aaa h,Sy h];rfl
def Vu {l:List Nat}(k:Nat)(h:i<l.length):lay i [.int .i64 (k:Int)] (Zz l)=some (Zz (l.set i k)):=by
 rw[Kt _ _ _ (by rw[Wd];exact h)];simp[Zz,ints,Ur,List.map_set]
def JW (l:List Nat)(k:Nat):Zz l++[.int .i64 (k:Int)]=Zz (l++[k]):=by simp[Zz,ints,Ur]
def Al (a b:Bool):Xj U .eql 4 false (.bool a) (.bool b)=some (.bool (a==b)):=by cases a <;> cases b <;> kernel_rfl
def ahW (a b:Nat):((a:Int)==(b:Int))=(a==b):=by rw[aqI];simp;omega
def ow {b d n:Nat}{cap:Option Nat}(hL:L.length=n)(hg:s.get b=some (.cells (Zz L) 3 false 0 0)):Ya U s (d+2) (.sl b 0 n cap 1)=some (.fz (Zz L)):=by
 have:=J0 (d:=d) (cap:=cap) hg;rw[VG,hL] at this;exact this
def BL {l:List Nat}{i:Nat}(h:i<l.length):UJ 1 (.fz (Zz l)) (.int .i64 (i:Int))=some (.fp [.int .i64 ((gt l i:Nat):Int)] 0):=by
 have:=Rh (nl:=false) (l:=Ur l) (i:=i) (by rw[VG];exact h);rw[Ta] at this;rw[Zz,this];simp[Ur,Sy h]
def Wh (A:Fa)(q:Nat):List Bool:=(List.range A.m).map (A.fr q)
def PC (A:Fa)(q:Nat):(Wh A q).length=A.m:=by simp[Wh]
def oD (A:Fa)(q:Nat){x:Nat}(h:x<A.m):(Wh A q)[x]'(by rw[PC];exact h)=A.fr q x:=by simp[Wh]
def ZD.af9 {B:Nat}(h:ZD s B t 1 i cs v)(hB:B<=s.next)(x:AV)(hx:Go.Am.Zu x=true) :
  ∃s1,PF t 1 1 [x] v s=some (.sl s.next 0 (i+1) none 1,s1)/\s1.next=s.next+1/\ZD s1 B t 1 (i+1) (cs++[x]) (.sl s.next 0 (i+1) none 1) /\
   (∀j c t' lo hi,s.get j=some (.cells c t' false lo hi)->j<s.next->t'≠t->s1.get j=some (.cells c t' false lo hi))/\(∀j,j<B->s1.get j=s.get j)/\(Fr s->Fr s1):=by
 obtain⟨s1,a1,a2,a3,a4,a5⟩:=h.FA hB (m:=1) (new:=[x]) J rfl (by simp[hx]);exact⟨s1,a1,a2,a3,λj c t' lo hi hj YA ZB=>by rw[a4 j J (h.other hj ZB),hj],λj hj=>a4 j J (h.xQ (.inr hj)),a5⟩
def ZD.So {s s':St}{B:Nat}(h:ZD s B t 1 i cs v)(hn:s.next<=s'.next)(hg:∀j c,s.get j=some (.cells c t false 0 0)->j<s.next->B<=j->s'.get j=some (.cells c t false 0 0)):ZD s' B t 1 i cs v:=by
 rcases h with⟨h0,h1,h2⟩|⟨h0,h1,b,h2,h3,h4,h5⟩
 ·exact .inl ⟨h0,h1,h2⟩
 ·exact .inr ⟨h0,h1,b,h2,J,h4,hg b _ h5 h3 h2⟩
def ay (s:St)(b:Nat)(t:TypeId)(c:AV)(l:List AV):Prop:=∃j,c=.sl j 0 l.length (some l.length) 1/\j<s.next/\j≠b/\12<=j/\s.get j=some (.cells l t false 0 0)
def ay.mono {s s':St}{b b':Nat}{c:AV}{l:List AV}(h:ay s b t c l)(hn:s.next<=s'.next)(hb:∀j,j<s.next->j≠b->j≠b')(hg:∀j,j<s.next->j≠b->12<=j->s.get j=some (.cells l t false 0 0)->s'.get j=some (.cells l t false 0 0)):ay s' b' t c l:=by
 obtain⟨j,h1,h2,h3,h4,h5⟩:=h;exact⟨j,h1,J,hb j h2 h3,h4,hg j h2 h3 h4 h5⟩
def ay.Ya {b d:Nat}{c:AV}{l:List AV}(h:ay s b t c l)(Dl:Ys U t=some false)(Vt:size U t=some 1)(Pq:l.all Zu=true)(hf:YS (Go.Am.Ya U s d) l=some l):Go.Am.Ya U s (d+1) c=some (.fz l):=by
 obtain⟨j,rfl,_,_,_,h5⟩:=h;rw[Uw,h5,Xo,ap3,VA,Dl,Vt,U0,Of Pq,UK,hf,S9]
def RM {A:Type}{f:AV->Option AV}{g:A->AV}:∀{cs:List AV} {rs:List A},cs.length=rs.length->(∀j (h:j<cs.length) (h':j<rs.length),f cs[j]=some (g rs[j]))->YS f cs=some (rs.map g)
 |[],[],_,_=>rfl
 |c::cs,r::rs,hl,h=>by
  have h0:=h 0 No No;simp only[List.getElem_cons_zero] at h0;have ih:=RM (f:=f) (g:=g) (cs:=cs) (rs:=rs) (by simpa using hl) λj h1 h2=>by
   have:=h (j+1) (by simpa using h1) (by simpa using h2)
   simpa using this
  rw[XT,h0,ih,aqe];rfl
 |[],_::_,hl,_=>by simp at hl
 |_::_,[],hl,_=>by simp at hl
def ZS (a:Zv):Zv:={ lines:=a.lines,Xb:=true,next:=(VJ a.fa).map (λx=>(false,Ur x.2)),WG:=true,ZW:=(VJ a.fa).map (λx=>(false,Wh a.fa x.1)) }
noncomputable def JV:RC:=(sO [Y_ 40 3 39 38] (sQ (cS 40 (.exit 2)) (sQ (.block 3 (sO [Zq 41 1 37 39,ZX 42 41,om 10 42] (sO [om 44 4,om 45 3,om 46 10,Zq 47 1 45 46,ZX 48 47,o 49 (.raw (.lookup 204 (.tmp 44) (.tmp 48) true)),om 43 49,YN 50 43 0,YN 51 43 1,om 11 50,om 12 51] (sQ (sO [om 52 12,WU 53 52] (cT 53 (sO [om 54 5,Za 55 54,om 11 55] (sO [om 56 4,om 57 3,om 58 10,Zq 59 1 57 58,ZX 60 59,om 61 11,eK 204 56 60 61] (oP [om 62 5,om 63 10,PE 64 3 1 1 0 0 1 63,VN 65 3 1 8 62 64,om 5 65]))))) (oP [om 66 8,om 67 11,PE 68 3 1 1 0 0 1 67,VN 69 3 1 8 66 68,om 8 69]))))) (oP [YM 70 3 39 1,om 39 70]))))
noncomputable def rZ:Code:=JU 63 0
def aeZ:OH U rZ=some (22,[(o 71 (.fa 1 (.t 6)),none),
 (o 72 (.Sr (.t 71)),none),
 (om 73 8,none),
 (⟨some 74,none,some 3,false,.Uc 48 1 1 [.ZQ] [(0,1,(.t 73))]⟩,none),
 (⟨some 75,none,none,true,.app 48 1 24 (.t 72) (.t 74)⟩,none),
 (o 76 (.fa 2 (.t 6)),none),
 (o 77 (.Sr (.t 76)),some (0,2)),
 (o 78 (.fa 2 (.t 1)),none),
 (o 79 (.Sr (.t 78)),some (0,1)),
 (om 80 5,none),
 (om 81 7,none),
 (o 82 (.FI 1 (.t 80) (.t 81)),none),
 (o 83 (.Sr (.t 82)),some (0,1)),
 (o 84 (.FI 1 (.t 79) (.t 83)),none),
 (o 85 (.Sr (.t 84)),some (0,1)),
 (⟨some 86,none,none,true,.call 131 [(.t 85)]⟩,none),
 (⟨some 87,none,some 16,false,.Uc 72 1 1 [.ZQ] [(0,1,(.t 86))]⟩,none),
 (⟨some 88,none,none,true,.app 72 1 24 (.t 77) (.t 87)⟩,none),
 (o 89 (.fa 1 (.t 6)),none),
 (⟨none,none,none,true,.st 1 (.t 89) (.t 75)⟩,none),
 (o 90 (.fa 2 (.t 6)),none),
 (⟨none,none,none,true,.st 1 (.t 90) (.t 88)⟩,none)]):=It
noncomputable def GL:RC:=(sQ (sO [om 24 7,om 25 5,Za 26 25,Y_ 27 3 24 26] (cS 27 (.exit 0))) (sQ (.block 1 (sO [XF 8] (sQ (sQ (.Uu 10 [ZO 30 1 1,ZX 31 30,om 32 5,om 33 7,Zq 34 1 32 33,ZX 35 34,Zq 36 1 31 35,ZX 37 36,Za 38 37,ZA 39 0]) (.block 2 (.loop JV))) (.raw rZ)))) (oP [om 28 7,YM 29 3 28 1,om 7 29])))
noncomputable def aiY:RC:=(sO [YL 1 42 0,RQ 2 0 42] (sO [Zw 13 3 1,Zk 14 130 13,om 3 14] (sO [BY 15 204,om 16 3,o 17 (.FI 1 (.t 16) (vI 0)),ZX 18 17,oS (.raw (.insert 204 (.tmp 15) (.tmp 18) (.const (.int .i64 0)))),om 19 15,om 4 19] (sO [o 20 (.Uc 3 1 1 [(iI 0)] [(0,1,(vI 0))]),om 5 20] (sO [ZO 21 0 1,ZX 22 21,o 23 (.RR [(iI 0),.ZQ,.ZQ] [(0,1,(.t 22))]),RQ 6 0 42,YC 3 6 23] (sQ (sO [ZA 7 0] (.block 0 (.loop GL))) (sO [Zw 91 3 6,YC 3 2 91] .ret)))))))
def am3:Zm 63=some ([.cell 2 42],aiY):=It
noncomputable def dY:Code:=JU 130 0
def f_:OH U dY=some (23,[(om 47 4,none),
 (om 48 5,none),
 (o 49 (.FI 1 (.t 47) (.t 48)),none),
 (o 50 (.Sr (.t 49)),some (0,1)),
 (om 51 7,none),
 (om 52 5,none),
 (o 53 (.FI 1 (.t 51) (.t 52)),none),
 (o 54 (.Sr (.t 53)),some (0,1)),
 (om 55 4,none),
 (om 56 5,none),
 (o 57 (.FI 1 (.t 55) (.t 56)),none),
 (o 58 (.Sr (.t 57)),none),
 (om 59 7,none),
 (om 60 5,none),
 (o 61 (.FI 1 (.t 59) (.t 60)),none),
 (o 62 (.Sr (.t 61)),none),
 (o 63 (.FI 1 (.t 58) (.t 62)),none),
 (o 64 (.Sr (.t 63)),none),
 (om 65 6,none),
 (⟨some 66,none,some 19,false,.Uc 3 1 1 [(.int .i64 0)] [(0,1,(.t 65))]⟩,none),
 (⟨some 67,none,none,true,.app 3 1 8 (.t 64) (.t 66)⟩,none),
 (o 68 (.FI 1 (.t 50) (.t 54)),none),
 (⟨none,none,none,true,.st 1 (.t 68) (.t 67)⟩,none)]):=It
noncomputable def Ks:RC:=(sO [Y_ 43 3 42 41] (sQ (cS 43 (.exit 2)) (sQ (.block 3 (sO [om 44 42,Zq 45 1 40 42,ZX 46 45,om 6 44,om 7 46] (.raw dY))) (oP [YM 69 3 42 1,om 42 69]))))
noncomputable def GK:RC:=(sO [Y_ 30 3 29 28] (sQ (cS 30 (.exit 0)) (sQ (.block 1 (sO [om 31 29,om 5 31] (sO [om 32 4,om 33 5,ZO 34 1 1,ZX 35 34,Za 36 35,o 37 (.raw (.makeSlice 39 (.tmp 36) (.tmp 36))),Zq 38 1 32 33,YC 1 38 37] (sO [ZO 39 1 1,ZX 40 39,Za 41 40,ZA 42 0] (.block 2 (.loop Ks)))))) (oP [YM 70 3 29 1,om 29 70]))))
noncomputable def GJ:RC:=(sO [Y_ 77 3 76 75] (sQ (cS 77 (.exit 4)) (sQ (.block 5 (sO [om 78 76,om 9 78] (oP [om 79 8,om 80 9,PE 81 3 1 1 0 0 1 80,VN 82 3 1 8 79 81,om 8 82]))) (oP [YM 83 3 76 1,om 76 83]))))
noncomputable def Kr:RC:=(sO [Y_ 138 3 137 136] (sQ (cS 138 (.exit 12)) (sQ (.block 13 (sO [Zq 139 1 135 137,ZX 140 139,om 17 140] (sO [om 141 3,om 142 17,YU 143 171 141 142] (cT 143 (oP [om 144 13,om 145 3,X5 146 145,ZO 147 2 146,ZX 148 147,om 149 17,Zq 150 1 148 149,ZX 151 150,PE 152 3 1 1 0 0 1 151,VN 153 3 1 8 144 152,om 13 153]))))) (oP [YM 154 3 137 1,om 137 154]))))
noncomputable def GI:RC:=(sO [Y_ 126 3 125 124] (sQ (cS 126 (.exit 10)) (sQ (.block 11 (sO [Zq 127 1 123 125,ZX 128 127,om 15 128] (sO [om 129 4,om 130 12,Zq 131 1 129 130,ZX 132 131,om 133 15,Zq 134 1 132 133,ZX 135 134,Za 136 135,ZA 137 0] (.block 12 (.loop Kr))))) (oP [YM 155 3 125 1,om 125 155]))))
noncomputable def JT:RC:=(sO [Y_ 159 3 158 157] (sQ (cS 159 (.exit 14)) (sQ (.block 15 (sO [Zq 160 1 156 158,ZX 161 160,om 19 161] (sO [om 162 3,om 163 19,YU 164 172 162 163,om 20 164] (sO [om 165 20,Fb 166 3 165 0] (cT 166 (oP [om 167 8,om 168 20,PE 169 3 1 1 0 0 1 168,VN 170 3 1 8 167 169,om 8 170])))))) (oP [YM 171 3 158 1,om 158 171]))))
noncomputable def G8:RC:=(sO [Y_ 121 3 120 119] (sQ (cS 121 (.exit 8)) (sQ (.block 9 (sO [om 122 120,om 12 122] (sO [XF 13] (sQ (sO [om 123 11,Za 124 123,ZA 125 0] (.block 10 (.loop GI))) (sO [om 156 13,Za 157 156,ZA 158 0] (.block 14 (.loop JT))))))) (oP [YM 172 3 120 1,om 120 172]))))
noncomputable def GH:RC:=(sQ (sO [om 84 8,Za 85 84,Wx 86 3 85 0] (cS 86 (.exit 6))) (.block 7 (sO [om 87 8,om 88 8,Za 89 88,Wy 90 3 89 1,Zq 91 1 87 90,ZX 92 91,om 10 92] (sO [om 93 8,om 94 8,Za 95 94,Wy 96 3 95 1,o 97 (.sll 1 (.t 93) none (some (.t 96))),om 8 97] (sQ (.Uu 21 [om 98 3,X5 99 98,ZO 100 0 99,ZX 101 100,om 102 3,X5 103 102,ZO 104 3 103,ZX 105 104,om 106 10,Zq 107 1 105 106,ZX 108 107,om 109 3,X5 110 109,ZO 111 4 110,ZX 112 111,om 113 10,Zq 114 1 112 113,ZX 115 114,o 116 (.sll 1 (.t 101) (some (.t 108)) (some (.t 115))),⟨some 117,none,none,true,.call 170 [(.t 116)]⟩,om 11 117]) (sO [om 118 4,Za 119 118,ZA 120 0] (.block 8 (.loop G8))))))))
noncomputable def aiZ:RC:=(sO [YL 1 42 0,XF 2] (sO [Zw 21 3 1,Zk 22 169 21,om 3 22] (sO [ZO 23 0 1,ZX 24 23,Oc 25 3 1 24,o 26 (.raw (.makeSlice 259 (.tmp 25) (.tmp 25))),om 4 26] (sQ (sO [om 27 4,Za 28 27,ZA 29 0] (.block 0 (.loop GK))) (sO [XF 8] (sQ (sO [om 71 3,X5 72 71,ZO 73 3 72,ZX 74 73,Za 75 74,ZA 76 0] (.block 4 (.loop GJ))) (sQ (.block 6 (.loop GH)) (sO [om 173 3,X5 174 173,ZO 175 2 174,ZX 176 175,om 2 176] .ret))))))))
def am4:Zm 130=some ([.tmp 2],aiZ):=It
noncomputable def dX:Code:=JU 169 0
def ae0:OH U dX=some (11,[(o 16 (.fa 1 (.t 1)),none),
 (o 17 (.Sr (.t 16)),none),
 (o 18 (.QE (.t 17)),none),
 (⟨some 19,none,some 3,false,.raw (.makeSlice 48 (.tmp 18) (.tmp 18))⟩,none),
 (o 20 (.fa 1 (.t 1)),none),
 (o 21 (.Sr (.t 20)),some (0,0)),
 (o 22 (.QE (.t 21)),some (0,0)),
 (⟨some 23,none,some 7,false,.raw (.makeSlice 48 (.tmp 22) (.tmp 22))⟩,none),
 (o 24 (.RR [.ZQ,.ZQ,.ZQ,.ZQ,.ZQ,.ZQ] [(1,1,(.t 19)),(2,1,(.t 23))]),none),
 (⟨some 25,none,some 9,false,.box 261 (.t 24)⟩,none),
 (om 3 25,none)]):=It
noncomputable def GX:RC:=(sO [Y_ 38 3 37 36] (sQ (cS 38 (.exit 2)) (sQ (.block 3 (sO [Zq 39 1 35 37,ZX 40 39,om 10 40] (oP [om 41 10,Zk 42 215 41,YU 43 79 8 42]))) (oP [YM 44 3 37 1,om 37 44]))))
noncomputable def GG:RC:=(sO [Y_ 31 3 30 29] (sQ (cS 31 (.exit 0)) (sQ (.block 1 (sO [om 32 30,Zq 33 1 28 30,ZX 34 33,om 6 32,om 7 34] (sO [o 8 (.al [.U4,.ZQ] 150)] (sQ (sO [om 35 7,Za 36 35,ZA 37 0] (.block 2 (.loop GX))) (sO [Zk 45 81 8,om 11 45] (sQ (sO [om 46 4,om 47 11,BX 48 286 46 47,Za 49 48,Wq 50 3 49 0] (cT 50 (oP [om 51 5,om 52 11,o 53 (.Uc 9 1 1 [(.str [])] [(0,1,(.t 52))]),VN 54 9 1 16 51 53,om 5 54]))) (oP [om 55 4,om 56 11,om 57 4,om 58 11,BX 59 286 57 58,om 60 6,PE 61 3 1 1 0 0 1 60,VN 62 3 1 8 59 61,eK 286 55 56 62]))))))) (oP [YM 63 3 30 1,om 30 63]))))
noncomputable def rY:Code:=JU 169 1
def ae1:OH U rY=some (25,[(om 71 3,none),
 (om 72 3,none),
 (om 73 3,none),
 (o 74 (.raw (.nilCheck (.tmp 73))),none),
 (o 75 (.fa 3 (.t 74)),none),
 (o 76 (.Sr (.t 75)),none),
 (om 77 3,none),
 (o 78 (.raw (.nilCheck (.tmp 77))),none),
 (o 79 (.fa 0 (.t 78)),none),
 (o 80 (.Sr (.t 79)),none),
 (o 81 (.QE (.t 80)),none),
 (⟨some 82,none,some 11,false,.Uc 3 1 1 [(.int .i64 0)] [(0,1,(.t 81))]⟩,none),
 (⟨some 83,none,none,true,.app 3 1 8 (.t 76) (.t 82)⟩,none),
 (om 84 3,none),
 (o 85 (.raw (.nilCheck (.tmp 84))),none),
 (o 86 (.fa 5 (.t 85)),none),
 (o 87 (.Sr (.t 86)),some (0,1)),
 (⟨some 88,none,some 17,false,.Uc 3 1 1 [(.int .i64 0)] [(0,1,(.v (.int .i64 0)))]⟩,none),
 (⟨some 89,none,none,true,.app 3 1 8 (.t 87) (.t 88)⟩,none),
 (o 90 (.raw (.nilCheck (.tmp 71))),none),
 (o 91 (.fa 3 (.t 90)),none),
 (⟨none,none,none,true,.st 1 (.t 91) (.t 83)⟩,none),
 (o 92 (.raw (.nilCheck (.tmp 72))),none),
 (o 93 (.fa 5 (.t 92)),none),
 (⟨none,none,none,true,.st 1 (.t 93) (.t 89)⟩,none)]):=It
noncomputable def JS:RC:=(sO [Y_ 99 3 98 97] (sQ (cS 99 (.exit 6)) (sQ (.block 7 (sO [Zq 100 1 96 98,ZX 101 100,om 15 101] (sQ (.Uu 20 [om 102 3,X5 103 102,ZO 104 1 103,ZX 105 104,om 106 15,om 107 3,X5 108 107,ZO 109 2 108,ZX 110 109,om 111 15,om 112 3,X5 113 112,ZO 114 0 113,ZX 115 114,Za 116 115,om 117 12,Zq 118 1 105 106,⟨none,none,none,true,.st 1 (.t 118) (.t 116)⟩,Zq 119 1 110 111,⟨none,none,none,true,.st 1 (.t 119) (.t 117)⟩]) (oP [om 120 3,om 121 3,X5 122 121,ZO 123 0 122,ZX 124 123,om 125 15,PE 126 3 1 1 0 0 1 125,VN 127 3 1 8 124 126,X5 128 120,ZO 129 0 128,YC 1 129 127])))) (oP [YM 130 3 98 1,om 98 130]))))
noncomputable def GY:RC:=(sO [Y_ 67 3 66 65] (sQ (cS 67 (.exit 4)) (sQ (.block 5 (sO [om 68 66,Zq 69 1 64 66,ZX 70 69,om 12 68,om 13 70] (sQ (.raw rY) (sQ (sO [om 94 4,om 95 13,BX 96 286 94 95,Za 97 96,ZA 98 0] (.block 6 (.loop JS))) (.Uu 15 [om 131 3,om 132 3,X5 133 132,ZO 134 4 133,ZX 135 134,om 136 3,X5 137 136,ZO 138 0 137,ZX 139 138,Za 140 139,⟨some 141,none,some 10,false,.Uc 3 1 1 [(iI 0)] [(0,1,(.t 140))]⟩,⟨some 142,none,none,true,.app 3 1 8 (.t 135) (.t 141)⟩,X5 143 131,ZO 144 4 143,⟨none,none,none,true,.st 1 (.t 144) (.t 142)⟩]))))) (oP [YM 145 3 66 1,om 66 145]))))
noncomputable def ae2:RC:=(sO [YL 1 42 0,o 2 (.Qq (.v .U4))] (sQ (.raw dX) (sO [BY 26 286,om 4 26] (sO [XF 5] (sQ (sO [ZO 27 2 1,ZX 28 27,Za 29 28,ZA 30 0] (.block 0 (.loop GG))) (sQ (sO [om 64 5,Za 65 64,ZA 66 0] (.block 4 (.loop GY))) (sO [om 146 3,om 2 146] .ret)))))))
def am5:Zm 169=some ([.tmp 2],ae2):=It
noncomputable def dW:Code:=JU 172 0
def dV:OH U dW=some (32,[(om 84 0,none),
 (om 85 0,none),
 (om 86 0,none),
 (om 87 0,none),
 (o 88 (.raw (.nilCheck (.tmp 87))),none),
 (o 89 (.fa 3 (.t 88)),none),
 (o 90 (.Sr (.t 89)),none),
 (om 91 7,none),
 (⟨some 92,none,some 8,false,.Uc 3 1 1 [(.int .i64 0)] [(0,1,(.t 91))]⟩,none),
 (⟨some 93,none,none,true,.app 3 1 8 (.t 90) (.t 92)⟩,none),
 (om 94 0,none),
 (o 95 (.raw (.nilCheck (.tmp 94))),none),
 (o 96 (.fa 4 (.t 95)),none),
 (o 97 (.Sr (.t 96)),some (0,1)),
 (om 98 8,none),
 (⟨some 99,none,some 15,false,.Uc 3 1 1 [(.int .i64 0)] [(0,1,(.t 98))]⟩,none),
 (⟨some 100,none,none,true,.app 3 1 8 (.t 97) (.t 99)⟩,none),
 (om 101 0,none),
 (o 102 (.raw (.nilCheck (.tmp 101))),none),
 (o 103 (.fa 5 (.t 102)),none),
 (o 104 (.Sr (.t 103)),some (0,2)),
 (⟨some 105,none,some 21,false,.Uc 3 1 1 [(.int .i64 0)] [(0,1,(.v (.int .i64 0)))]⟩,none),
 (⟨some 106,none,none,true,.app 3 1 8 (.t 104) (.t 105)⟩,none),
 (o 107 (.raw (.nilCheck (.tmp 84))),none),
 (o 108 (.fa 3 (.t 107)),none),
 (⟨none,none,none,true,.st 1 (.t 108) (.t 93)⟩,none),
 (o 109 (.raw (.nilCheck (.tmp 85))),none),
 (o 110 (.fa 4 (.t 109)),none),
 (⟨none,none,none,true,.st 1 (.t 110) (.t 100)⟩,none),
 (o 111 (.raw (.nilCheck (.tmp 86))),none),
 (o 112 (.fa 5 (.t 111)),none),
 (⟨none,none,none,true,.st 1 (.t 112) (.t 106)⟩,none)]):=It
noncomputable def JR:RC:=(sO [Y_ 122 3 121 120] (sQ (cS 122 (.exit 0)) (sQ (.block 1 (sO [Zq 123 1 119 121,ZX 124 123,om 10 124] (.Uu 13 [om 125 0,X5 126 125,ZO 127 2 126,ZX 128 127,om 129 10,om 130 0,X5 131 130,ZO 132 3 131,ZX 133 132,Za 134 133,Wy 135 3 134 1,Zq 136 1 128 129,⟨none,none,none,true,.st 1 (.t 136) (.t 135)⟩]))) (oP [YM 137 3 121 1,om 121 137]))))
noncomputable def dU:RC:=(sO [ZA 4 0] (sQ (.Uu 24 [om 11 0,X5 12 11,ZO 13 5 12,ZX 14 13,om 15 1,Zq 16 1 14 15,ZX 17 16,om 18 0,X5 19 18,ZO 20 4 19,ZX 21 20,om 22 1,Zq 23 1 21 22,ZX 24 23,om 25 0,X5 26 25,ZO 27 3 26,ZX 28 27,om 29 1,Zq 30 1 28 29,ZX 31 30,L4 32 3 24 31,om 5 17,om 6 32]) (sO [om 33 0,X5 34 33,ZO 35 5 34,ZX 36 35,om 37 1,Zq 38 1 36 37,oS (.st 1 (.t 38) (vI 0))] (sQ (sO [om 39 5,om 40 6,F' 41 3 39 40] (cT 41 (sO [o 4 (.Qq (vI (-1)))] .ret))) (sQ (.Uu 18 [om 42 0,X5 43 42,ZO 44 3 43,ZX 45 44,om 46 1,Zq 47 1 45 46,ZX 48 47,om 49 0,X5 50 49,ZO 51 3 50,ZX 52 51,om 53 1,Zq 54 1 52 53,ZX 55 54,om 56 5,UT 57 3 55 56,om 7 48,om 8 57]) (sQ (sO [om 58 5,o 59 (.bin .mul 3 true (vI 2) (.t 58)),om 60 6,o 61 (.bin .gtr 3 false (.t 59) (.t 60))] (cO 61 (sQ (.Uu 10 [om 62 8,om 63 0,X5 64 63,ZO 65 4 64,ZX 66 65,om 67 1,Zq 68 1 66 67,ZX 69 68,om 7 62,om 8 69]) (oP [om 70 0,X5 71 70,ZO 72 4 71,ZX 73 72,om 74 1,om 75 7,Zq 76 1 73 74,YC 1 76 75])) (oP [om 77 0,X5 78 77,ZO 79 3 78,ZX 80 79,om 81 1,om 82 8,Zq 83 1 80 81,YC 1 83 82]))) (sQ (.raw dW) (sQ (sO [om 113 0,X5 114 113,ZO 115 0 114,ZX 116 115,om 117 7,om 118 8,o 119 (.sll 1 (.t 116) (some (.t 117)) (some (.t 118))),Za 120 119,ZA 121 0] (.block 0 (.loop JR))) (sO [om 138 0,X5 139 138,ZO 140 3 139,ZX 141 140,Za 142 141,Wy 143 3 142 1,om 4 143] .ret)))))))))
def am6:Zm 172=some ([.tmp 4],dU):=It
structure KY (s:St)(pb n bl bp bs bb be bm:Nat)(p:Pt):Prop where
 g:s.get pb=some (.cells [.sl bl 0 p.list.length none 1,.sl bp 0 p.place.length (some n) 1,.sl bs 0 p.set.length (some n) 1,.sl bb 0 p.bg.length none 1,.sl be 0 p.en.length none 1,.sl bm 0 p.mr.length none 1] 261 false 0 0)
 gl:s.get bl=some (.cells (Zz p.list) 3 false 0 0)
 gp:s.get bp=some (.cells (Zz p.place) 3 false 0 0)
 gs:s.get bs=some (.cells (Zz p.set) 3 false 0 0)
 gb:s.get bb=some (.cells (Zz p.bg) 3 false 0 0)
 ge:s.get be=some (.cells (Zz p.en) 3 false 0 0)
 gm:s.get bm=some (.cells (Zz p.mr) 3 false 0 0)
 ne:[pb,bl,bp,bs,bb,be,bm].Nodup
 lt:∀j∈[pb,bl,bp,bs,bb,be,bm],j<s.next
def KY.mono {s s':St}{pb n bl bp bs bb be bm:Nat}{p:Pt}(h:KY s pb n bl bp bs bb be bm p)(hn:s.next<=s'.next)(hg:∀j∈[pb,bl,bp,bs,bb,be,bm],s'.get j=s.get j):KY s' pb n bl bp bs bb be bm p :=
 ⟨(hg _ No).trans h.g,(hg _ No).trans h.gl,(hg _ No).trans h.gp,(hg _ No).trans h.gs,(hg _ No).trans h.gb,(hg _ No).trans h.ge,(hg _ No).trans h.gm,h.ne,λj hj=>Nat.lt_of_lt_of_le (h.lt j hj) hn⟩
structure Ap (pb bl bp bs bb be bm:Nat):Prop where
 n1:pb≠bl
 n2:pb≠bp
 n3:pb≠bs
 n4:pb≠bb
 n5:pb≠be
 n6:pb≠bm
 n7:bl≠bp
 n8:bl≠bs
 n9:bl≠bb
 o9:bl≠be
 lO:bl≠bm
 o8:bp≠bs
 eV:bp≠bb
 n14:bp≠be
 zp:bp≠bm
 o6:bs≠bb
 n17:bs≠be
 n18:bs≠bm
 n19:bb≠be
 uv:bb≠bm
 sF:be≠bm
def Ap.of {pb bl bp bs bb be bm:Nat}(ne:[pb,bl,bp,bs,bb,be,bm].Nodup):Ap pb bl bp bs bb be bm:=by
 simp only[aqW,ap9,List.not_mem_nil,not_or,or_false,List.nodup_nil,and_true] at ne;obtain⟨⟨n1,n2,n3,n4,n5,n6⟩,⟨n7,n8,n9,o9,lO⟩,⟨o8,eV,n14,zp⟩,⟨o6,n17,n18⟩,⟨n19,uv⟩,sF,-⟩:=ne;exact⟨n1,n2,n3,n4,n5,n6,n7,n8,n9,o9,lO,o8,eV,n14,zp,o6,n17,n18,n19,uv,sF⟩
def ac2 (args:List AV)(s:St):Yx U (ZE U 171 args) 171 args s=UN U 171 args s:=(YJ U 171 args s).symm
def adg (args:List AV)(s:St):Yx U (ZE U 172 args) 172 args s=UN U 172 args s:=(YJ U 172 args s).symm
def ahU (args:List AV)(s:St):Yx U (ZE U 169 args) 169 args s=UN U 169 args s:=(YJ U 169 args s).symm
def ahV (s0:St)(pb n bl bp bs bb be bm:Nat)(p:Pt)(v:Bool)(r:Option (AV×St)):Prop :=
 ∃s',r=some (.bool v,s')/\KY s' pb n bl bp bs bb be bm p/\s0.next<=s'.next/\Fr s'/\∀j,j<s0.next->j≠bl->j≠bp->j≠bm->s'.get j=s0.get j
def alu {pb n bl bp bs bb be bm:Nat}{p:Pt}(h:KY s pb n bl bp bs bb be bm p)(hw:p.Wf n)(hn:n<=2^20)(fr:Fr s){u:Nat}(hu:u<n) :
  ahV s pb n bl bp bs bb be bm (p.Wi u).1 (p.Wi u).2 (UN U 171 [.ptr pb 0,.int .i64 (u:Int)] s):=by
 suffices K':ahV s pb n bl bp bs bb be bm (p.Wi u).1 (p.Wi u).2 (go U (Us U [.tmp 4]) [] aa_ (Zr 0 [.ptr pb 0,.int .i64 (u:Int)] .nil) s) by
  obtain⟨s',h1,h2⟩:=K';exact⟨s',Yi al8 It h1,h2⟩
 obtain⟨RX,TB,yX⟩:=hw.st u hu;obtain⟨G0,xh,hk3⟩:=hw.sp _ RX;obtain⟨zl,xR⟩:=hw.pl u hu;obtain⟨g,gl,gp,gs,gb,ge,gm,ne,lt⟩:=h;have nd:=ne;have A:=Ap.of nd;clear ne;have Hm:=hw.ll;have hlp:=hw.lp;have o5:=hw.ls;have hle:=hw.le;have hlm:=hw.lm;have q1:=XY (l:=p.set) (i:=u) J;have q2:=XY (l:=p.place) (i:=u) J;have Pm:=hw.few;have lt':pb<s.next/\bl<s.next/\bp<s.next/\bs<s.next/\bb<s.next/\be<s.next/\bm<s.next:=by
  refine⟨lt _ No,lt _ No,lt _ No,lt _ No,lt _ No,lt _ No,lt _ No⟩
 obtain⟨lt1,lt2,lt3,lt4,lt5,lt6,lt7⟩:=lt';unfold Pt.Wi;generalize hs:gt p.set u=k at *;generalize ha:gt p.place u=x at *;have q3:=XY (l:=p.bg) (i:=k) RX;have q4:=XY (l:=p.mr) (i:=k) J;have hbk:=G0;have w1:IntKind.i64.wrap (((gt p.bg k:Nat):Int)+((gt p.mr k:Nat):Int))=((gt p.bg k+gt p.mr k:Nat):Int):=by
  have:=hw.mr k RX;rw[wrap_i64] <;> omega
 have u1:u<p.set.length:=J;have u2:u<p.place.length:=J;have k2:k<p.mr.length:=J;have Cq:=hw.mr k RX;generalize ht:gt p.bg k+gt p.mr k=t at *
 cases hm:decide (x<t) with
 |true =>
  have hmI:decide ((x:Int)<(t:Int))=true:=by rw[Z9];exact hm
  simp only[go_sem,aa_,g,gp,gs,gb,gm,q1,q2,q3,q4,u1,u2,k2,RX,w1,hmI,ap3];exact⟨_,rfl,KY.mono ⟨g,gl,gp,gs,gb,ge,gm,nd,lt⟩ O0 λj _=>ZR _ _ _,O0,fr.upto J,λj _ _ _ _=>ZR _ _ _⟩
 |false =>
  have hm':¬x<t:=by simpa using hm
  have o4:t<n:=J;have hmI:decide ((x:Int)<(t:Int))=false:=by rw[Z9];exact hm
  obtain⟨Da,IY⟩:=hw.li t o4;have q5:=XY (l:=p.list) (i:=t) J;generalize ho:gt p.list t=o at *;have y1:=Vu (l:=p.list) (i:=x) o J;have y2:=Vu (l:=p.list.set x o) (i:=t) u (by rw[aqH];omega);have y3:=Vu (l:=p.place) (i:=o) x J;have y4:=Vu (l:=p.place.set o x) (i:=u) t (by rw[aqH];omega);have y5:=Vu (l:=p.mr) (i:=k) (gt p.mr k+1) J;have q6:=XY (l:=p.mr.set k (gt p.mr k+1)) (i:=k) (by rw[aqH];omega);rw[TF,Of ⟨rfl,J⟩] at q6;have w2:IntKind.i64.wrap (((gt p.mr k:Nat):Int)+1)=((gt p.mr k+1:Nat):Int):=by rw[wrap_i64] <;> omega
  have e1:(((gt p.mr k+1:Nat):Int)==1)=(gt p.mr k+1==1):=ahW (gt p.mr k+1) 1;have u3:x<p.list.length:=J;have u4:t<p.list.length:=J;have u5:o<p.place.length:=J;have z1:(bl=pb)=False:=eq_false A.n1.symm;have z2:(bl=bp)=False:=eq_false A.n7;have z3:(bl=bm)=False:=eq_false A.lO;have z4:(bp=pb)=False:=eq_false A.n2.symm;have z5:(bp=bm)=False:=eq_false A.zp;have z6:(bm=pb)=False:=eq_false A.n6.symm;simp only[go_sem,aa_,g,gl,gp,gs,gb,gm,q1,q2,q3,q4,q5,q6,u1,u2,u3,u4,u5,k2,RX,w1,w2,hmI,ap3,y1,y2,y3,y4,y5,z1,z2,z3,z4,z5,z6,e1];refine⟨_,rfl,⟨?_,?_,?_,?_,?_,?_,?_,nd,λj hj=>?_⟩,?_,?_,λj h1 h2 h3 h4=>?_⟩
  ·rw[Z7,O3 A.n6.symm,Z7,O3 A.n2.symm,Z7,O3 A.n2.symm,ZR,Z7,O3 A.n1.symm,Z7,O3 A.n1.symm,ZR,ZR,g];simp only[aqH]
  ·rw[Z7,O3 A.lO.symm,Z7,O3 A.n7.symm,Z7,O3 A.n7.symm,ZR,Z7,Of rfl]
  ·rw[Z7,O3 A.zp.symm,Z7,Of rfl]
  ·rw[Z7,O3 A.n18.symm,Z7,O3 A.o8,Z7,O3 A.o8,ZR,Z7,O3 A.n8,Z7,O3 A.n8,ZR,ZR,gs]
  ·rw[Z7,O3 A.uv.symm,Z7,O3 A.eV,Z7,O3 A.eV,ZR,Z7,O3 A.n9,Z7,O3 A.n9,ZR,ZR,gb]
  ·rw[Z7,O3 A.sF.symm,Z7,O3 A.n14,Z7,O3 A.n14,ZR,Z7,O3 A.o9,Z7,O3 A.o9,ZR,ZR,ge]
  ·rw[Z7,Of rfl]
  ·simp only[Z_,Z6];have:=lt j hj;omega
  ·simp only[Z_,Z6];omega
  ·exact (((((((fr.upto J).upto O0).put O0 _).put O0 _).upto O0).put O0 _).put O0 _).put O0 _
  ·rw[Z7,O3 h4.symm,Z7,O3 h3.symm,Z7,O3 h3.symm,ZR,Z7,O3 h2.symm,Z7,O3 h2.symm,ZR,ZR]
def aei:RC:=(sO [ZA 4 0,o 5 (.Qq (.v .Tz))] (sO [om 6 0,Zk 7 147 6] (sO [om 8 0,om 9 0,X5 10 9,ZO 11 1 10,ZX 12 11,om 13 1,VN 14 5 1 1 12 13,X5 15 8,ZO 16 1 15,YC 1 16 14] (sO [om 17 1,Kc 18 17,om 4 18,o 5 (.Qq (.v .Tz))] .ret))))
def ahw:Zm 79=some ([.tmp 4,.tmp 5],aei):=It
def afL:RC:=(sO [EZ 2] (sQ (.Uu 12 [om 3 0,X5 4 3,ZO 5 1 4,ZX 6 5,o 7 (.raw (.call { callee:=.builtin .unsafeSliceData,args:=#[(.tmp 6)],argTypes:=#[148] })),om 8 0,X5 9 8,ZO 10 1 9,ZX 11 10,Za 12 11,⟨some 13,none,none,true,.raw (.call { callee:=.builtin .unsafeString,args:=#[(.tmp 7),(.tmp 12)],argTypes:=#[228,3] })⟩,om 2 13]) .ret))
def ajs:Zm 81=some ([.tmp 2],afL):=It
def ajt:RC:=(sO [EZ 2] (sO [om 3 0,Zk 4 251 3,om 2 4] .ret))
def anR:Zm 215=some ([.tmp 2],ajt):=It
def aju:RC:=(sO [EZ 2] (sQ (sO [om 3 0] (cT 3 (sO [o 2 (.Qq (.v (.str [116,114,117,101])))] .ret))) (sO [o 2 (.Qq (.v (.str [102,97,108,115,101])))] .ret)))
def anS:Zm 251=some ([.tmp 2],aju):=It
def XK (bs:XJ):List AV:=bs.map λc=>.int .u8 c.toNat
def Rt (bs:XJ):(XK bs).length=bs.length:=by simp[XK]
def Kk (bs:XJ):(XK bs).all Zu=true:=by
 induction bs with
 |nil=>rfl
 |cons c l ih=>rw[XK,aqe,List.all_cons];exact ih
def vM (bs:XJ):WW (XK bs)=some bs:=by
 induction bs with
 |nil=>rfl
 |cons c l ih =>
  show WW (.int .u8 c.toNat::XK l)=_;simp only[WW,ih,aqt,UInt8.ofNat_toNat]
def He (s:St)(b:Nat)(bs:XJ):Prop:=∃p v,s.get b=some (.cells [p,v] 150 false 0 0)/\(p=.U4\/p=.ptr b 0)/\b<s.next/\ZD s (b+1) 5 1 bs.length (XK bs) v
def aej (args:List AV)(s:St):Yx U (ZE U 147 args) 147 args s=UN U 147 args s:=(YJ U 147 args s).symm
def fM (args:List AV)(s:St):Yx U (ZE U 79 args) 79 args s=UN U 79 args s:=(YJ U 79 args s).symm
def px (args:List AV)(s:St):Yx U (ZE U 81 args) 81 args s=UN U 81 args s:=(YJ U 81 args s).symm
def acq (args:List AV)(s:St):UN U 147 args s=MG args s:=by
 unfold UN TY;rw[wW];rfl
def aeh {b:Nat}{p v:AV}(hg:s.get b=some (.cells [p,v] 150 false 0 0))(hp:p=.U4\/p=.ptr b 0)(hb:b<s.next) :
  ∃s0,UN U 147 [.ptr b 0] s=some (.XQ [],s0)/\s0.next=s.next/\s0.get b=some (.cells [.ptr b 0,v] 150 false 0 0)/\(∀j,j≠b->s0.get j=s.get j)/\(Fr s->Fr s0):=by
 rw[acq];rcases hp with rfl|rfl
 ·refine⟨s.put b (.cells [.ptr b 0,v] 150 false 0 0),by simp only[MG,hg,if_true],rfl,by rw[Z7,Of rfl],λj hj=>by rw[Z7,O3 J],λh=>h.put hb _⟩
 ·exact⟨s,by simp only[MG,hg,if_true],rfl,hg,λ_ _=>rfl,λh=>h⟩
def Kj (t:XJ)(s:St):VH 1 (.str t) s=some (t.length,XK t):=rfl
def alG {b:Nat}{bs:XJ}(h:He s b bs)(hf:Fr s)(t:XJ)(ht:t≠[])(hlen:bs.length+t.length<=2^39) :
  ∃s' r,UN U 79 [.ptr b 0,.str t] s=some (r,s')/\He s' b (bs++t)/\Fr s'/\s.next<=s'.next/\∀j,j<b->s'.get j=s.get j:=by
 obtain⟨p,v,hg,hp,hb,hv⟩:=h;obtain⟨s0,g1,g2,g3,g4,g5⟩:=aeh hg hp hb;have Oi:=hv.WV;have TV:(bs.length+t.length)*1<=1099511627776:=J;have U5:bs.length+t.length<=1099511627776:=J;have ht0:(t.length=0)=False:=by simp[ht]
 have NO:ZD s0 (b+1) 5 1 bs.length (XK bs) v:=hv.mono J λj hj Dq=>g4 j J
 obtain⟨s1,e1,e2,e3,e4,e5⟩:=NO.app J (m:=t.length) (new:=XK t) (by intro h0;simp[ht] at h0) (by rw[Rt];omega) (Kk t);have kb:=e4 b J;rw[g3] at kb;rw[g2] at e1 e2 e3;refine⟨s1.put b (.cells [.ptr b 0,.sl s.next 0 (bs.length+t.length) none 1] 150 false 0 0),.XQ [.int .i64 t.length,.Tz],?_,⟨.ptr b 0,.sl s.next 0 (bs.length+t.length) none 1,by rw[Z7,Of rfl],.inr rfl,O0,?_⟩,(e5 (g5 hf)).put J _,O0,λj hj=>?_⟩
 ·refine Yi ahw It ?_;simp only[go_sem,aei,aej,g1,g3,Kj,Zx,Oi,U5,Nat.reducePow,Rt,ht0,ap3,not_false_eq_true];rw[e1];simp only[go_sem,kb]
 ·have hl:(bs++t).length=bs.length+t.length:=by simp
  rw[hl];have tV:XK (bs++t)=XK bs++XK t:=by simp[XK]
  rw[tV];exact e3.mono O0 λj hj _=>by rw[Z7,O3 J]
 ·rw[Z7,O3 J,e4 j J,g4 j J]
def sdK (v:Option AV)(s:St):Option (AV×St):=match v with
 |some .ZQ=>some (.U4,s)
 |some (.sl b o (_+1) _ _)=>some (.ptr b o,s)
 |_=>none
def afQ (ex:Ex)(e:Env)(s:St)(x:Operand)(ts:Array TypeId):Yn U ex e (.call { callee:=.builtin .unsafeSliceData,args:=#[x],argTypes:=ts }) s=sdK (eval U e x) s:=by
 have h:Yn U ex e (.call { callee:=.builtin .unsafeSliceData,args:=#[x],argTypes:=ts }) s=match Vx U e [x] with
  |some vs=>XX U .unsafeSliceData ts vs s
  |none=>none:=rfl
 rw[h];simp only[Vx]
 cases eval U e x with
 |none=>rfl
 |some v =>
  cases v <;> try rfl
  rename_i b o n c z
  cases n <;> rfl
noncomputable def usK (ts:Array TypeId)(p n:Option AV)(s:St):Option (AV×St):=match p,n with
 |some p,some n=>XX U .unsafeString ts [p,n] s
 |_,_=>none
def afR (ex:Ex)(e:Env)(s:St)(x y:Operand)(ts:Array TypeId):Yn U ex e (.call { callee:=.builtin .unsafeString,args:=#[x,y],argTypes:=ts }) s=usK ts (eval U e x) (eval U e y) s:=by
 have h:Yn U ex e (.call { callee:=.builtin .unsafeString,args:=#[x,y],argTypes:=ts }) s=match Vx U e [x,y] with
  |some vs=>XX U .unsafeString ts vs s
  |none=>none:=rfl
 rw[h];simp only[Vx]
 cases eval U e x with
 |none=>rfl
 |some v=>cases eval U e y <;> rfl
def b_ (s:St):sdK (some .ZQ) s=some (.U4,s):=rfl
def afS (b o n:Nat)(c:Option Nat)(z:Nat)(s:St):sdK (some (.sl b o (n+1) c z)) s=some (.ptr b o,s):=rfl
def bZ (ts:Array TypeId)(p n:AV)(s:St):usK ts (some p) (some n) s=XX U .unsafeString ts [p,n] s:=rfl
def afT (s:St):XX U .unsafeString #[228,3] [.U4,.int .i64 0] s=some (.str [],s):=rfl
def afU {j:Nat}{bs:XJ}{lo hi:Nat}(hg:s.get j=some (.cells (XK bs) 5 false lo hi))(h0:bs≠[])(hl:bs.length<=2^39):XX U .unsafeString #[228,3] [.ptr j 0,.int .i64 bs.length] s=some (.str bs,s.put j (.cells (XK bs) 5 true 0 0)):=by
 have hu:U.Zd 228=some (.pointer 5):=It;have ZB:¬(bs.length:Int)=0:=by
  have:=List.length_pos_iff.2 h0;omega
 have hb:¬((bs.length:Int)<0\/(bs.length:Int)>2^40):=J;unfold XX;simp only[O3 ZB,O3 hb,hg];have hgr:Xi bs.length 0 (XK bs)=some (XK bs):=by
  have:=VA (XK bs)
  rwa [Rt] at this
 simp[hu,aiv,hgr,vM]
attribute [go_sem ↓] afQ afR
attribute [go_sem] b_ afS bZ afT
def fK {b:Nat}{bs:XJ}(h:He s b bs)(hf:Fr s)(hl:bs.length<=2^39):∃s',UN U 81 [.ptr b 0] s=some (.str bs,s')/\s.next<=s'.next/\Fr s'/\∀j,j<=b->s'.get j=s.get j:=by
 obtain⟨p,v,hg,hp,hb,hv⟩:=h;rcases hv with⟨h0,rfl,h2⟩|⟨h0,h1,j,h2,h3,rfl,h5⟩
 ·have:bs=[]:=aqo.1 h0;subst this;refine⟨s.upto (s.next+12),Yi ajs It ?_,O0,hf.upto J,λj _=>ZR _ _ _⟩;simp only[go_sem,afL,hg]
 ·have ZB:bs≠[]:=by rintro rfl;simp at h0
  have LU:=afU (s:=s.upto (s.next+12)) (bs:=bs) (j:=j) (by rw[ZR];exact h5) ZB hl;obtain⟨n,hn⟩:∃n,bs.length=n+1:=⟨bs.length-1,J⟩;refine⟨(s.upto (s.next+12)).put j (.cells (XK bs) 5 true 0 0),Yi ajs It ?_,O0,(hf.upto J).put O0 _,λi hi=>by rw[Z7,O3 J,ZR]⟩;rw[hn] at hg LU;simp only[go_sem,afL,hg,LU]
def xT:Bool->XJ
 |true=>[116,114,117,101]
 |false=>[102,97,108,115,101]
def an2 (x:Bool):ZE U 251 [.bool x]=some (.str (xT x)):=by
 refine ZP anS It rfl ?_
 cases x <;> simp only[go_sem,aju,xT]
def alF (x:Bool):ZE U 215 [.bool x]=some (.str (xT x)):=by
 refine ZP anR It rfl ?_;have:=an2 x;simp only[go_sem,ajt,this]
def QB (l:List Bool):XJ:=l.flatMap xT
def aeg (x:Bool):xT x≠[]:=by cases x <;> simp[xT]
def EB:∀{a b:List Bool},a.length=b.length->QB a=QB b->a=b
 |[],[],_,_=>rfl
 |x::a,y::b,hl,h=>by
  have DY:a.length=b.length:=by simpa using hl
  simp only[QB,aqp] at h
  cases x <;> cases y <;> simp only[xT,aqk,aqQ,List.cons.injEq] at h
  ·rw[EB DY h.2.2.2.2.2]
  ·exact absurd h.1 Mo
  ·exact absurd h.1 Mo
  ·rw[EB DY h.2.2.2.2]
 |[],_::_,h,_=>by simp at h
 |_::_,[],h,_=>by simp at h
def uz (es:List (XJ×AV)):List (AV×AV):=es.map λx=>(AV.str x.1,x.2)
def Du (k:XJ):List (XJ×AV)->Option AV
 |[]=>none
 |x::l=>bif k==x.1 then some x.2 else Du k l
def Dt (k:XJ)(v:AV):List (XJ×AV)->List (XJ×AV)
 |[]=>[(k,v)]
 |x::l=>bif k==x.1 then (k,v)::l else x::Dt k v l
def Cm (k:XJ):∀es,UY (.str k) (uz es)=some (Du k es)
 |[]=>rfl
 |x::l=>by
  have ih:=Cm k l;show UY (.str k) ((AV.str x.1,x.2)::uz l)=_;rw[UY,Du,VP]
  cases k==x.1 with
  |true=>rfl
  |false=>exact ih
def xY (k:XJ)(v:AV):∀es,Km (.str k) v (uz es)=some (uz (Dt k v es))
 |[]=>rfl
 |x::l=>by
  have ih:=xY k v l;show Km (.str k) v ((AV.str x.1,x.2)::uz l)=_;rw[Km,Dt,VP]
  cases k==x.1 with
  |true=>rfl
  |false=>simp only[ih];rfl
def Cu {m:Nat}{es:List (XJ×AV)}(h:s.get m=some (.map (uz es) false))(k:XJ):WM U 286 (.map m) (.str k) false s=some ((Du k es).getD .ZQ):=by
 have hu:U.Zd 286=some (.map 9 48):=It;have h9:U.Zd 9=some .string:=It;have hz:zero U 48=some .ZQ:=It;unfold WM;rw[hu];simp only[Vr,h9,if_true,h,Cm]
 cases Du k es with
 |none=>simp only[hz];rfl
 |some v=>rfl
def mu {m:Nat}{es:List (XJ×AV)}(h:s.get m=some (.map (uz es) false))(k:XJ)(v:AV):VZ U 286 (.map m) (.str k) v s=some (s.put m (.map (uz (Dt k v es)) false)):=by
 have hu:U.Zd 286=some (.map 9 48):=It;have h9:U.Zd 9=some .string:=It;unfold VZ;rw[hu];simp only[Vr,h9,if_true,h,xY]
noncomputable def fO (t:TypeId)(m k v:Option AV)(s:St):Option (AV×St):=match m,k,v with
 |some m,some k,some v=>NP (VZ U t m k v s)
 |_,_,_=>none
def Ds (ex:Ex)(e:Env)(s:St)(t:TypeId)(m k v:Operand):Yn U ex e (.mapUpdate t m k v) s=fO t (eval U e m) (eval U e k) (eval U e v) s:=by
 unfold fO;simp only[Yn];rfl
def xX (ex:Ex)(e:Env)(s:St)(t:TypeId)(m k v:Operand):Yn U ex e (.insert t m k v) s=fO t (eval U e m) (eval U e k) (eval U e v) s:=by
 unfold fO;simp only[Yn];rfl
def mq (t:TypeId)(m k v:AV)(s:St):fO t (some m) (some k) (some v) s=NP (VZ U t m k v s):=(λh=>h) rfl
def xW (ex:Ex)(e:Env)(s:St)(t:TypeId):Yn U ex e (.makeMap t none) s=some (.map s.next,s.new (.map [] false)):=(λh=>h) rfl
attribute [go_sem ↓] Ds xX xW
attribute [go_sem] mq
def Sz (len:XJ->Nat):List XJ->List Nat->List (XJ×AV)
 |k::ks,b::bs=>(k,.sl b 0 (len k) none 1)::Sz len ks bs
 |_,_=>[]
def Ay {len:XJ->Nat}:∀{ks:List XJ} {bs:List Nat} {j:Nat} (hn:ks.Nodup) (hl:bs.length=ks.length) (h:j<ks.length),Du ks[j] (Sz len ks bs)=some (.sl (bs[j]'J) 0 (len ks[j]) none 1)
 |k::ks,b::bs,0,hn,hl,h=>by simp[Sz,Du]
 |k::ks,b::bs,j+1,hn,hl,h=>by
  rw[aqW] at hn;have hj:j<ks.length:=by simpa using h
  have ih:=Ay (len:=len) (bs:=bs) hn.2 (by simpa using hl) hj;have ZB:(ks[j]==k)=false:=by
   have:ks[j]≠k:=λe=>hn.1 (e ▸ adm hj)
   simpa using this
  simp only[List.getElem_cons_succ,Sz,Du,ZB,cond_false];exact ih
 |k::ks,[],_,_,hl,_=>by simp at hl
 |[],_,_,_,_,h=>by simp at h
def Cl {len:XJ->Nat}{k:XJ}:∀{ks:List XJ} {bs:List Nat},k∉ks->Du k (Sz len ks bs)=none
 |[],bs,_=>by cases bs <;> rfl
 |x::ks,[],_=>rfl
 |x::ks,b::bs,h=>by
  rw[ap9,not_or] at h;have ZB:(k==x)=false:=by simpa using h.1
  simp only[Sz,Du,ZB,cond_false];exact Cl h.2
def FD {len Mp:XJ->Nat}:∀{ks:List XJ} {bs:List Nat},(∀k∈ks,len k=Mp k)->Sz len ks bs=Sz Mp ks bs
 |[],bs,_=>by cases bs <;> rfl
 |x::ks,[],_=>rfl
 |x::ks,b::bs,h=>by
  simp only[Sz];rw[h x (aba ..),FD λk hk=>h k (aab _ hk)]
def pC {len Mp:XJ->Nat}:∀{ks:List XJ} {bs:List Nat} {j b':Nat} (hn:ks.Nodup) (hl:bs.length=ks.length) (h:j<ks.length),(∀k∈ks,k≠ks[j]->len k=Mp k)->Dt ks[j] (.sl b' 0 (Mp ks[j]) none 1) (Sz len ks bs)=Sz Mp ks (bs.set j b')
 |k::ks,b::bs,0,b',hn,hl,h,hc=>by
  rw[aqW] at hn;simp only[List.getElem_cons_zero,Sz,Dt,beq_self_eq_true,cond_true,List.set_cons_zero];rw[FD λx hx=>hc x (aab _ hx) λe=>by simp at e;exact hn.1 (e ▸ hx)]
 |k::ks,b::bs,j+1,b',hn,hl,h,hc=>by
  rw[aqW] at hn;have hj:j<ks.length:=by simpa using h
  have ahp:k≠ks[j]:=λe=>hn.1 (e ▸ adm hj)
  have ZB:(ks[j]==k)=false:=by simpa using ahp.symm
  have ih:=pC (len:=len) (Mp:=Mp) (bs:=bs) (b':=b') hn.2 (by simpa using hl) hj λx hx hxe=>hc x (aab _ hx) (by simpa using hxe)
  simp only[List.getElem_cons_succ,Sz,Dt,ZB,cond_false,List.set_cons_succ];rw[ih,hc k (aba ..) (by simpa using ahp)]
 |k::ks,[],_,_,_,hl,_,_=>by simp at hl
 |[],_,_,_,_,_,h,_=>by simp at h
def xV {len Mp:XJ->Nat}{k:XJ}{b':Nat}:∀{ks:List XJ} {bs:List Nat},k∉ks->bs.length=ks.length->(∀x∈ks,len x=Mp x)->Dt k (.sl b' 0 (Mp k) none 1) (Sz len ks bs)=Sz Mp (ks++[k]) (bs++[b'])
 |[],[],_,_,_=>by simp[Sz,Dt]
 |x::ks,b::bs,h,hl,hc=>by
  rw[ap9,not_or] at h;have ZB:(k==x)=false:=by simpa using h.1
  have ih:=xV (len:=len) (Mp:=Mp) (b':=b') (bs:=bs) h.2 (by simpa using hl) λy hy=>hc y (aab _ hy)
  simp only[Sz,Dt,ZB,cond_false,aqk];rw[ih,hc x (aba ..)]
 |[],_::_,_,hl,_=>by simp at hl
 |_::_,[],_,hl,_=>by simp at hl
def ahq {nl:Bool}{l:List Bool}(hl:l.length<=2^20){b:Nat}(g8:e.get 8=.ptr b 0)(g35:e.get 35=ZU nl (Zt l))(mo:e.get 36=.int .i64 l.length)(xU:e.get 37=.int .i64 (0:Nat))
  (hb:He s b [])(fr:Fr s)
  (hk:∀e' s',(∀t:Nat,t<10->e'.get t=e.get t)->(∀t:Nat,26<t->t<35->e'.get t=e.get t)->He s' b (QB l)->(∀j,j<b->s'.get j=s.get j)->s.next<=s'.next->Fr s'->ZC (goN U fin ks e' s')) :
  ZC (SJ U fin (.bk 2::ks) GX e s):=by
 have ahr:∀l:List Bool,(QB l).length<=l.length*5:=by
  intro l
  induction l with
  |nil=>simp[QB]
  |cons x l ih =>
   have:(QB (x::l)).length=(xT x).length+(QB l).length:=by simp[QB]
   have h5:(xT x).length<=5:=by cases x <;> simp[xT]
   simp only[ap1];omega
 refine YT (σ:=Nat) (λi=>l.length-i) (λi e' s'=>i<=l.length/\(∀t:Nat,t<10->e'.get t=e.get t)/\(∀t:Nat,26<t->t<37->e'.get t=e.get t)/\e'.get 37=.int .i64 (i:Nat)/\He s' b (QB (l.take i))/\(∀j,j<b->s'.get j=s.get j)/\s.next<=s'.next/\Fr s') 0 ?_
  ⟨apW _,λ_ _=>rfl,λ_ _ _=>rfl,xU,hb,λ_ _=>rfl,api _,fr⟩
 rintro Lp i e' s' ⟨hi,hold,pB,fN,hbi,hs,Vq,Wk⟩ IH;have q8:=(hold 8 J).trans g8;have q35:=(pB 35 J J).trans g35;have q36:=(pB 36 J J).trans mo;by_cases hd:i<l.length
 ·have hw:=ZI hd J;have hx:=MT (nl:=nl) hd;have h244:=alF l[i];have G0:=ahr (l.take i);have htl:(l.take i).length=i:=by rw[aqO];omega
  have h5:(xT l[i]).length<=5:=by cases l[i] <;> simp[xT]
  obtain⟨s2,r,e1,e2,e3,e4,e5⟩:=alG hbi Wk (xT l[i]) (aeg _) J;simp only[go_sem,GX,q8,q35,q36,fN,Z9,hd,hx,h244,fM,e1,hw];have gg:QB (l.take (i+1))=QB (l.take i)++xT l[i]:=by rw[ap7 hd,QB,List.flatMap_append];simp[QB]
  refine IH (i+1) _ _ J ⟨J,λt ht=>?_,λt h1 h2=>?_,?_,by rw[gg];exact e2,λj hj=>by rw[e5 j hj,hs j hj],J,e3⟩
  ·have ZB:∀k:Nat,10<=k->(k=t)=False:=λk hk=>F_
   simp only[go_sem,ZB];exact hold t ht
  ·have ZB:∀k:Nat,37<=k->(k=t)=False:=λk hk=>F_
   have ahs:(10=t)=False:=F_;simp only[go_sem,ZB,ahs];exact pB t h1 h2
  ·simp only[go_sem]
 ·have:i=l.length:=J;subst this;rw[aqN] at hbi;simp only[go_sem,GX,q36,fN,Z9,ap5];refine hk _ _ (λt ht=>?_) (λt h1 h2=>?_) hbi hs Vq Wk
  ·have ZB:∀k:Nat,10<=k->(k=t)=False:=λk hk=>F_
   simp only[go_sem,ZB];exact hold t ht
  ·have ZB:∀k:Nat,37<=k->(k=t)=False:=λk hk=>F_
   simp only[go_sem,ZB];exact pB t h1 J
def yp {b n:Nat}(hL:L.length=n)(hg:s.get b=some (.cells (Zz L) 3 false 0 0))(k:Nat) :
  PF 3 1 1 [.int .i64 (k:Int)] (.sl b 0 n none 1) s=some (.sl s.next 0 (n+1) none 1,(s.put b .gone).new (.cells (Zz (L++[k])) 3 false 0 0)):=by
 have FO:(Zz L).length=n*1:=by rw[Wd,hL,ap3]
 rw[R_,hg,T9 FO J rfl,JW]
def strs (l:List XJ):List AV:=l.map .str
def Y0 (a:Zv)(u:Nat):XJ:=QB (a.ZW.getD u (true,[])).2
structure Grp (s:St)(m:Nat)(κ:Nat->XJ)(i:Nat)(bl:List Nat)(vo:AV):Prop where
 gm:s.get m=some (.map (uz (Sz (λk=>(RD κ k i).length) (Yg κ i) bl)) false)
 len:bl.length=(Yg κ i).length
 nd:bl.Nodup
 DS:∀j (h:j<bl.length) (h':j<(Yg κ i).length),m<bl[j]/\bl[j]<s.next/\s.get bl[j]=some (.cells (Zz (RD κ (Yg κ i)[j] i)) 3 false 0 0)
 row:ZD s (m+1) 9 1 (Yg κ i).length (strs (Yg κ i)) vo
def pP (κ:Nat->XJ)(k:XJ)(n:Nat):(RD κ k n).length<=n:=by
 have:=List.length_filter_le (λi=>decide (κ i=k)) (List.range n);rw[aqR] at this;exact this
def Bs {b:Nat}:∀{l:List Nat} {j:Nat},l.Nodup->b∉l->(l.set j b).Nodup
 |[],j,_,_=>by simp
 |x::l,0,h,hb=>by
  rw[aqW] at h;rw[List.set_cons_zero,aqW];exact⟨λhm=>hb (aab _ hm),h.2⟩
 |x::l,j+1,h,hb=>by
  rw[aqW] at h;rw[ap9,not_or] at hb;rw[List.set_cons_succ,aqW];refine⟨λhm=>?_,Bs h.2 hb.2⟩;rcases List.mem_or_eq_of_mem_set hm with h1|h1
  ·exact h.1 h1
  ·exact hb.1 h1.symm
def ai6 {a:Zv}(ha:a.ok){m:Nat}(g4:e.get 4=.map m)(g5:e.get 5=.ZQ)(g28:e.get 28=ZU a.WG (a.ZW.map ZM))(g29:e.get 29=.int .i64 a.ZW.length)(g30:e.get 30=.int .i64 (0:Nat))
  (gm:s.get m=some (.map [] false))(nm:m<s.next)(fr:Fr s)
  (hk:∀e' s' bl vo,(∀t:Nat,t<5->e'.get t=e.get t)->e'.get 5=vo->Grp s' m (Y0 a) a.next.length bl vo->(∀j,j<m->s'.get j=s.get j)->s.next<=s'.next->Fr s'->ZC (goN U fin ks e' s')) :
  ZC (SJ U fin (.bk 0::ks) GG e s):=by
 have Pm:=ha.few;have Mw:=ha.fl;refine YT (σ:=Nat) (λi=>a.ZW.length-i) (λi e' s'=>i<=a.ZW.length/\(∀t:Nat,t<5->e'.get t=e.get t)/\e'.get 28=ZU a.WG (a.ZW.map ZM)/\e'.get 29=.int .i64 a.ZW.length/\e'.get 30=.int .i64 (i:Nat)/\(∀j,j<m->s'.get j=s.get j)/\s.next<=s'.next/\Fr s' /\
   ∃bl vo,e'.get 5=vo/\Grp s' m (Y0 a) i bl vo) 0 ?_
  ⟨apW _,λ_ _=>rfl,g28,g29,g30,λ_ _=>rfl,api _,fr,[],.ZQ,g5,⟨by rw[gm];rfl,rfl,by simp,λj h=>by simp at h,ZD.nil _ _ _ _⟩⟩
 rintro Lp i e' s' ⟨hi,hold,At,DQ,cj,hs,Vq,Wk,bl,vo,q5,G⟩ IH;have q4:=(hold 4 J).trans g4;by_cases hd:i<a.ZW.length
 ·have Ql:=ZI hd J;have hx:=Uj (nl:=a.WG) hd;have qg:=ha.Wh i hd;have Hn:=ha.m16;have Oi:=ZN a.ZW[i].1 (Zt a.ZW[i].2);rw[WE] at Oi;have hκ:Y0 a i=QB a.ZW[i].2:=by unfold Y0;rw[Y' hd]
  simp only[go_sem,GG,At,DQ,cj,Z9,hd,hx,Oi];refine ahq (nl:=a.ZW[i].1) (l:=a.ZW[i].2) (b:=s'.next) J ?_ ?_ ?_ ?_ ?_ ?_ ?_
  case refine_7 =>
   intro e2 s2 Ol h2b hbi TB Dy OJ;rw[<-hκ] at hbi;have Dp:(Y0 a i).length<=2^39:=by
    have:∀l:List Bool,(QB l).length<=l.length*5:=by
     intro l
     induction l with
     |nil=>simp[QB]
     |cons x l ih =>
      have:(QB (x::l)).length=(xT x).length+(QB l).length:=by simp[QB]
      have h5:(xT x).length<=5:=by cases x <;> simp[xT]
      simp only[ap1];omega
    have:=this a.ZW[i].2;rw[hκ];omega
   obtain⟨s3,c1,c2,c3,c4⟩:=fK hbi OJ Dp;rw[Z'] at Dy;have old:∀j,j<s'.next->s3.get j=s'.get j:=λj hj=>by rw[c4 j J,TB j hj,Z5,O3 J]
   have p4:e2.get 4=.map m:=by rw[Ol 4 J];simp only[go_sem,q4]
   have p5:e2.get 5=vo:=by rw[Ol 5 J];simp only[go_sem,q5]
   have p6:e2.get 6=.int .i64 (i:Nat):=by rw[Ol 6 J];simp only[go_sem]
   have p8:e2.get 8=.ptr s'.next 0:=by rw[Ol 8 J];simp only[go_sem]
   have p28:e2.get 28=ZU a.WG (a.ZW.map ZM):=by rw[h2b 28 J J];simp only[go_sem,At]
   have p29:e2.get 29=.int .i64 a.ZW.length:=by rw[h2b 29 J J];simp only[go_sem,DQ]
   have p30:e2.get 30=.int .i64 (i:Nat):=by rw[h2b 30 J J];simp only[go_sem,cj]
   have pl:∀t:Nat,t<5->e2.get t=e.get t:=λt ht=>by
    rw[Ol t J];have ZB:∀k:Nat,6<=k->(k=t)=False:=λk hk=>F_
    simp only[go_sem,ZB];exact hold t ht
   obtain⟨Gm,tE,Gnd,tD,aaI⟩:=G;have nm':m<s'.next:=J;have um:=(old m nm').trans Gm;have hgl:=pP (Y0 a) (Y0 a i) i;have lk:=λ(S:St) (h:S.get m=some (.map (uz (Sz (λk=>(RD (Y0 a) k i).length) (Yg (Y0 a) i) bl)) false))=>Cu h (Y0 a i)
   have up:=λ(S:St) (v:AV) (h:S.get m=some (.map (uz (Sz (λk=>(RD (Y0 a) k i).length) (Yg (Y0 a) i) bl)) false))=>mu h (Y0 a i) v
   have aO:RD (Y0 a) (Y0 a i) (i+1)=RD (Y0 a) (Y0 a i) i++[i]:=by rw[JD,Of rfl]
   by_cases TD:Y0 a i∈Yg (Y0 a) i
   ·obtain⟨j,hj,hje⟩:=aqd.1 TD;have hjb:j<bl.length:=J;obtain⟨b1,b2,b3⟩:=tD j hjb hj;rw[hje] at b3;have Dz:=Ay (len:=λk=>(RD (Y0 a) k i).length) (bs:=bl) (O8 (Y0 a) i) tE hj;rw[hje] at Dz;have Hk:0<(RD (Y0 a) (Y0 a i) i).length:=by
     obtain⟨u,Dw,LB⟩:=(SW (Y0 a) (Y0 a i) i).1 TD;exact List.length_pos_of_mem ((O9 _ _ _ _).2 ⟨Dw,LB⟩)
    rw[Dz] at lk;simp only[aq6] at lk;have hz:(((RD (Y0 a) (Y0 a i) i).length:Int)==0)=false:=by simp;intro e;rw[e] at Hk;simp at Hk
    have u3:=(old _ b2).trans b3;have ax:=λ(S:St) (h:S.get bl[j]=some (.cells (Zz (RD (Y0 a) (Y0 a i) i)) 3 false 0 0))=>yp rfl h i
    have TV:((RD (Y0 a) (Y0 a i) i).length+1)*8<=1099511627776:=J;have U5:(RD (Y0 a) (Y0 a i) i).length+1<=1099511627776:=J;have z1:(s3.next=m)=False:=F_;have z2:(s3.next+1=m)=False:=F_;have z3:(bl[j]=m)=False:=F_;have z4:(s3.next=bl[j])=False:=F_;simp only[go_sem,p4,p6,p8,p30,px,c1,um,lk,up,hz,u3,ax,Zx,Nat.reducePow,aqP,TV,U5,z1,z2,z3,z4,Ql];have G9:Yg (Y0 a) (i+1)=Yg (Y0 a) i:=by rw[Yg,Of TD]
    have RJ:∀x y z k,k<s3.next->k≠m->k≠bl[j]->((((s3.new x).put bl[j] y).new z).put m (.map (uz (Sz (λk=>(RD (Y0 a) k (i+1)).length) (Yg (Y0 a) i) (bl.set j (s3.next+1)))) false)).get k=s3.get k:=λx y z k h1 h2 h3=>by
     rw[Z7,O3 h2.symm,Z5,Z_,Z',O3 J,Z7,O3 h3.symm,Z5,O3 J]
    have xK:=pC (len:=λk=>(RD (Y0 a) k i).length) (Mp:=λk=>(RD (Y0 a) k (i+1)).length) (bs:=bl) (b':=s3.next+1) (O8 (Y0 a) i) tE hj (λk _ hke=>by
     rw[hje] at hke;simp only[JD,O3 (λe=>hke (Eq.symm e))])
    rw[hje] at xK;simp only[aO,ann,aqh] at xK;rw[xK];have lbl:∀x∈bl,x<s'.next:=λx hx=>by
     obtain⟨k,G0,rfl⟩:=aqd.1 hx;exact (tD k G0 J).2.1
    refine IH (i+1) _ _ J ⟨J,λt ht=>?_,?_,?_,?_,λk hk=>?_,O0,(((c3.new _).put O0 _).new _).put O0 _,bl.set j (s3.next+1),vo,?_,⟨?_,?_,?_,λk h h'=>?_,?_⟩⟩
    ·have ZB:∀k:Nat,6<=k->(k=t)=False:=λk hk=>F_
     simp only[go_sem,ZB];exact pl t ht
    ·simp only[go_sem,p28]
    ·simp only[go_sem,p29]
    ·simp only[go_sem]
    ·rw[RJ _ _ _ k J J J,old k J,hs k hk]
    ·simp only[go_sem,p5]
    ·rw[Z7,Of rfl,G9]
    ·rw[aqH,G9];exact tE
    ·exact Bs Gnd λhm=>by have:=lbl _ hm;omega
    ·rw[aqH] at h;have h'':k<(Yg (Y0 a) i).length:=by rw[<-G9];exact h'
     have hko:(Yg (Y0 a) (i+1))[k]=(Yg (Y0 a) i)[k]:=by simp only[G9]
     rw[hko];by_cases iM:k=j
     ·subst iM;rw[List.getElem_set_self,hje,aO];refine⟨J,O0,?_⟩;rw[Z7,O3 J,Z5,Z_,Z',Of rfl]
     ·rw[List.getElem_set_ne (λe=>iM e.symm)];obtain⟨d1,d2,d3⟩:=tD k h h'';have ZB:bl[k]≠bl[j]:=λe=>iM ((List.getElem_inj Gnd).1 e)
      have hke:(Yg (Y0 a) i)[k]≠Y0 a i:=λe=>iM ((List.getElem_inj (O8 (Y0 a) i)).1 (e.trans hje.symm))
      refine⟨d1,O0,?_⟩;rw[RJ _ _ _ _ J J ZB,old _ d2,d3,JD,O3 (λe=>hke e.symm)]
    ·rw[G9];refine aaI.So O0 λk c h1 h2 h3=>?_
     rw[RJ _ _ _ k J J (λe=>by rw[e,b3] at h1;cases h1),old k h2];exact h1
   ·have Dz:=Cl (len:=λk=>(RD (Y0 a) k i).length) (bs:=bl) TD;rw[Dz] at lk;simp only[Option.getD_none] at lk;have eC:RD (Y0 a) (Y0 a i) i=[]:=by
     refine List.eq_nil_iff_forall_not_mem.2 λu hu=>TD ?_
     obtain⟨h1,h2⟩:=(O9 _ _ _ _).1 hu;exact (SW _ _ _).2 ⟨u,h1,h2⟩
    have hvo:ZD s3 (m+1) 9 1 (Yg (Y0 a) i).length (strs (Yg (Y0 a) i)) vo:=aaI.So J λk c h1 h2 h3=>by rw[old k h2];exact h1
    have aoP:ZD (s3.new (.cells [.str (Y0 a i)] 9 false 0 0)) (m+1) 9 1 (Yg (Y0 a) i).length (strs (Yg (Y0 a) i)) vo:=hvo.So O0 λk c h1 h2 h3=>by rw[Z5,O3 J];exact h1
    obtain⟨s5,d1,d2,d3,d4,d5,d6⟩:=aoP.af9 O0 (.str (Y0 a i)) rfl;rw[Z'] at d1 d2 d3 d4;have la:=hvo.WV;have zw:=FQ (Y0 a) i;have TV:((Yg (Y0 a) i).length+1)*16<=1099511627776:=J;have U5:(Yg (Y0 a) i).length+1<=1099511627776:=J;simp only[go_sem,p4,p5,p8,px,c1,um,lk,Zx,Nat.reducePow,aqP,TV,U5,la];rw[d1];have v5m:s5.get m=some (.map (uz (Sz (λk=>(RD (Y0 a) k i).length) (Yg (Y0 a) i) bl)) false):=by rw[d5 m J,Z5,O3 J];exact um
    have z1:(s5.next=m)=False:=F_;have z2:(s5.next+1=m)=False:=F_;simp only[go_sem,p4,p6,p30,v5m,lk,up,Zx,Nat.reducePow,aqP,Ql,z1,z2];have G9:Yg (Y0 a) (i+1)=Yg (Y0 a) i++[Y0 a i]:=by rw[Yg,O3 TD]
    have l9:RD (Y0 a) (Y0 a i) (i+1)=[i]:=by rw[aO,eC];rfl
    have akx:∀k,k≠Y0 a i->RD (Y0 a) k (i+1)=RD (Y0 a) k i:=λk hke=>by rw[JD,O3 (λe=>hke (Eq.symm e))]
    have xK:=xV (len:=λk=>(RD (Y0 a) k i).length) (Mp:=λk=>(RD (Y0 a) k (i+1)).length) (bs:=bl) (b':=s5.next+1) TD tE (λk hk=>by
     have:k≠Y0 a i:=λe=>TD (e ▸ hk)
     simp only[akx k this])
    simp only[l9,aqh] at xK;rw[xK];have RJ:∀x y k,k<s5.next->k≠m->(((s5.new x).new y).put m (.map (uz (Sz (λk=>(RD (Y0 a) k (i+1)).length) (Yg (Y0 a) i++[Y0 a i]) (bl++[s5.next+1]))) false)).get k=s5.get k:=λx y k h1 h2=>by
     rw[Z7,O3 h2.symm,Z5,Z',O3 J,Z5,O3 J]
    have aoQ:∀k,k<m->s5.get k=s'.get k:=λk hk=>by rw[d5 k J,Z5,O3 J,old k J]
    have aoR:∀k c,s'.get k=some (.cells c 3 false 0 0)->k<s'.next->s5.get k=some (.cells c 3 false 0 0):=λk c h1 h2=>d4 k c 3 0 0 (by rw[Z5,O3 J,old k h2];exact h1) J Mo
    have lbl:∀x∈bl,x<s'.next:=λx hx=>by
     obtain⟨k,G0,rfl⟩:=aqd.1 hx;exact (tD k G0 J).2.1
    refine IH (i+1) _ _ J ⟨J,λt ht=>?_,?_,?_,?_,λk hk=>?_,O0,(((d6 (c3.new _)).new _).new _).put O0 _,bl++[s5.next+1],.sl (s3.next+1) 0 ((Yg (Y0 a) i).length+1) none 1,?_,⟨?_,?_,?_,λk h h'=>?_,?_⟩⟩
    ·have ZB:∀k:Nat,6<=k->(k=t)=False:=λk hk=>F_
     have aga:(5=t)=False:=F_;simp only[go_sem,ZB,aga];exact pl t ht
    ·simp only[go_sem,p28]
    ·simp only[go_sem,p29]
    ·simp only[go_sem]
    ·rw[RJ _ _ k J J,aoQ k hk,hs k hk]
    ·simp only[go_sem]
    ·rw[Z7,Of rfl,G9]
    ·rw[G9,ann,ann,tE];rfl
    ·rw[List.nodup_append];refine⟨Gnd,by simp,λx hx y hy=>?_⟩;rw[apY.1 hy];have:=lbl x hx;omega
    ·by_cases hkb:k<bl.length
     ·obtain⟨e1,e2,e3⟩:=tD k hkb J;have hko:(Yg (Y0 a) (i+1))[k]=(Yg (Y0 a) i)[k]'J:=by simp only[G9];rw[aqX J]
      have hke:(Yg (Y0 a) i)[k]'J≠Y0 a i:=λe=>TD (e ▸ adm J)
      rw[hko,aqX hkb,akx _ hke];refine⟨e1,O0,?_⟩;rw[RJ _ _ _ J J];exact aoR _ _ e3 e2
     ·have Dp:k=bl.length:=by rw[ann,aqh] at h;omega
      subst Dp;have hko:(Yg (Y0 a) (i+1))[bl.length]=Y0 a i:=by simp only[G9];rw[aq2 J];simp
      rw[hko,aq2 J,l9];simp only[List.getElem_singleton];refine⟨J,O0,?_⟩;rw[Z7,O3 J,Z5,Z',Of rfl];rfl
    ·have e1:(Yg (Y0 a) (i+1)).length=(Yg (Y0 a) i).length+1:=by rw[G9];simp
     have e2:strs (Yg (Y0 a) (i+1))=strs (Yg (Y0 a) i)++[.str (Y0 a i)]:=by rw[G9];simp[strs]
     rw[e1,e2];refine d3.So O0 λk c h1 h2 h3=>?_
     rw[RJ _ _ k J J];exact h1
  case refine_6=>exact Wk.new _
  case refine_5 =>
   refine⟨.U4,.ZQ,?_,.inl rfl,O0,ZD.nil _ _ _ _⟩;rw[Z5,Of rfl]
  all_goals simp only[go_sem]
  all_goals rfl
 ·have:i=a.ZW.length:=J;subst this;simp only[go_sem,GG,DQ,cj,Z9,ap5];rw[Mw] at G;refine hk _ _ bl vo (λt ht=>?_) ?_ G hs Vq Wk
  ·have ZB:∀k:Nat,6<=k->(k=t)=False:=λk hk=>F_
   simp only[go_sem,ZB];exact hold t ht
  ·simp only[go_sem,q5]
end Go.Am
