/- A part of the proof of a statement of this seat: the machine on which the program is read, and what it computes; for every input. -/
import Derived.Test.YtkmaeondbkpajaaGreatDoorG04
import Derived.Test.YtkmaeondbkpajaaGreatDoorG03
import Derived.Test.YtkmaeondbkpajaaGreatDoorG00
set_option linter.all false
namespace Go.Am
open Go
variable [ZZ]
set_option maxRecDepth 100000
set_option maxHeartbeats 4000000
theorem abR (k:IntKind)(p:Bool)(x y:Int):br p (AV.int k x) (AV.int k y)=.int k (br p x y):=by cases p <;> rfl
theorem abS (p:Bool)(x y:X6):br p (AV.str x) (AV.str y)=.str (br p x y):=by cases p <;> rfl
attribute [go_sem] abR abS
theorem aU (n a b:Int):Zw U 65 [.int .i64 n,.int .i64 a,.int .i64 b]=some (.bool (outside n a b)):=by
 refine ZI k94 (by kernel_rfl) rfl ?_;simp +contextual only[go_sem,r94];rfl
theorem c26 (n:Int):Zw U 73 [.int .i64 n]=some (.int .i64 (br (outside n 1 16) 3 0)):=by
 refine ZI k26 (by kernel_rfl) rfl ?_;simp +contextual only[go_sem,r26,aU]
theorem B9 (p:Bool)(n:Int):Zw U 85 [.bool p,.int .i64 n]=some (.int .i64 (br p n 0)):=by
 refine ZI agq (by kernel_rfl) rfl ?_;simp +contextual only[go_sem,ac']
theorem iK (n a b:Int):Zw U 111 [.int .i64 n,.int .i64 a,.int .i64 b]=some (.int .i64 (within n a b)):=by
 refine ZI agr (by kernel_rfl) rfl ?_;simp +contextual only[go_sem,ada,B9];rfl
theorem c88 (n:Int):Zw U 96 [.int .i64 n]=some (.int .i64 (within n 1 16)):=by
 refine ZI k88 (by kernel_rfl) rfl ?_;simp +contextual only[go_sem,r88,iK]
theorem Ym {X:Cx}{β:Type}{fin:Fl->β}{ks:List K} [Stat] {b:RC}{σ:Type}(m:σ->Nat)(R:σ->β)(I:σ->Env->St->Prop)(x:σ){r:β}{e:Env}{s:St}
  (h:∀(L:RC) (x:σ) (e:Env) (s:St),I x e s->(∀(y:σ) (e':Env) (s':St),m y<m x->I y e' s'->SC X fin ks L e' s'=R y)->go X fin (.lp L::ks) b e s=R x)
  (hr:R x=r)(hI:I x e s):SC X fin ks b e s=r:=by
 rw[<-hr];exact sI X fin ks m I R h x hI
theorem Zl (l:List Int):(ints l).length=l.length:=by simp[ints]
theorem SW (l:List Int)(i:Nat):(ints l)[i]? = (l[i]?).map (.int .i64 ·):=by simp[ints]
theorem Z9 (a b:Nat):decide ((a:Int)<(b:Int))=decide (a<b):=by congr 1;apply propext;omega
theorem g89 (l:List Int)(hlen:l.length<2^62):go U (Oe U [.tmp 2]) [] r89 (Zc 0 [.fz (ints l)] .nil) (Yl U)=some (.int .i64 (Yh l)):=by
 simp only[go_sem,r89];refine Ym (σ:=Nat) (fun i=>l.length-i) (fun i=>some (AV.int .i64 (Yh (l.drop i)))) (fun i e s=>i<=l.length/\Env.get e 5=.fz (ints l)/\Env.get e 6=.int .i64 l.length/\Env.get e 7=.int .i64 i) 0 ?_ rfl ?_
 ·rintro L i e s ⟨hi,h5,h6,h7⟩ ih;by_cases hd:i<l.length
  ·have hx:(ints l)[i]? = some (.int .i64 l[i]):=by rw[SW,aaa hd];rfl
   have hw:IntKind.i64.wrap ((i:Int)+1)=((i+1:Nat):Int):=by rw[wrap_i64] <;> omega
   simp only[go_sem,yl,h5,h6,h7,Z9,hd,hx];rw[abc hd,Yh]
   cases hb:l[i] != 0
   ·simp only[go_sem,hw];refine ih (i+1) _ _ (by omega) ⟨by omega,?_,?_,?_⟩ <;> simp only[go_sem,h5,h6,h7,hw]
   ·simp only[go_sem]
  ·have:i=l.length:=by omega
   subst this;simp only[go_sem,yl,h5,h6,h7,Z9,ajp];rw[ajy];rfl
 ·refine⟨aji _,?_,?_,?_⟩ <;> simp only[go_sem,Zl] <;> rfl
def acT (u:Uses):AV:=.agg [.bool u.a,.bool u.b,.bool u.mi,.bool u.ma,.bool u.pat,.bool u.kids]
theorem c95 (k:X6):Zw U 114 [.str k]=some (.XF [acT (YL (Zy k)),.bool (Zy k).known]):=by
 refine ZI k95 (by kernel_rfl) rfl ?_;obtain⟨h0,h1,h2,h3,h4,h5,h6,h7,h8,h9,h10,h11,h12,h13,h14⟩:=RP k;generalize Zy k=d at *
 cases d
 all_goals simp only[reduceCtorEq,decide_true,decide_false] at h1 h2 h3 h4 h5 h6 h7 h8 h9 h10 h11 h12 h13 h14
 all_goals simp only[go_sem,r95,h1,h2,h3,h4,h5,h6,h7,h8,h9,h10,h11,h12,h13,h14]
 all_goals rfl
theorem ZX.ind {P:ZX->Prop}(h:∀k a b mi ma p nl kids,(∀x∈kids,P x)->P (.mk k a b mi ma p nl kids)):∀c,P c:=by
 intro c;exact ZX.rec (motive_1:=P) (motive_2:=fun l=>∀x∈l,P x) (fun k a b mi ma p nl kids ih=>h k a b mi ma p nl kids ih) (fun x hx=>by cases hx)
  (fun c l h1 h2 x hx=>by
   rcases ajo.1 hx with rfl|hx
   ·exact h1
   ·exact h2 x hx) c
theorem Zf (c:ZX):still (Zt c)=true:=by
 cases c;simp[Zt,still,ZO,YZ]
theorem YF {nl:Bool}{l:List AV}(h:l≠[]):ZG nl l=.fz l:=by
 cases l with
 |nil=>exact absurd rfl h
 |cons x l=>exact Er ..
theorem WL {l:List ZX}{i:Nat}(h:i<l.length):VJ l≠[]:=by
 intro e;have:=Yt l;rw[e] at this;simp at this;omega
def ZX.fits:ZX->Prop
 |.mk _ _ _ _ _ pat _ kids=>pat.length<2^30/\kids.length<2^30/\∀x∈kids,x.fits
theorem ep (c:UInt8)(n:Int)(d:UInt8)(h:n=(d.toNat:Int)):((c.toNat:Int)==n)=(c==d):=by
 subst h;by_cases e:c=d
 ·subst e;rw[beq_self_eq_true,beq_self_eq_true]
 ·have h1:(c.toNat:Int)≠(d.toNat:Int):=fun h=>e (UInt8.toNat_inj.1 (by omega))
  rw[beq_eq_false_iff_ne.2 h1,beq_eq_false_iff_ne.2 e]
theorem CH (c:UInt8)(n:Int)(d:UInt8)(h:n=(d.toNat:Int)):((c.toNat:Int) != n)=(c != d):=by
 rw[bne,bne,ep c n d h]
theorem ZE {i n:Nat}(h:i<n)(hn:n<2^62):IntKind.i64.wrap ((i:Int)+1)=((i+1:Nat):Int):=by rw[wrap_i64] <;> omega
theorem c96 (pat:X6)(n:Int)(hl:pat.length<2^30):Zw U 144 [.str pat,.int .i64 n]=some (.bool (NO pat n)):=by
 refine ZI k96 (by kernel_rfl) rfl ?_;simp +contextual only[go_sem,r96,NO]
 cases hb:(pat.length:Int) != n
 ·simp +contextual only[go_sem,ajU];refine Ym (σ:=Nat) (fun i=>pat.length-i) (fun i=>some (AV.bool ((pat.drop i).any fun c=>c != 48&&c != 49&&c != 120))) (fun i e s=>i<=pat.length/\Env.get e 0=.str pat/\Env.get e 5=.int .i64 i) 0 ?_ rfl ?_
  ·rintro L i e s ⟨hi,h0,h5⟩ ih;by_cases hd:i<pat.length
   ·have hx:pat[i]? = some pat[i]:=aaa hd;have hw:=ZE hd (by omega);simp +contextual only[go_sem,xV,h0,h5,Z9,hd,hx,CH _ 48 48 rfl,CH _ 49 49 rfl,CH _ 120 120 rfl];rw[abc hd,List.any_cons]
    cases hc:pat[i] != 48&&pat[i] != 49&&pat[i] != 120
    ·rw[ajU];simp +contextual only[go_sem,hc,hw,YU];refine ih (i+1) _ _ (by omega) ⟨by omega,?_,?_⟩ <;> simp +contextual only[go_sem,h0,h5,hw]
    ·simp +contextual only[go_sem,hc,Bool.true_or]
   ·have:i=pat.length:=by omega
    subst this;simp +contextual only[go_sem,xV,h0,h5,Z9,ajp];rw[ajy];rfl
  ·refine⟨aji _,?_,?_⟩ <;> simp +contextual only[go_sem] <;> rfl
 ·simp +contextual only[go_sem,Bool.true_or]
end Go.Am
namespace Go.Am
open Go
variable [ZZ]
set_option maxRecDepth 100000
set_option maxHeartbeats 8000000
theorem TX (k:IntKind)(p:Bool)(x y:Int):some (AV.int k (br p x y))=br p (some (.int k x)) (some (.int k y)):=by cases p <;> rfl
theorem vG (c:ZX)(a b:Int):ZO [.int .i64 a,Zt c,.int .i64 b]=true:=by simp[ZO,still,Zf]
theorem c27 (lines:Int):∀c:ZX,c.fits->∀depth:Int,Zw U 74 [.int .i64 lines,Zt c,.int .i64 depth]=some (.int .i64 (NK lines c depth)):=by
 intro c
 induction c using ZX.ind with
 |h kind a b mi ma pat nl kids ih =>
 intro hf depth;rw[ZX.fits] at hf;obtain⟨f1,f2,f3⟩:=hf;refine ZI k27 (by kernel_rfl) (vG _ _ _) ?_;rw[Zt,NK];simp (maxSteps:=2000000) +contextual only[go_sem,r27,c95,aU,c96 pat _ f1,acT,ZJ,Yt,ZR,ZW];simp only[TX];refine Ug fun _=>Ug fun _=>Ug fun _=>Ug fun _=>Ug fun _=>Ug fun _=>Ug fun _=>Ug fun _=>Ug fun _=>Ug fun _=>Ug fun _=>?_
 refine Ym (σ:=Nat) (fun i=>kids.length-i) (fun i=>some (AV.int .i64 (QI lines (kids.drop i) (IntKind.i64.wrap (depth+1))))) (fun i e s=>i<=kids.length/\Env.get e 9=.int .i64 i/\Env.get e 0=.int .i64 lines/\Env.get e 2=.int .i64 depth/\Env.get e 4=.ptr 8 0 /\
  s.get 8=some (.cells [.str kind,.int .i64 a,.int .i64 b,.int .i64 mi,.int .i64 ma,.str pat,ZG nl (VJ kids)] 106 false 0 0)) 0 ?_ rfl ?_
 ·rintro L i e s ⟨hi,h9,h0,h2,h4,hs⟩ IH;by_cases hd:i<kids.length
  ·have hx:(VJ kids)[i]? = some (Zt kids[i]):=by rw[UA,aaa hd];rfl
   have hw:=ZE hd (by omega);have hc:=ih kids[i] (ajc hd) (f3 _ (ajc hd)) (IntKind.i64.wrap (depth+1));rw[YF (WL hd)] at hs;rw[ZN] at hx hc;simp only[ZX.cells] at hx hc;simp +contextual only[go_sem,yg,h9,h0,h2,h4,hs,Z9,hd,Yt,hx,hc];rw[abc hd,QI]
   cases hb:NK lines kids[i] (IntKind.i64.wrap (depth+1)) != 0
   ·simp only[go_sem,hw];refine IH (i+1) _ _ (by omega) ⟨by omega,?_,?_,?_,?_,?_⟩ <;> simp +contextual only[go_sem,h9,h0,h2,h4,hs,hw,YF (WL hd)]
   ·simp only[go_sem]
  ·have:i=kids.length:=by omega
   subst this;simp +contextual only[go_sem,yg,h9,h0,h2,h4,hs,ZJ,Yt,Z9,ajp];rw[ajy,QI]
 ·refine⟨aji _,?_,?_,?_,?_,?_⟩ <;> simp +contextual only[go_sem] <;> rfl
def Prog.fits (p:Prog):Prop:=p.steps.length<2^30/\∀s∈p.steps,s.cond.fits
def Zr (l:List Step):List AV:=l.map YM
theorem Y' (l:List Step):(Zr l).length=l.length:=by simp[Zr]
theorem WI (l:List Step)(i:Nat):(Zr l)[i]? = (l[i]?).map YM:=by simp[Zr]
theorem XQ {l:List Step}{i:Nat}(h:i<l.length):Zr l≠[]:=by
 intro e;have:=Y' l;rw[e] at this;simp at this;omega
theorem Yg (p:Prog):UU p=.agg [.int .i64 p.lines,ZG p.nl (Zr p.steps)]:=rfl
theorem XX (p:Prog):still (UU p)=true:=by simp[UU,still,ZO,YZ]
def MV (lines:Int):Nat->List Step->Int
 |_,[]=>0
 |i,s::l=>br (NK lines s.cond 1 != 0) (NK lines s.cond 1) <|
  br (outside s.times 1 64||outside s.within 0 255||((i:Int)==0)&&s.within != 0) 3 <| MV lines (i+1) l
def S5 (n:Int):Int:=br (outside n 1 16) 3 0
def vC (p:Prog):Int :=
 br (S5 p.lines != 0) (S5 p.lines) <| br ((p.steps.length:Int)==0) 12 <| br (decide ((p.steps.length:Int)>8)) 5 <| MV p.lines 0 p.steps
theorem c34 (p:Prog)(hf:p.fits):Zw U 23 [UU p]=some (.int .i64 (vC p)):=by
 obtain⟨lines,nl,steps⟩:=p;obtain⟨f1,f2⟩:=hf;simp only at f1 f2;refine ZI k34 (by kernel_rfl) (by simp[ZO,XX]) ?_;rw[Yg,vC,S5];simp (maxSteps:=2000000) +contextual only[go_sem,r34,c26,ZJ,Y',ZR,ZW];simp only[TX];refine Ug fun _=>?_
 refine Ug fun _=>?_
 refine Ug fun _=>?_
 refine Ym (σ:=Nat) (fun i=>steps.length-i) (fun i=>some (AV.int .i64 (MV lines i (steps.drop i)))) (fun i e s=>i<=steps.length/\Env.get e 4=.int .i64 i/\Env.get e 1=.ptr 8 0/\8<s.next /\
  s.get 8=some (.cells [.int .i64 lines,ZG nl (Zr steps)] 31 false 0 0)) 0 ?_ rfl ?_
 ·rintro L i e s ⟨hi,h4,h1,hn,hs⟩ IH;by_cases hd:i<steps.length
  ·have hx:(Zr steps)[i]? = some (YM steps[i]):=by rw[WI,aaa hd];rfl
   have hw:=ZE hd (by omega);have Zv:¬s.next=8:=by omega
   have hc:=c27 lines steps[i].cond (f2 _ (ajc hd)) 1;rw[YF (XQ hd)] at hs;rw[ZN] at hc;simp only[ZX.cells,YM] at hx hc;simp +contextual only[go_sem,yF,h4,h1,hs,Z9,hd,Y',hx,hc,Zv,ZW,aU];rw[abc hd,MV];simp only[TX];refine Ug fun _=>?_
   cases hb:(outside steps[i].times 1 64||outside steps[i].within 0 255||(i:Int)==0&&steps[i].within != 0)
   ·simp only[go_sem,hw];refine IH (i+1) _ _ (by omega) ⟨by omega,?_,?_,?_,?_⟩ <;> simp +contextual only[go_sem,h4,h1,hs,hw,Zv,YF (XQ hd)]
    omega
   ·simp only[go_sem]
  ·have:i=steps.length:=by omega
   subst this;simp +contextual only[go_sem,yF,h4,h1,hs,ZJ,Y',Z9,ajp];rw[ajy,MV]
 ·refine⟨aji _,?_,?_,?_,?_⟩ <;> simp +contextual only[go_sem] <;> rfl
end Go.Am
namespace Go.Am
open Go
variable [ZZ]
set_option maxRecDepth 100000
def adk:RC:=(sO [HM 4] (sQ (sO [om 7 0,o 8 (.bin .eql 9 true (.t 7) (.v (.str []))),om 9 8,X8 10 9 1,oF 11 9 (.bin .eql 9 true (.t 10) (.v (.str []))),Yj 12 9 11] (cT 12 (sO [om 13 0,om 4 13] .ret))) (sQ (sO [om 14 1,Mi 15 14,U4 16 3 15 1,om 17 16,VP 18 17 1,oT 19 17 (.pX (.t 18) (vI 0)),oT 20 17 (.bin .lss 5 true (.t 19) (.v (.int .u8 128))),X4 21 17 20] (cT 21 (sQ (.Sf 8 [om 22 0,om 23 1,o 24 (.pX (.t 23) (vI 0)),YI 25 232 22 24,om 26 1,o 27 (.pX (.t 26) (vI 0)),YI 28 231 25 27,om 4 28]) .ret))) (sQ (sO [om 30 1,YO 31 233 30,om 29 31,Yd 32 29 0,Yd 33 29 1,o 5 (.al [bF,bF,bF,bF,bF,bF,bF,bF,bF,bF,bF,bF,bF,bF,bF,bF,bF,bF,bF,bF,bF,bF,bF,bF,bF,bF,bF,bF,bF,bF,bF,bF,bF,bF,bF,bF,bF,bF,bF,bF,bF,bF,bF,bF,bF,bF,bF,bF,bF,bF,bF,bF,bF,bF,bF,bF,bF,bF,bF,bF,bF,bF,bF,bF,bF,bF,bF,bF,bF,bF,bF,bF,bF,bF,bF,bF,bF,bF,bF,bF,bF,bF,bF,bF,bF,bF,bF,bF,bF,bF,bF,bF,bF,bF,bF,bF,bF,bF,bF,bF,bF,bF,bF,bF,bF,bF,bF,bF,bF,bF,bF,bF,bF,bF,bF,bF,bF,bF,bF,bF,bF,bF,bF,bF,bF,bF,bF,bF,bF,bF,bF,bF,bF,bF,bF,bF,bF,bF,bF,bF,bF,bF,bF,bF,bF,bF,bF,bF,bF,bF,bF,bF,bF,bF,bF,bF,bF,bF,bF,bF,bF,bF,bF,bF,bF,bF,bF,bF,bF,bF,bF,bF,bF,bF,bF,bF,bF,bF,bF,bF,bF,bF,bF,bF,bF,bF,bF,bF,bF,bF,bF,bF,bF,bF,bF,bF,bF,bF,bF,bF,bF,bF,bF,bF,bF,bF,bF,bF,bF,bF,bF,bF,bF,bF,bF,bF,bF,bF,bF,bF,bF,bF,bF,bF,bF,bF,bF,bF,bF,bF,bF,bF,bF,bF,bF,bF,bF,bF,bF,bF,bF,bF,bF,bF,bF,bF,bF,bF,bF,bF,bF,bF,bF,bF,bF,bF] 300),Yw 256 5 32,om 6 33] (sO [om 34 6] (cT 34 (sO [om 35 0,YI 36 235 35 5,YI 37 234 36 5,om 4 37] .ret)))) (sO [om 38 0,om 39 1,YI 40 237 38 39,om 41 1,YI 42 236 40 41,om 4 42] .ret)))))
theorem agx:Zb 208=some ([.tmp 4],adk):=by kernel_rfl
def C0:RC:=(sQ (sO [om 5 0,Mi 6 5,Ut 7 3 6 0] (cS 7 (.exit 0))) (.block 1 (sQ (sO [om 8 1,om 9 0,o 10 (.pX (.t 9) (vI 0)),YI 11 259 8 10,VO 12 11] (cT 12 (.exit 0))) (oP [om 13 0,o 14 (.sls (.t 13) (some (vI 1)) none),om 0 14]))))
def adN:RC:=(sO [HM 4] (sQ (.block 0 (.loop C0)) (sO [om 15 0,om 4 15] .ret)))
theorem agM:Zb 234=some ([.tmp 4],adN):=by kernel_rfl
def De:RC:=(sQ (sO [om 5 0,Mi 6 5,Ut 7 3 6 0] (cS 7 (.exit 0))) (.block 1 (sQ (sO [om 8 1,om 9 0,om 10 0,Mi 11 10,MC 12 3 11 1,o 13 (.pX (.t 9) (.t 12)),YI 14 259 8 13,VO 15 14] (cT 15 (.exit 0))) (oP [om 16 0,om 17 0,Mi 18 17,MC 19 3 18 1,o 20 (.sls (.t 16) none (some (.t 19))),om 0 20]))))
def adg:RC:=(sO [HM 4] (sQ (.block 0 (.loop De)) (sO [om 21 0,om 4 21] .ret)))
theorem agt:Zb 235=some ([.tmp 4],adg):=by kernel_rfl
def adM:RC:=(sO [XW 4] (sO [om 5 0,om 6 1,Yi 7 5,o 8 (.ixp 256 1 (.t 7) (.t 6)),ZS 9 8,om 4 9] .ret))
theorem agL:Zb 259=some ([.tmp 4],adM):=by kernel_rfl
end Go.Am
namespace Go.Am
open Go
variable [ZZ]
set_option maxRecDepth 100000
set_option maxHeartbeats 8000000
def Qv:Kd->AV
 |.high=>.fn (.func 176) [] []
 |.low=>.fn (.func 176) [] []
 |.Ja=>.fn (.func 176) [] []
 |.fall=>.fn (.func 176) [] []
 |.pattern=>.fn (.func 176) [] []
 |.enter=>.fn (.func 176) [] []
 |.Vj=>.fn (.func 174) [] []
 |.gap=>.fn (.func 174) [] []
 |.idle=>.fn (.func 175) [] []
 |.setup=>.fn (.func 175) [] []
 |.Um=>.fn (.func 192) [] []
 |_=>.Wt
def Ta:Kd->AV
 |.high=>.fn (.func 177) [] []
 |.low=>.fn (.func 177) [] []
 |.Ja=>.fn (.func 177) [] []
 |.fall=>.fn (.func 177) [] []
 |.pattern=>.fn (.func 177) [] []
 |.enter=>.fn (.func 177) [] []
 |.Vj=>.fn (.func 177) [] []
 |.gap=>.fn (.func 177) [] []
 |.idle=>.fn (.func 177) [] []
 |.setup=>.fn (.func 190) [] []
 |.Um=>.fn (.func 177) [] []
 |_=>.Wt
def Qu:Kd->AV
 |.high=>.fn (.func 216) [] [.fp [.fn (.func 179) [] []] 0]
 |.low=>.fn (.func 216) [] [.fp [.fn (.func 181) [] []] 0]
 |.Ja=>.fn (.func 216) [] [.fp [.fn (.func 182) [] []] 0]
 |.fall=>.fn (.func 216) [] [.fp [.fn (.func 184) [] []] 0]
 |.pattern=>.fn (.func 216) [] [.fp [.fn (.func 185) [] []] 0]
 |.enter=>.fn (.func 216) [] [.fp [.fn (.func 187) [] []] 0]
 |.Vj=>.fn (.func 217) [] [.fp [.bool true] 0]
 |.gap=>.fn (.func 217) [] [.fp [.bool false] 0]
 |.idle=>.fn (.func 189) [] []
 |.setup=>.fn (.func 191) [] []
 |.Um=>.fn (.func 193) [] []
 |_=>.Wt
def VX (d:Kd):AV:=.agg [.bool (YL d).a,.bool (YL d).b,.bool (YL d).mi,.bool (YL d).ma,.bool (YL d).pat,.bool (YL d).kids,Qv d,Ta d,Qu d]
def Lx:List AV:=[.str [104,105,103,104],.str [108,111,119],.str [114,105,115,101],.str [102,97,108,108],.str [112,97,116,116,101,114,110],.str [101,110,116,101,114],.str [112,117,108,115,101],.str [103,97,112],.str [105,100,108,101],.str [115,101,116,117,112],.str [114,117,110,116],.str [110,111,116],.str [97,108,108],.str [97,110,121]]
def Lw:List AV:=[VX .high,VX .low,VX .Ja,VX .fall,VX .pattern,VX .enter,VX .Vj,VX .gap,VX .idle,VX .setup,VX .Um,VX .Lv,VX .tq,VX .I_]
theorem bQ:Zw U 136 []=some (.fm Lx Lw):=I9 (by kernel_rfl) rfl (RQ U (n:=100000) (by kernel_rfl))
theorem Nb (k:X6)(ok:Bool)(s:St):Xh U 215 (.fm Lx Lw) (.str k) ok s=some (if ok then .XF [VX (Zy k),.bool (Zy k).known] else VX (Zy k)):=by
 have hu:U.Zj 215=some (.map 9 220):=by kernel_rfl
 have h9:U.Zj 9=some .string:=by kernel_rfl
 have hz:zero U 220=some (VX .other):=by kernel_rfl
 obtain⟨h0,h1,h2,h3,h4,h5,h6,h7,h8,h9',h10,h11,h12,h13,h14⟩:=RP k;unfold Xh;rw[hu];simp only[Vi,h9,if_true,Lx,Lw,List.zip_cons_cons,List.zip_nil_left];generalize Zy k=d at *
 cases d <;> simp only[reduceCtorEq,decide_true,decide_false] at h1 h2 h3 h4 h5 h6 h7 h8 h9' h10 h11 h12 h13 h14 <;>
  simp only[VH,WB,h1,h2,h3,h4,h5,h6,h7,h8,h9',h10,h11,h12,h13,h14,hz] <;> rfl
def pM (X:Cx)(t:TypeId)(ok:Bool)(m k:Option AV)(s:St):Option (AV×St):=match m,k with
 |some m,some k=>Zm (Xh X t m k ok s) s
 |_,_=>none
theorem yW (X:Cx)(ex:Ex)(e:Env)(s:St)(t:TypeId)(m k:Operand)(ok:Bool):YK X ex e (.lookup t m k ok) s=pM X t ok (eval X e m) (eval X e k) s:=by
 unfold pM;simp only[YK];rfl
theorem yV (X:Cx)(t:TypeId)(ok:Bool)(m k:AV)(s:St):pM X t ok (some m) (some k) s=Zm (Xh X t m k ok s) s:=(fun h=>h) rfl
theorem Gq (k:X6)(s:St):Xh U 215 (.fm Lx Lw) (.str k) true s=some (.XF [VX (Zy k),.bool (Zy k).known]):=Nb k true s
theorem N2 (k:X6)(s:St):Xh U 215 (.fm Lx Lw) (.str k) false s=some (VX (Zy k)):=Nb k false s
attribute [go_sem] yW yV
def QW:List AV:=(List.range 256).map fun n=>.bool (Nat.beq n 48||Nat.beq n 49||Nat.beq n 120)
theorem Cf:QW.length=256:=by simp[QW]
theorem yU:QW.all Zx=true:=by simp[QW,Zx]
theorem pL (c:UInt8):QW[c.toNat]? = some (.bool (c==48||c==49||c==120)):=by
 have hc:c.toNat<256:=c.toNat_lt;have e:∀d:UInt8,Nat.beq c.toNat d.toNat=(c==d):=fun d=>by
  rw[aj4,Nat.beq_eq,beq_iff_eq];exact UInt8.toNat_inj
 have e1:=e 48;have e2:=e 49;have e3:=e 120;simp only[QW,ajv,List.getElem?_range hc,aki];rw[<-e1,<-e2,<-e3];rfl
theorem afQ:Zw U 233 [.str [48,49,120]]=some (.XF [.agg QW,.bool true]):=I9 (by kernel_rfl) rfl (RQ U (n:=100000) (by kernel_rfl))
theorem aav (b:X6)(k:IntKind)(n:Int):xI (.str b) none (some (.int k n))=if 0<=n/\n<=b.length then some (.str (b.take n.toNat)) else none:=by
 simp only[xI,YR];by_cases h:0<=n/\n<=b.length
 ·simp[h]
 ·simp[h]
theorem aaw (b:X6)(k:IntKind)(n:Int):xI (.str b) (some (.int k n)) none=if 0<=n/\n<=b.length then some (.str (b.drop n.toNat)) else none:=by
 simp only[xI,YR];by_cases h:0<=n/\n<=b.length
 ·simp[h]
 ·simp[h]
attribute [go_sem] aav aaw
theorem adh (c:UInt8):Zw U 259 [.fp QW 0,.int .u8 c.toNat]=some (.bool (c==48||c==49||c==120)):=by
 have hc:c.toNat<256:=c.toNat_lt;have hx:=pL c;have h0:(0:Int)<=(c.toNat:Int):=by omega
 refine ZI agL (by kernel_rfl) rfl ?_;simp only[go_sem,adM,hx,hc,ajj,uB]
def UK (c:UInt8):Bool:=c==48||c==49||c==120
def TC (s:X6):X6:=(s.reverse.dropWhile UK).reverse
theorem Bf (l:X6)(c:UInt8):TC (l++[c])=bif UK c then TC l else l++[c]:=by
 unfold TC;rw[List.reverse_append,List.reverse_singleton,List.singleton_append,List.dropWhile_cons]
 cases UK c <;> simp
theorem pw (s:X6):((TC s).dropWhile UK==[])=s.all UK:=by
 have h1:∀l:X6,(l.dropWhile UK=[])<->l.all UK=true:=fun l=>by
  induction l with
  |nil=>simp
  |cons c l ih =>
   rw[List.dropWhile_cons,List.all_cons]
   cases h:UK c <;> simp[ih]
 rw[aj4,beq_iff_eq,h1];unfold TC;rw[List.all_reverse]
 constructor
 ·intro h;have h2:s.reverse.dropWhile UK=[]:=by
   cases hd:s.reverse.dropWhile UK with
   |nil=>rfl
   |cons c l =>
    exfalso;rw[hd] at h;have:=List.head?_dropWhile_not (p:=UK) (l:=s.reverse);rw[hd] at this;simp only[List.head?_cons] at this;simp only[List.all_cons,adm] at h;simp[h.1] at this
  rw[h1,List.all_reverse] at h2;exact h2
 ·intro h;have:s.reverse.dropWhile UK=[]:=by rw[h1,List.all_reverse];exact h
  rw[this];rfl
theorem agw (s:X6)(hl:s.length<2^30):Zw U 234 [.str s,.fp QW 0]=some (.str (s.dropWhile UK)):=by
 refine ZI agM (by kernel_rfl) rfl ?_;simp only[go_sem,adN];refine Ym (σ:=X6) (fun x=>x.length) (fun x=>some (AV.str (x.dropWhile UK))) (fun x e s=>Env.get e 0=.str x/\Env.get e 1=.fp QW 0) s ?_ rfl ?_
 ·rintro L x e s ⟨h0,h1⟩ ih
  cases x with
  |nil =>
   simp only[go_sem,C0,h0,h1,gt_iff_lt,Int.natCast_zero,Int.lt_irrefl];rfl
  |cons c l =>
   have hp:(0:Int)<((l.length+1:Nat):Int):=by omega
   have hle:((0:Int)<=1/\(1:Int)<=((l.length+1:Nat):Int)):=by omega
   simp only[go_sem,C0,h0,h1,gt_iff_lt,hp,adh,hle];rw[List.dropWhile_cons]
   cases hc:UK c
   ·have J7:(c==48||c==49||c==120)=false:=hc;simp only[go_sem,J7,ajY];rfl
   ·have J7:(c==48||c==49||c==120)=true:=hc;simp only[go_sem,J7,ajT];refine ih l _ _ (by simp) ⟨?_,?_⟩ <;> simp only[go_sem,h0,h1] <;> rfl
 ·refine⟨?_,?_⟩ <;> simp only[go_sem]
theorem FL {f:FuncId}{us:List AV}{v:AV}(h:Zw U f us=some v)(hp:Pq f=true)(WY:ZO us=true)(hf:flat v=true)(s:St):Tq U f (some us) s=some (v,s):=by
 have h:=Df h (Yl U);obtain⟨p1,p2⟩:=Rj hp;unfold SH UG at h;rw[p2] at h;simp only[p1,if_true,PA,VF,WY] at h
 split at h
 ·rename_i w hq
  cases h
  refine Ri U s ?_;unfold UN at hq ⊢
  split at hq
  ·rename_i v0 s' hB;simp only[if_true] at hq;have:=oq s' _ _ _ hq hf;subst this;simp[hf]
  ·cases hq
 ·cases h
theorem ags (s:X6)(hl:s.length<2^30):Zw U 235 [.str s,.fp QW 0]=some (.str (TC s)):=by
 refine ZI agt (by kernel_rfl) rfl ?_;simp +contextual only[go_sem,adg];refine Ym (σ:=X6) (fun x=>x.length) (fun x=>some (AV.str (TC x))) (fun x e s=>x.length<2^30/\Env.get e 0=.str x/\Env.get e 1=.fp QW 0) s ?_ rfl ?_
 ·rintro L x e s ⟨hx,h0,h1⟩ ih;rcases List.eq_nil_or_concat x with rfl|⟨l,c,rfl⟩
  ·simp +contextual only[go_sem,De,h0,h1,gt_iff_lt,Int.natCast_zero,Int.lt_irrefl];rfl
  ·rw[List.concat_eq_append] at *;have hlen:(l++[c]).length=l.length+1:=by simp
   have hp:(0:Int)<((l.length+1:Nat):Int):=by omega
   have hw:IntKind.i64.wrap (((l.length+1:Nat):Int)-1)=(l.length:Int):=by rw[wrap_i64] <;> omega
   have hi:(l++[c])[l.length]? = some c:=by simp
   have hle:((0:Int)<=(l.length:Int)/\(l.length:Int)<=((l.length+1:Nat):Int)):=by omega
   have KA:(l++[c]).take l.length=l:=by simp
   simp +contextual only[go_sem,De,h0,h1,gt_iff_lt,hlen,hp,hw,hi,adh,hle,KA];rw[Bf]
   cases hc:UK c
   ·have J7:(c==48||c==49||c==120)=false:=hc;simp +contextual only[go_sem,J7,ajY]
   ·have J7:(c==48||c==49||c==120)=true:=hc;simp +contextual only[go_sem,J7,ajT];refine ih l _ _ (by simp) ⟨by omega,?_,?_⟩ <;> simp +contextual only[go_sem,h0,h1]
 ·refine⟨hl,?_,?_⟩ <;> simp +contextual only[go_sem]
theorem Be:∀(vs c:List AV),vs.length=c.length->lay 0 vs c=some vs
 |[],[],_=>rfl
 |v::vs,x::c,h=>by
  simp only[lay];rw[Be vs c (by simpa using h)]
theorem xP (s:X6):(TC s).length<=s.length:=by
 unfold TC;rw[List.length_reverse];refine aka (List.Sublist.length_le (List.dropWhile_sublist _)) ?_;rw[List.length_reverse];exact ajg _
theorem oo (s:St)(d:Nat):YT (Yc U s (d+1)) QW=some QW:=by
 have:∀l:List AV,(∀x∈l,∃b,x=.bool b)->YT (Yc U s (d+1)) l=some l:=by
  intro l
  induction l with
  |nil=>intro _;rfl
  |cons x l ih =>
   intro h;obtain⟨b,rfl⟩:=h x (aba ..);rw[YT,ih fun y hy=>h y (aab _ hy)];rfl
 refine this _ fun x hx=>?_
 simp only[QW,ajs] at hx;obtain⟨n,_,rfl⟩:=hx;exact⟨_,rfl⟩
theorem agu {args:List AV}{s:St}(h:ZO args=false):XR U (Zw U 235 args) 235 args s=Tq U 235 (YT (Yc U s 40) args) s:=yP (by kernel_rfl) s h
theorem agv {args:List AV}{s:St}(h:ZO args=false):XR U (Zw U 234 args) 234 args s=Tq U 234 (YT (Yc U s 40) args) s:=yP (by kernel_rfl) s h
theorem adi (x:X6)(hl:x.length<2^30)(s:St):Tq U 235 (some [.str x,.fp QW 0]) s=some (.str (TC x),s):=FL (ags x hl) (by kernel_rfl) rfl rfl s
theorem adj (x:X6)(hl:x.length<2^30)(s:St):Tq U 234 (some [.str x,.fp QW 0]) s=some (.str (x.dropWhile UK),s):=FL (agw x hl) (by kernel_rfl) rfl rfl s
theorem afX (s:X6)(hl:s.length<2^30):Zw U 208 [.str s,.str [48,49,120]]=some (.str ((TC s).dropWhile UK)):=by
 refine ZI agx (by kernel_rfl) rfl ?_;have e0:(([48,49,120]:X6)==[])=false:=rfl;have e4:(((3:Nat):Int)==1)=false:=rfl;have LB:(TC s).length<2^30:=by have:=xP s;omega
 have hly:∀z:List AV,z.length=256->lay 0 QW z=some QW:=fun z hz=>Be _ _ (by rw[Cf,hz])
 simp (config:={ maxSteps:=1000000 }) +contextual only[go_sem,adk,e0,e4,Bool.or_false,ajZ,YU,afQ,Cf,yU,hly,agu,agv,oo,adi s hl,adj _ LB]
 cases s with
 |nil=>rfl
 |cons c s=>rfl
theorem B_ (s:X6):(s.any fun c=>c != 48&&c != 49&&c != 120)=!s.all UK:=by
 induction s with
 |nil=>rfl
 |cons c s ih =>
  rw[List.any_cons,List.all_cons,ih,UK];have e:(c != 48&&c != 49&&c != 120)=!(c==48||c==49||c==120):=by
   simp[bne,Bool.and_assoc]
  rw[e]
  cases (c==48||c==49||c==120) <;> rfl
theorem afV (lines:Int)(pat:X6)(hl:pat.length<2^30):Zw U 156 [.int .i64 lines,.str pat]=some (.int .i64 (M7 lines pat)):=by
 refine ZI afW (by kernel_rfl) rfl ?_;simp +contextual only[go_sem,acp,afX pat hl,B9,pw];rw[M7,NO,B_]
theorem afY (d:Kd)(k:X6)(a b mi ma:Int)(pat:X6)(nl:Bool)(kids:List ZX) :
  Zw U 155 [VX d,Zt (.mk k a b mi ma pat nl kids)]=some (.bool (!(YL d).a&&a != 0||!(YL d).b&&b != 0||!(YL d).mi&&mi != 0||!(YL d).ma&&ma != 0||!(YL d).pat&&!pat==[]||!(YL d).kids&&decide ((kids.length:Int)>0))):=by
 have hs:ZO [Qv d,Ta d,Qu d]=true:=by cases d <;> rfl
 have hn:Zx (Qv d)=true/\Zx (Ta d)=true/\Zx (Qu d)=true:=by cases d <;> exact⟨rfl,rfl,rfl⟩
 obtain⟨n1,n2,n3⟩:=hn;simp only[ZO,Bool.and_true,adm] at hs;obtain⟨s1,s2,s3⟩:=hs;refine ZI afZ (by kernel_rfl) (by simp[ZO,still,VX,Zt,YZ,s1,s2,s3]) ?_;rw[VX,Zt];generalize Qv d=A1 at *;generalize Ta d=A2 at *;generalize Qu d=A3 at *;simp (config:={ maxSteps:=1000000 }) +contextual only[go_sem,acq,ZJ,Yt,n1,n2,n3,ZW]
theorem iS (l:List Int)(hl:l.length<2^62)(s:St):Tq U 93 (some [.fz (ints l)]) s=some (.int .i64 (Yh l),s) :=
 FL (ZI k89 (by kernel_rfl) (by simp[ZO,still]) (g89 l hl)) (by kernel_rfl) (by simp[ZO,still]) rfl s
theorem pq (a b:Int)(s:St):Tq U 93 (some [.fz [.int .i64 a,.int .i64 b]]) s=some (.int .i64 (Yh [a,b]),s):=iS [a,b] (by simp) s
theorem bJ (a b c:Int)(s:St):Tq U 93 (some [.fz [.int .i64 a,.int .i64 b,.int .i64 c]]) s=some (.int .i64 (Yh [a,b,c]),s):=iS [a,b,c] (by simp) s
theorem po (a b c d:Int)(s:St):Tq U 93 (some [.fz [.int .i64 a,.int .i64 b,.int .i64 c,.int .i64 d]]) s=some (.int .i64 (Yh [a,b,c,d]),s):=iS [a,b,c,d] (by simp) s
theorem bI (a b c d e f g:Int)(s:St):Tq U 93 (some [.fz [.int .i64 a,.int .i64 b,.int .i64 c,.int .i64 d,.int .i64 e,.int .i64 f,.int .i64 g]]) s=some (.int .i64 (Yh [a,b,c,d,e,f,g]),s):=iS [a,b,c,d,e,f,g] (by simp) s
theorem z89 {args:List AV}{s:St}(h:ZO args=false):XR U (Zw U 93 args) 93 args s=Tq U 93 (YT (Yc U s 40) args) s:=yP (by kernel_rfl) s h
end Go.Am
namespace Go.Am
open Go
variable [ZZ]
set_option maxRecDepth 100000
section
variable (X:Cx)
def kI (len:Nat)(x:Option (List AV)):Option (Nat×List AV):=match x with
 |some r=>some (len,r)
 |none=>none
def eA (len k o:Nat)(x:Option (List AV)):Option (Nat×List AV):=match x with
 |some c=>kI len (XE k o c)
 |none=>none
theorem Ek (len:Nat)(r:List AV):kI len (some r)=some (len,r):=(fun h=>h) rfl
theorem El (len k o:Nat)(c:List AV):eA len k o (some c)=kI len (XE k o c):=(fun h=>h) rfl
theorem KY (n b o len:Nat)(cap:Option Nat)(z:Nat)(s:St):WV n (.sl b o len cap z) s=eA len (len*n) o (cellsOf (s.get b)):=by
 simp only[WV,<-K3,eA,kI];rfl
theorem Km (n:Nat)(s:St):WV n .ZM s=some (0,[]):=(fun h=>h) rfl
def kH (t:TypeId)(n m:Nat)(new:List AV)(b o len:Nat)(Wa:Nat)(s:St)(x:Option Vr):Option (AV×St):=match x with
 |some (.cells c e0 false PQ QO)=>match XE (len*n) o c with
  |some old=>if Wa=n/\QO<=o+len*n/\e0=t/\new.all Zx=true then
    some (.sl s.next 0 (len+m) none n,(s.put b .gone).new (.cells (old++new) t false (PQ-o) (QO-o)))
   else none
  |none=>none
 |_=>none
def QE (t:TypeId)(n m:Nat)(new:List AV)(d:AV)(s:St):Option (AV×St):=match d with
 |.ZM=>some (.sl s.next 0 m none n,s.new (.cells new t false 0 0))
 |.sl b o len cap Wa=>match s.cells b with
  |some c=>match XE (len*n) o c with
   |some old =>
    match cap with
    |some k=>if len+m<=k then
      if Wa=n then match Xo s b (o+len*n) new with
       |some s'=>some (.sl b o (len+m) (some k) n,s')
       |none=>none
      else none
     else some (.sl s.next 0 (len+m) none n,s.new (.cells (old++new) t false 0 0))
    |none=>match s.get b with
     |some (.cells _ e0 false PQ QO) =>
      if Wa=n/\QO<=o+len*n/\e0=t/\new.all Zx=true then
       some (.sl s.next 0 (len+m) none n,(s.put b .gone).new (.cells (old++new) t false (PQ-o) (QO-o)))
      else none
     |_=>none
   |none=>none
  |none=>none
 |_=>none
def abu (d:AV)(s:St):Option (AV×St):=match d with
 |.ZM=>some (d,s)
 |.sl ..=>some (d,s)
 |.fz _=>some (d,s)
 |_=>none
def JW (t:TypeId)(n bytes:Nat)(d:AV)(x:Option (Nat×List AV))(s:St):Option (AV×St):=match x with
 |some (m,new) =>
  if new.length≠m*n\/(Xg d+m)*bytes>2^40\/Xg d+m>2^40 then none
  else if m=0 then abu d s else QE t n m new d s
 |none=>none
theorem abL (t:TypeId)(n bytes:Nat)(d x:AV)(s:St):ru t n bytes d x s=JW t n bytes d (WV n x s) s:=by
 unfold ru JW QE abu;rfl
theorem ZD {t:TypeId}{n bytes:Nat}{d:AV}{m:Nat}{new:List AV}{s:St}(h1:new.length=m*n)(h2:(Xg d+m)*bytes<=2^40)(h3:Xg d+m<=2^40)(h4:m≠0) :
  JW t n bytes d (some (m,new)) s=QE t n m new d s:=by
 simp only[JW];rw[if_neg (by omega),if_neg h4]
theorem Wq (t:TypeId)(n m:Nat)(new:List AV)(s:St):QE t n m new .ZM s=some (.sl s.next 0 m none n,s.new (.cells new t false 0 0)):=(fun h=>h) rfl
theorem Tg (t:TypeId)(n m:Nat)(new:List AV)(b o len Wa:Nat)(s:St):QE t n m new (.sl b o len none Wa) s=kH t n m new b o len Wa s (s.get b):=by
 simp only[QE,kH,St.cells]
 cases s.get b with
 |none=>rfl
 |some x =>
  cases x <;> simp only
  rename_i c e0 ro lo hi
  cases ro <;> simp only
  cases XE (len*n) o c <;> rfl
theorem UO {t:TypeId}{n m:Nat}{new:List AV}{b len:Nat}{s:St}{cs:List AV}{lo hi:Nat}(hl:cs.length=len*n)(hh:hi<=len*n)(Ub:new.all Zx=true) :
  kH t n m new b 0 len n s (some (.cells cs t false lo hi))=some (.sl s.next 0 (len+m) none n,(s.put b .gone).new (.cells (cs++new) t false lo hi)):=by
 simp only[kH];rw[<-hl,Wi];simp only[true_and];rw[if_pos ⟨by omega,Ub⟩];simp
theorem qx:Xg .ZM=0:=(fun h=>h) rfl
theorem QB (b o n:Nat)(c:Option Nat)(z:Nat):Xg (.sl b o n c z)=n:=(fun h=>h) rfl
def ZF (s:St)(B:Nat)(t:TypeId)(n i:Nat)(cs:List AV)(v:AV):Prop :=
 (i=0/\v=.ZM/\cs=[])\/(0<i/\cs.length=i*n/\∃b,B<=b/\b<s.next/\v=.sl b 0 i none n/\s.get b=some (.cells cs t false 0 0))
theorem ZF.nil (s:St)(B:Nat)(t:TypeId)(n:Nat):ZF s B t n 0 [] .ZM:=.inl ⟨rfl,rfl,rfl⟩
theorem ZF.Zx {s:St}{B:Nat}{t:TypeId}{n i:Nat}{cs:List AV}{v:AV}(h:ZF s B t n i cs v):Zx v=true:=by
 rcases h with⟨_,rfl,_⟩|⟨_,_,b,_,_,rfl,_⟩ <;> rfl
theorem ZF.cells {s:St}{B:Nat}{t:TypeId}{n i:Nat}{cs:List AV}{v:AV}(h:ZF s B t n i cs v):v.cells=[v]:=by
 rcases h with⟨_,rfl,_⟩|⟨_,_,b,_,_,rfl,_⟩ <;> rfl
theorem ZF.len {s:St}{B:Nat}{t:TypeId}{n i:Nat}{cs:List AV}{v:AV}(h:ZF s B t n i cs v):SZ v=some (.int .i64 i):=by
 rcases h with⟨rfl,rfl,_⟩|⟨_,_,b,_,_,rfl,_⟩ <;> rfl
theorem ZF.Xg {s:St}{B:Nat}{t:TypeId}{n i:Nat}{cs:List AV}{v:AV}(h:ZF s B t n i cs v):Go.Am.Xg v=i:=by
 rcases h with⟨rfl,rfl,_⟩|⟨_,_,b,_,_,rfl,_⟩ <;> rfl
theorem ZF.mono {s s':St}{B:Nat}{t:TypeId}{n i:Nat}{cs:List AV}{v:AV}(h:ZF s B t n i cs v)(hn:s.next<=s'.next)(hg:∀j,B<=j->j<s.next->s'.get j=s.get j):ZF s' B t n i cs v:=by
 rcases h with⟨h0,h1,h2⟩|⟨h0,h1,b,h2,h3,h4,h5⟩
 ·exact .inl ⟨h0,h1,h2⟩
 ·exact .inr ⟨h0,h1,b,h2,by omega,h4,by rw[hg b h2 h3];exact h5⟩
theorem ZF.app {s:St}{B:Nat}{t:TypeId}{n i:Nat}{cs:List AV}{v:AV}(h:ZF s B t n i cs v)(hB:B<=s.next){m:Nat}{new:List AV}(hm:m≠0)(hl:new.length=m*n)(Ub:new.all Go.Am.Zx=true) :
  ∃s1,QE t n m new v s=some (.sl s.next 0 (i+m) none n,s1)/\s1.next=s.next+1/\ZF s1 B t n (i+m) (cs++new) (.sl s.next 0 (i+m) none n)/\(∀j,j<B->s1.get j=s.get j)/\(Fr s->Fr s1):=by
 rcases h with⟨rfl,rfl,rfl⟩|⟨h0,h1,b,h2,h3,rfl,h5⟩
 ·refine⟨s.new (.cells new t false 0 0),by rw[Wq,ajr],rfl,.inr ⟨by omega,by rw[ajr,ajP];exact hl,s.next,hB,by rw[Z'];omega,rfl,by rw[ZY,if_pos rfl];rfl⟩,fun j hj=>by rw[ZY,if_neg (by omega)],fun hf=>hf.new _⟩
 ·refine⟨(s.put b .gone).new (.cells (cs++new) t false 0 0),by rw[Tg,h5,UO h1 (by omega) Ub],rfl,.inr ⟨by omega,by rw[ajh,h1,hl,akf],s.next,hB,by rw[Z',Z_];omega,rfl,?_⟩,fun j hj=>?_,fun hf=>(hf.put h3 _).new _⟩
  ·rw[ZY,Z_,if_pos rfl]
  ·rw[ZY,Z_,if_neg (by omega),Z0,if_neg (by omega)]
theorem GZ {A:Type}(enc:A->AV)(n:Nat)(hc:∀a,∃c,enc a=.agg c/\c.length=n):∀l:List A,Xs true n l.length (l.flatMap fun a=>(enc a).cells)=l.map enc
 |[]=>rfl
 |a::l=>by
  obtain⟨c,h1,h2⟩:=hc a;have ih:=GZ enc n hc l;rw[ajk,HY,ajL,h1,RJ,aju,h1];rw[show (c++l.flatMap fun a=>(enc a).cells).take n=c from by rw[<-h2,List.take_left],show (c++l.flatMap fun a=>(enc a).cells).drop n=l.flatMap fun a=>(enc a).cells from by rw[<-h2,aj5],ih]
theorem Vl {f:AV->Option AV}:∀{l:List AV},(∀x∈l,f x=some x)->YT f l=some l
 |[],_=>rfl
 |x::l,h=>by
  rw[YT,h x (aba ..),Vl fun y hy=>h y (aab _ hy)]
theorem KM {A:Type}(enc:A->AV)(n:Nat)(hc:∀a,∃c,enc a=.agg c/\c.length=n):∀l:List A,(l.flatMap fun a=>(enc a).cells).length=l.length*n
 |[]=>by simp
 |a::l=>by
  obtain⟨c,h1,h2⟩:=hc a;rw[ajL,ajh,KM enc n hc l,h1,RJ,h2,ajk,akf];omega
theorem ZF.WK {s:St}{B:Nat}{t:TypeId}{n:Nat}{A:Type}{enc:A->AV}{l:List A}{v:AV}(h:ZF s B t n l.length (l.flatMap fun a=>(enc a).cells) v)(F1:YB X t=some true)(Wh:size X t=some n)(hn:n≠0)
  (hc:∀a,∃c,enc a=.agg c/\c.length=n){d:Nat}(hf:∀a,Yc X s d (enc a)=some (enc a)):Yc X s (d+1) v=some (ZG true (l.map enc)):=by
 rcases h with⟨h0,rfl,_⟩|⟨h0,h1,b,_,_,rfl,hg⟩
 ·have:l=[]:=ajI.1 h0;subst this;rfl
 ·rw[QF,hg,UQ,<-h1,Wi,F1,Wh]
  cases n with
  |zero=>exact absurd rfl hn
  |succ n =>
   rw[A7,GZ enc (n+1) hc,Vl (fun x hx=>?_),SQ]
   ·cases l with
    |nil=>simp at h0
    |cons a l=>rfl
   ·obtain⟨a,_,rfl⟩:=ajs.1 hx;exact hf a
theorem ZF.Sz {s:St}{B:Nat}{t:TypeId}{l:List AV}{v:AV}(h:ZF s B t 1 l.length l v)(F1:YB X t=some false)(Wh:size X t=some 1)(Ub:l.all Go.Am.Zx=true)
  {d:Nat}{r:List AV}(hf:YT (Yc X s d) l=some r):Yc X s (d+1) v=some (ZG true r):=by
 rcases h with⟨h0,rfl,_⟩|⟨h0,h1,b,_,_,rfl,hg⟩
 ·have:l=[]:=ajI.1 h0;subst this;simp only[YT] at hf;cases hf;rfl
 ·rw[QF,hg,UQ,ajj,Wi,F1,Wh,Rh,if_pos Ub,Vt,hf,SQ]
  cases r with
  |nil =>
   exfalso
   cases l with
   |nil=>simp at h0
   |cons a l =>
    simp only[YT] at hf
    split at hf <;> cases hf
  |cons a r=>rfl
end
attribute [go_sem] Ek El KY Km abL Wq Tg qx QB
end Go.Am
namespace Go.Am
open Go
variable [ZZ]
set_option maxRecDepth 100000
set_option maxHeartbeats 8000000
theorem QL (X:Cx)(g:FuncId)(x y args:List AV)(s:St):MN X (.fn (.func g) x y) args s=XR X (Zw X g (x++args++y)) g (x++args++y) s:=by
 rw[<-XL];rfl
attribute [go_sem] QL ajP ajG ajz
theorem Va (X:Cx)(t:TypeId)(c:Bool)(j:IntKind){n:Int}(h:0<=n/\n<=16):WO X .shl t c (.int .i64 1) (.int j n)=some (.int .i64 (2^n.toNat)):=by
 obtain⟨h0,h1⟩:=h;have hn:¬n<0:=by omega
 simp only[WO,K',hn,if_false];have hm:min n.toNat IntKind.i64.bits=n.toNat:=by
  have:IntKind.i64.bits=64:=rfl;rw[this];omega
 rw[hm,Int.one_mul];have hp:(2:Int)^n.toNat<=2^16:=by
  have h2:(2:Nat)^n.toNat<=2^16:=Nat.pow_le_pow_right (by omega) (by omega)
  exact_mod_cast h2
 have dy:(0:Int)<=2^n.toNat:=Int.pow_nonneg (by omega);rw[wrap_i64 (by omega) (by omega)]
def XS (l:List Int)(t:Int):Int:=l.getD t.toNat 0
theorem gE {l:List Int}{t:Int}(h1:t.toNat<l.length):l[t.toNat]? = some (XS l t):=by
 unfold XS;rw[ajl,aaa h1];rfl
theorem rY {l:List Int}{t:Int}(h:t.toNat<l.length):(ints l)[t.toNat]? = some (.int .i64 (XS l t)):=by
 rw[SW,gE h];rfl
theorem gD {nl:Bool}{l:List Int}{t:Int}(h0:0<=t)(h1:t.toNat<l.length):UC 1 (ZG nl (ints l)) (.int .i64 t)=some (.fp [.int .i64 (XS l t)] 0) :=
 VR 1 nl (ints l) .i64 t (.int .i64 (XS l t)) h0 (rY h1) rfl (by decide)
theorem Ia {nl:Bool}{l:List Int}{t:Nat}(h1:t<l.length):UC 1 (ZG nl (ints l)) (.int .i64 (t:Int))=some (.fp [.int .i64 (XS l (t:Int))] 0) :=
 gD (by omega) (by omega)
theorem XU {p:Bool}{e x:Int}(h:br p e x=0)(he:e≠0):p=false/\x=0:=by
 cases p
 ·exact⟨rfl,h⟩
 ·exact absurd h he
theorem UP {n a b:Int}(h:outside n a b=false):a<=n/\n<=b:=by
 unfold outside at h;simp only[ajJ,decide_eq_false_iff_not] at h;omega
theorem T4 (l:List Bool):(ZB l).all Zx=true:=by
 rw[ajq];intro x hx;obtain⟨b,_,rfl⟩:=ajs.1 hx;rfl
theorem VB (l:List Int):(ints l).all Zx=true:=by
 rw[ajq];intro x hx;obtain⟨b,_,rfl⟩:=ajs.1 hx;rfl
theorem ON (s:St)(d:Nat)(l:List Bool):YT (Yc U s (d+1)) (ZB l)=some (ZB l):=Vl fun x hx=>by
 obtain⟨b,_,rfl⟩:=ajs.1 hx;rfl
theorem U_ (s:St)(d:Nat)(l:List Int):YT (Yc U s (d+1)) (ints l)=some (ints l):=Vl fun x hx=>by
 obtain⟨b,_,rfl⟩:=ajs.1 hx;rfl
theorem Wm (l:List Bool):(ZB l).length=l.length:=by simp[ZB]
theorem ZF.ON {s:St}{B:Nat}{l:List Bool}{v:AV}(h:ZF s B 4 1 l.length (ZB l) v)(d:Nat):Yc U s (d+2) v=some (ZG true (ZB l)):=by
 have h':ZF s B 4 1 (ZB l).length (ZB l) v:=by rw[Wm];exact h
 exact h'.Sz U tg tf (T4 l) (Go.Am.ON s d l)
theorem ZF.U_ {s:St}{B:Nat}{l:List Int}{v:AV}(h:ZF s B 3 1 l.length (ints l) v)(d:Nat):Yc U s (d+2) v=some (ZG true (ints l)):=by
 have h':ZF s B 3 1 (ints l).length (ints l) v:=by rw[Zl];exact h
 exact h'.Sz U DP DO (VB l) (Go.Am.U_ s d l)
theorem EO (l:List Bool)(i:Nat):(ZB l)[i]? = (l[i]?).map .bool:=by simp[ZB]
theorem Pk (n:Int)(h1:n<=16):(1:Int)<=2^n.toNat/\(2:Int)^n.toNat<=65536:=by
 obtain⟨k,hk⟩:∃k:Nat,n.toNat=k:=⟨_,rfl⟩;rw[hk];have:∀k:Fin 17,(1:Int)<=2^k.val/\(2:Int)^k.val<=65536:=by decide
 exact this ⟨k,by omega⟩
def Pj (lines:Int)(l:List Int):Bool:=l.any fun x=>outside x 0 (2^lines.toNat-1)
def U0 (lines:Int)(l:List Int):Int:=br (decide ((l.length:Int)>4096)) 5 (br (Pj lines l) 3 0)
theorem YG {X:Cx}{β:Type}{fin:Fl->β}{ks:List K} [Stat] {b:RC}{σ:Type}{Zu:β->Prop}(m:σ->Nat)(I:σ->Env->St->Prop)(x:σ){e:Env}{s:St}
  (h:∀(L:RC) (x:σ) (e:Env) (s:St),I x e s->(∀(y:σ) (e':Env) (s':St),m y<m x->I y e' s'->Zu (SC X fin ks L e' s'))->Zu (go X fin (.lp L::ks) b e s))
  (hI:I x e s):Zu (SC X fin ks b e s):=by
 have key:∀n (x:σ) (e:Env) (s:St),m x=n->I x e s->Zu (SC X fin ks b e s):=by
  intro n
  induction n using Nat.strongRecOn with
  |ind n ih =>
   intro x e s hx hI;rw[n_];exact h b x e s hI fun y e' s' hy vS=>ih (m y) (by omega) y e' s' rfl vS
 exact key _ x e s rfl hI
theorem ZF.Il {s:St}{B:Nat}{t:TypeId}{n i:Nat}{cs:List AV}{v:AV}(h:ZF s B t n i cs v)(hB:B<=s.next){m:Nat}{new:List AV}(hm:m≠0)(hl:new.length=m*n)(Ub:new.all Go.Am.Zx=true) :
  ∃s1,QE t n m new v s=some (.sl s.next 0 (i+m) none n,s1)/\s1.next=s.next+1/\ZF s1 B t n (i+m) (cs++new) (.sl s.next 0 (i+m) none n)/\(∀j,j≠s.next->v≠.sl j 0 i none n->s1.get j=s.get j)/\(Fr s->Fr s1):=by
 rcases h with⟨rfl,rfl,rfl⟩|⟨h0,h1,b,h2,h3,rfl,h5⟩
 ·refine⟨s.new (.cells new t false 0 0),by rw[Wq,ajr],rfl,.inr ⟨by omega,by rw[ajr,ajP];exact hl,s.next,hB,by rw[Z'];omega,rfl,by rw[ZY,if_pos rfl];rfl⟩,fun j hj _=>by rw[ZY,if_neg (by omega)],fun hf=>hf.new _⟩
 ·refine⟨(s.put b .gone).new (.cells (cs++new) t false 0 0),by rw[Tg,h5,UO h1 (by omega) Ub],rfl,.inr ⟨by omega,by rw[ajh,h1,hl,akf],s.next,hB,by rw[Z',Z_];omega,rfl,?_⟩,fun j hj hv=>?_,fun hf=>(hf.put h3 _).new _⟩
  ·rw[ZY,Z_,if_pos rfl]
  ·have:b≠j:=fun e=>hv (by rw[e])
   rw[ZY,Z_,if_neg (by omega),Z0,if_neg this]
theorem ZF.Bt {s:St}{B:Nat}{t:TypeId}{n i:Nat}{cs:List AV}{v:AV}(h:ZF s B t n i cs v){j:Nat}(hj:s.next<=j\/j<B):v≠.sl j 0 i none n:=by
 rintro rfl;rcases h with⟨_,h,_⟩|⟨_,_,b,h1,h2,h3,_⟩
 ·cases h
 ·cases h3;omega
theorem ZF.other {s:St}{B:Nat}{t:TypeId}{n i:Nat}{cs:List AV}{v:AV}(h:ZF s B t n i cs v){j:Nat}{c:List AV}{t':TypeId}{lo hi:Nat}(hj:s.get j=some (.cells c t' false lo hi))(ht:t'≠t):v≠.sl j 0 i none n:=by
 rintro rfl;rcases h with⟨_,h,_⟩|⟨_,_,b,h1,h2,h3,h4⟩
 ·cases h
 ·cases h3
  rw[hj] at h4
  cases h4;exact ht rfl
theorem UZ {β:Type}{c:Code}{n:Nat}{l:List nO}(h:Rd U c=some (n,l))(fin:Fl->β)(ks:List K)(e:Env)(s:St):go U fin ks (.raw c) e s =
  bif TQ s.next s l then nN U (uI U fin ks c e s) fin ks s.next l e (s.upto (s.next+n)) [s.upto (s.next+n)] [] else uI U fin ks c e s:=aap U h fin ks e s
theorem UJ (x:AV):∀n:Nat,Vk n [x]=List.replicate n x
 |0=>rfl
 |n+1=>by rw[Vk,UJ x n];rfl
theorem MF:∀(cs:List AV) (i:Nat) (x:AV),i<cs.length->lay i [x] cs=some (cs.set i x)
 |[],i,x,h=>by simp at h
 |c::cs,0,x,h=>by rw[AX,uH];rfl
 |c::cs,i+1,x,h=>by
  rw[AW,MF cs i x (by simpa using h)];rfl
def part {A:Type}(l:List A)(z:A)(n i:Nat):List A:=l.take i++List.replicate (n-i) z
theorem AU {A:Type}(l:List A)(z:A){n i:Nat}(h:l.length=n)(hi:i<=n):(part l z n i).length=n:=by
 simp[part,h];omega
theorem AT {A:Type}(l:List A)(z:A){n i:Nat}(h:l.length=n)(hi:i<n):(part l z n i).set i (l[i]'(by omega))=part l z n (i+1):=by
 unfold part;have h1:(l.take i).length=i:=by rw[aj2];omega
 rw[List.set_append,if_neg (by omega),h1,Nat.sub_self,show n-i=(n-(i+1))+1 by omega,List.replicate_succ,List.set_cons_zero,ajC (by omega),ajQ];rfl
theorem EN {A:Type}(l:List A)(z:A){n:Nat}(h:l.length=n):part l z n n=l:=by
 unfold part;rw[Nat.sub_self,List.replicate_zero,ajG,<-h,List.take_length]
theorem rX {A:Type}(l:List A)(z:A)(n:Nat):part l z n 0=List.replicate n z:=by unfold part;simp
theorem Jz {s:St}{b d:Nat}{cap:Option Nat}{l:List Int}(hg:s.get b=some (.cells (ints l) 3 false 0 0)):Yc U s (d+2) (.sl b 0 l.length cap 1)=some (.fz (ints l)):=by
 have e:l.length=(ints l).length:=(Zl l).symm;rw[QF,hg,UQ,ajj,e,Wi,DP,DO,Rh,if_pos (VB l),Vt,U_,SQ]
theorem agC (x lines:Int)(h0:1<=lines)(h1:lines<=16):Zw U 135 [.int .i64 x,.fp [.int .i64 lines] 0]=some (.bool (outside x 0 (2^lines.toNat-1))):=by
 refine ZI agD (by kernel_rfl) (by simp[ZO,still]) ?_;have hp:(decide (x<0)||decide (x>=2^lines.toNat))=outside x 0 (2^lines.toNat-1):=by
  unfold outside
  congr 1
  congr 1
  apply propext;omega
 rw[<-hp];simp +contextual only[go_sem,adt,Va U _ _ _ (show 0<=lines/\lines<=16 from⟨by omega,h1⟩)]
def F0 (P:Int->Bool):Nat->List Int->Int
 |_,[] => -1
 |i,x::l=>bif P x then (i:Int) else F0 P (i+1) l
theorem HP (P:Int->Bool):∀(l:List Int) (i:Nat),decide (F0 P i l>=0)=l.any P
 |[],i=>by simp[F0]
 |x::l,i=>by
  rw[F0,List.any_cons]
  cases P x with
  |true=>simp
  |false=>rw[cond_false,HP P l (i+1),ajU]
theorem agE (nl:Bool)(l:List Int)(lines:Int)(h0:1<=lines)(h1:lines<=16)(hl:l.length<=2^40) :
  Zw U 173 [ZG nl (ints l),.fn (.func 135) [] [.fp [.int .i64 lines] 0]]=some (.int .i64 (F0 (fun x=>outside x 0 (2^lines.toNat-1)) 0 l)):=by
 refine ZI adu (by kernel_rfl) (by simp[ZO,still,YZ]) ?_;simp +contextual only[go_sem,aaq,ZJ,Zl];refine Ym (σ:=Nat) (fun i=>l.length-i) (fun i=>some (AV.int .i64 (F0 (fun x=>outside x 0 (2^lines.toNat-1)) i (l.drop i)))) (fun i e s=>i<=l.length/\Env.get e 0=ZG nl (ints l)/\Env.get e 1=.fn (.func 135) [] [.fp [.int .i64 lines] 0]/\Env.get e 7=.int .i64 l.length/\Env.get e 8=.int .i64 i) 0 ?_ rfl ?_
 ·rintro L i e s ⟨hi,g0,g1,g7,g8⟩ ih;by_cases hd:i<l.length
  ·have hx:=Ia (nl:=nl) hd;have hw:=ZE hd (by omega);have Cu:XS l (i:Int)=l[i]:=by unfold XS;rw[ajD,ajl,aaa hd];rfl
   rw[Cu] at hx;have hc:=agC l[i] lines h0 h1;rw[abc hd,F0];simp +contextual only[go_sem,Ow,g0,g1,g7,g8,Z9,hd,hx,hc]
   cases hb:outside l[i] 0 (2^lines.toNat-1) with
   |true=>simp +contextual only[go_sem]
   |false =>
    simp +contextual only[go_sem,hw];refine ih (i+1) _ _ (by omega) ⟨by omega,?_,?_,?_,?_⟩ <;> simp +contextual only[go_sem,g0,g1,g7,g8,hw]
  ·have:i=l.length:=by omega
   subst this;simp +contextual only[go_sem,Ow,g0,g1,g7,g8,Z9,ajp];rw[ajy];rfl
 ·refine⟨aji _,?_,?_,?_,?_⟩ <;> simp +contextual only[go_sem] <;> rfl
theorem agF (nl:Bool)(l:List Int)(lines:Int)(h0:1<=lines)(h1:lines<=16)(hl:l.length<=2^40) :
  Zw U 134 [ZG nl (ints l),.fn (.func 135) [] [.fp [.int .i64 lines] 0]]=some (.bool (Pj lines l)):=by
 refine ZI adv (by kernel_rfl) (by simp[ZO,still,YZ]) ?_;have:=agE nl l lines h0 h1 hl;have hi:=HP (fun x=>outside x 0 (2^lines.toNat-1)) l 0;simp +contextual only[go_sem,aar,this,hi];rfl
theorem adw {args:List AV}{s:St}(h:ZO args=false):XR U (Zw U 134 args) 134 args s=Tq U 134 (YT (Yc U s 40) args) s:=yP (by kernel_rfl) s h
theorem c91 (nl:Bool)(l:List Int)(lines:Int)(h0:1<=lines)(h1:lines<=16):Zw U 66 [.int .i64 lines,ZG nl (ints l)]=some (.int .i64 (U0 lines l)):=by
 refine ZI k91 (by kernel_rfl) (by simp[ZO,still,YZ]) ?_;rw[U0]
 cases hb:decide ((l.length:Int)>4096) with
 |true =>
  simp +contextual only[go_sem,r91,ZJ,Zl,hb]
 |false =>
  have hle:l.length<=2^40:=by simp at hb;omega
  have hz:=fun s=>FL (agF nl l lines h0 h1 hle) (by kernel_rfl) (by simp[ZO,still,YZ]) rfl s
  have WY:ZO [ZG nl (ints l),.fn (.func 135) [] [.ptr 8 0]]=false:=by simp[ZO,still,YZ]
  simp +contextual only[go_sem,r91,ZJ,Zl,hb,adw WY,VW,hz,B9]
def MU:List Int->List Int->Bool
 |[],[]=>true
 |x::a,y::b=>bif x != y then false else MU a b
 |_,_=>false
theorem EL:∀{a b:List Int},a.length≠b.length->MU a b=false
 |[],[],h=>absurd rfl h
 |[],_::_,_=>rfl
 |_::_,[],_=>rfl
 |a::x,b::y,h=>by
  rw[MU,EL (fun e=>h (by simp[e]))]
  cases a != b <;> rfl
theorem agl {f:FuncId}(hk:Zb f=some ([.tmp 4],aas))(hp:Pq f=true)(na nb:Bool)(a b:List Int)(ha:a.length<2^62):Zw U f [ZG na (ints a),ZG nb (ints b)]=some (.bool (MU a b)):=by
 refine ZI hk hp (by simp[ZO,YZ,still]) ?_;simp (maxSteps:=2000000) +contextual only[go_sem,aas,ZJ,Zl]
 cases hl:((a.length:Int) != (b.length:Int)) with
 |true =>
  have:a.length≠b.length:=by simp at hl;omega
  rw[EL this];simp +contextual only[go_sem]
 |false =>
  have hl:a.length=b.length:=by simp at hl;omega
  simp +contextual only[go_sem];refine Ym (σ:=Nat) (fun i=>a.length-i) (fun i=>some (AV.bool (MU (a.drop i) (b.drop i)))) (fun i e s=>i<=a.length/\Env.get e 0=ZG na (ints a)/\Env.get e 1=ZG nb (ints b)/\Env.get e 5=.int .i64 i) 0 ?_ rfl ?_
  ·rintro L i e s ⟨hi,g0,g1,g5⟩ ih;by_cases hd:i<a.length
   ·have MO:i<b.length:=by omega
    have hx:UC 1 (ZG na (ints a)) (.int .i64 (i:Int))=some (.fp [.int .i64 a[i]] 0):=VR 1 na (ints a) .i64 i (.int .i64 a[i]) (by omega) (by rw[ajD,SW,aaa hd];rfl) rfl (by decide);have hy:UC 1 (ZG nb (ints b)) (.int .i64 (i:Int))=some (.fp [.int .i64 b[i]] 0):=VR 1 nb (ints b) .i64 i (.int .i64 b[i]) (by omega) (by rw[ajD,SW,aaa MO];rfl) rfl (by decide);have hw:=ZE hd (by omega);rw[abc hd,abc MO,MU];simp +contextual only[go_sem,C',g0,g1,g5,Z9,hd,hx,hy,ZJ,Zl]
    cases hb:a[i] != b[i] with
    |true=>simp +contextual only[go_sem]
    |false =>
     simp +contextual only[go_sem,hw];refine ih (i+1) _ _ (by omega) ⟨by omega,?_,?_,?_⟩ <;> simp +contextual only[go_sem,g0,g1,g5,hw]
   ·have:i=a.length:=by omega
    subst this;simp +contextual only[go_sem,C',g0,g1,g5,Z9,ajp,ZJ,Zl];rw[ajy,hl,ajy];rfl
  ·refine⟨aji _,?_,?_,?_⟩ <;> simp +contextual only[go_sem] <;> rfl
end Go.Am
namespace Go.Am
open Go
variable [ZZ]
set_option maxRecDepth 100000
set_option maxHeartbeats 4000000
def U6 (a:YY):AV:=ZG a.TN (a.next.map Zi)
def Xd (a:YY):AV:=ZG a.Tc (a.ZC.map Zq)
theorem WT (a:YY):VQ a=.agg [.int .i64 a.lines,U6 a,Xd a]:=rfl
theorem Xp (a:YY):still (VQ a)=true:=by simp[VQ,still,ZO,YZ]
theorem Ru {nl:Bool}{l:List (Bool×List Int)}{i:Nat}(h:i<l.length):UC 1 (ZG nl (l.map Zi)) (.int .i64 (i:Int))=some (.fp [ZG l[i].1 (ints l[i].2)] 0):=by
 have:=VR 1 nl (l.map Zi) .i64 i (Zi l[i]) (by omega) (by rw[ajD,ajv,aaa h];rfl) (by rw[Zi,ZR];rfl) (by decide);rw[Zi,ZR] at this;exact this
theorem Pg {nl:Bool}{l:List (Bool×List Bool)}{i:Nat}(h:i<l.length):UC 1 (ZG nl (l.map Zq)) (.int .i64 (i:Int))=some (.fp [ZG l[i].1 (ZB l[i].2)] 0):=by
 have:=VR 1 nl (l.map Zq) .i64 i (Zq l[i]) (by omega) (by rw[ajD,ajv,aaa h];rfl) (by rw[Zq,ZR];rfl) (by decide);rw[Zq,ZR] at this;exact this
theorem Ph {nl:Bool}{l:List Int}{i:Nat}(h:i<l.length):UC 1 (ZG nl (ints l)) (.int .i64 (i:Int))=some (.fp [.int .i64 l[i]] 0) :=
 VR 1 nl (ints l) .i64 i (.int .i64 l[i]) (by omega) (by rw[ajD,SW,aaa h];rfl) rfl (by decide)
theorem Fb {nl:Bool}{l:List Bool}{i:Nat}(h:i<l.length):UC 1 (ZG nl (ZB l)) (.int .i64 (i:Int))=some (.fp [.bool l[i]] 0) :=
 VR 1 nl (ZB l) .i64 i (.bool l[i]) (by omega) (by rw[ajD,EO,aaa h];rfl) rfl (by decide)
def Cm (lines:Int):Int:=2^lines.toNat
def Ud (m n:Int):List (Bool×List Int)->List (Bool×List Bool)->Int
 |[],_=>0
 |r::l,f=>br ((r.2.length:Int) != m||(((f.headD (true,[])).2.length:Int) != m)) 2 <| br (r.2.any fun x=>outside x 0 (n-1)) 10 <| Ud m n l f.tail
def Jy (a:YY):Int :=
 br (outside a.lines 1 4) 3 <| br ((a.next.length:Int)==0) 12 <| br (decide ((a.next.length:Int)>256)) 5 <| br ((a.ZC.length:Int) != a.next.length) 2 <| Ud (Cm a.lines) a.next.length a.next a.ZC
theorem c50 (a:YY):Zw U 17 [VQ a]=some (.int .i64 (Jy a)):=by
 refine ZI k50 (by kernel_rfl) (by simp[ZO,Xp]) ?_;rw[WT,Jy];have nn:=ZW a.TN (a.next.map Zi);have nf:=ZW a.Tc (a.ZC.map Zq);have ln:=ZJ a.TN (a.next.map Zi);have lf:=ZJ a.Tc (a.ZC.map Zq);have cn:=ZR a.TN (a.next.map Zi);have cf:=ZR a.Tc (a.ZC.map Zq);rw[aje] at ln lf;unfold U6 Xd
 cases ho:outside a.lines 1 4 with
 |true =>
  simp only[go_sem,r50,aU,nn,nf,cn,cf,ho]
 |false =>
 have hl:1<=a.lines/\a.lines<=4:=by
  simp only[outside,ajJ,decide_eq_false_iff_not] at ho;omega
 have SF:=Va U 3 true .i64 (n:=a.lines) (show 0<=a.lines/\a.lines<=16 by omega);simp only[go_sem,r50,aU,nn,nf,cn,cf,ln,lf,ho];simp only[TX];refine Ug fun h1=>?_
 refine Ug fun h2=>?_
 refine Ug fun h3=>?_
 have hn:a.next.length<=256:=by simp at h2;omega
 have Lt:a.ZC.length=a.next.length:=by simp at h3;omega
 have hp:=Pk a.lines (by omega);have tX:IntKind.i64.wrap ((a.next.length:Int)-1)=(a.next.length:Int)-1:=by rw[wrap_i64] <;> omega
 refine Ym (σ:=Nat) (fun i=>a.next.length-i) (fun i=>some (AV.int .i64 (Ud (Cm a.lines) a.next.length (a.next.drop i) (a.ZC.drop i)))) (fun i e s=>i<=a.next.length/\Env.get e 1=.ptr 8 0/\Env.get e 3=.int .i64 (i:Nat)/\8<s.next /\
  s.get 8=some (.cells [.int .i64 a.lines,ZG a.TN (a.next.map Zi),ZG a.Tc (a.ZC.map Zq)] 46 false 0 0)) 0 ?_ (by rw[ajS,ajS]) ?_
 ·rintro L i e s ⟨hi,g1,g3,nx,gs⟩ IH;by_cases hd:i<a.next.length
  ·have hw:=ZE hd (by omega);have hx:=Ru (nl:=a.TN) hd;have hy:=Pg (nl:=a.Tc) (show i<a.ZC.length by omega);have Qf:=ZJ a.next[i].1 (ints a.next[i].2);have zj:=ZJ a.ZC[i].1 (ZB a.ZC[i].2);rw[Zl] at Qf;rw[Wm] at zj;have hfd:(a.ZC.drop i).headD (true,[])=a.ZC[i]:=by rw[abc (show i<a.ZC.length by omega)];rfl
   have hft:(a.ZC.drop i).tail=a.ZC.drop (i+1):=by rw[List.tail_drop]
   rw[abc hd,Ud,hfd,hft];generalize hR:a.next[i]=R at *;generalize hF:a.ZC[i]=F at *;have ne8:∀q,(s.next+q=8)=False:=fun q=>by simp;omega
   cases h4:((R.2.length:Int) != Cm a.lines) with
   |true =>
    unfold Cm at h4;simp only[go_sem,Iu,g1,g3,gs,Z9,hd,ln,lf,hx,hy,Qf,zj,SF,h4]
    all_goals rfl
   |false =>
   cases h5:((F.2.length:Int) != Cm a.lines) with
   |true =>
    unfold Cm at h4 h5;simp only[go_sem,Iu,g1,g3,gs,Z9,hd,ln,lf,hx,hy,Qf,zj,SF,h4,h5]
    all_goals rfl
   |false =>
    unfold Cm at h4 h5;simp only[go_sem,Iu,g1,g3,gs,Z9,hd,ln,lf,hx,hy,Qf,zj,SF,h4,h5];have hRl:R.2.length<=65536:=by simp at h4;omega
    refine Ym (σ:=Nat) (fun x=>R.2.length-x) (fun x=>some (AV.int .i64 (br ((R.2.drop x).any fun y=>outside y 0 ((a.next.length:Int)-1)) 10 (Ud (Cm a.lines) a.next.length (a.next.drop (i+1)) (a.ZC.drop (i+1)))))) (fun x e s=>x<=R.2.length/\Env.get e 1=.ptr 8 0/\Env.get e 3=.int .i64 (i:Nat)/\Env.get e 4=.int .i64 (x:Nat)/\8<s.next /\
     s.get 8=some (.cells [.int .i64 a.lines,ZG a.TN (a.next.map Zi),ZG a.Tc (a.ZC.map Zq)] 46 false 0 0)) 0 ?_ (by rw[ajS];rfl) ?_
    ·rintro L' x e' s' ⟨Ms,g1',g3',g4',nx',cC⟩ IH';by_cases MO:x<R.2.length
     ·have M8:=ZE MO (by omega);have hxx:=Ph (nl:=R.1) MO;rw[abc MO,List.any_cons]
      cases KI:outside R.2[x] 0 ((a.next.length:Int)-1) with
      |true=>simp only[go_sem,Dn,g1',g3',g4',cC,Z9,MO,ln,hx,Qf,hxx,tX,aU,KI,Bool.true_or]
      |false =>
       simp only[go_sem,Dn,g1',g3',g4',cC,Z9,MO,ln,hx,Qf,hxx,tX,aU,KI,ajU,M8];refine IH' (x+1) _ _ (by omega) ⟨by omega,?_,?_,?_,?_,?_⟩
       all_goals simp only[go_sem,g1',g3',g4',cC,M8,ZH]
       all_goals omega
     ·have:x=R.2.length:=by omega
      subst this;simp only[go_sem,Dn,g1',g3',g4',cC,Z9,ajp,ln,hx,Qf,hw];rw[ajy];refine IH (i+1) _ _ (by omega) ⟨by omega,?_,?_,?_,?_⟩
      all_goals try simp only[go_sem,g1',g3',cC,hw]
      all_goals omega
    ·refine⟨aji _,?_,?_,?_,?_,?_⟩
     all_goals try simp only[go_sem,g1,g3,gs]
     all_goals first|rfl|omega
  ·have:i=a.next.length:=by omega
   subst this;simp only[go_sem,Iu,g1,g3,gs,Z9,ajp,ln];rw[ajy,Ud]
 ·refine⟨aji _,?_,?_,?_,?_⟩
  all_goals try simp only[go_sem]
  all_goals rfl
def HO (a:YY):List AV:=[.int .i64 a.lines,ZG a.TN (a.next.map Zi),ZG a.Tc (a.ZC.map Zq)]
theorem agJ (x:Int)(a:YY)(hn:a.next.length<=2^40):Zw U 154 [.int .i64 x,.fp (HO a) 0]=some (.bool (outside x 0 ((a.next.length:Int)-1))):=by
 refine ZI agK (by kernel_rfl) (by simp[ZO,still]) ?_;have ln:=ZJ a.TN (a.next.map Zi);rw[aje] at ln;have hp:outside x 0 ((a.next.length:Int)-1)=(decide (x<0)||decide (x>=(a.next.length:Int))):=by
  unfold outside
  congr 1
  congr 1
  apply propext;omega
 rw[hp];unfold HO
 cases h:decide (x<0) <;> simp +contextual only[go_sem,ady,ln,h]
 all_goals rfl
theorem adz (x:Int)(a:YY)(hn:a.next.length<=2^40)(s:St):MN U (.fn (.func 154) [] [.fp (HO a) 0]) [.int .i64 x] s=some (.bool (outside x 0 ((a.next.length:Int)-1)),s):=by
 have h:=agJ x a hn;simp only[QL,ajP,ajz,h,Vy]
theorem adA (P:Int->Bool)(fn:AV)(WY:still fn=true)(hf:∀x s,MN U fn [.int .i64 x] s=some (.bool (P x),s))(nl:Bool)(l:List Int)(hl:l.length<=2^40):Zw U 173 [ZG nl (ints l),fn]=some (.int .i64 (F0 P 0 l)):=by
 refine ZI adu (by kernel_rfl) (by simp[ZO,YZ,WY]) ?_;simp +contextual only[go_sem,aaq,ZJ,Zl];refine Ym (σ:=Nat) (fun i=>l.length-i) (fun i=>some (AV.int .i64 (F0 P i (l.drop i)))) (fun i e s=>i<=l.length/\Env.get e 0=ZG nl (ints l)/\Env.get e 1=fn/\Env.get e 7=.int .i64 l.length/\Env.get e 8=.int .i64 i) 0 ?_ rfl ?_
 ·rintro L i e s ⟨hi,g0,g1,g7,g8⟩ ih;by_cases hd:i<l.length
  ·have hx:=Ph (nl:=nl) hd;have hw:=ZE hd (by omega);rw[abc hd,F0];have hc:=hf l[i]
   cases hb:P l[i] with
   |true=>simp +contextual only[go_sem,Ow,g0,g1,g7,g8,Z9,hd,hx,hc,hb]
   |false =>
    simp +contextual only[go_sem,Ow,g0,g1,g7,g8,Z9,hd,hx,hc,hb,hw];refine ih (i+1) _ _ (by omega) ⟨by omega,?_,?_,?_,?_⟩ <;> simp +contextual only[go_sem,g0,g1,g7,g8,hw]
  ·have:i=l.length:=by omega
   subst this;simp +contextual only[go_sem,Ow,g0,g1,g7,g8,Z9,ajp];rw[ajy];rfl
 ·refine⟨aji _,?_,?_,?_,?_⟩ <;> simp +contextual only[go_sem] <;> rfl
theorem adB (P:Int->Bool)(fn:AV)(WY:still fn=true)(hf:∀x s,MN U fn [.int .i64 x] s=some (.bool (P x),s))(nl:Bool)(l:List Int)(hl:l.length<=2^40):Zw U 134 [ZG nl (ints l),fn]=some (.bool (l.any P)):=by
 refine ZI adv (by kernel_rfl) (by simp[ZO,YZ,WY]) ?_;have h:=adA P fn WY hf nl l hl;have hi:=HP P l 0;simp +contextual only[go_sem,aar,h,hi]
theorem c58 (a:YY)(hn:a.next.length<=2^40)(hr:∀r∈a.next,r.2.length<=2^40):Zw U 94 [VQ a]=some (.int .i64 (Jy a)):=by
 refine ZI k58 (by kernel_rfl) (by simp[ZO,Xp]) ?_;rw[WT];have nn:=ZW a.TN (a.next.map Zi);have nf:=ZW a.Tc (a.ZC.map Zq);have ln:=ZJ a.TN (a.next.map Zi);have lf:=ZJ a.Tc (a.ZC.map Zq);have cn:=ZR a.TN (a.next.map Zi);have cf:=ZR a.Tc (a.ZC.map Zq);rw[aje] at ln lf;unfold U6 Xd;have hz:ZO [.sl 29 0 4 (some 4) 1]=false:=rfl;simp (maxSteps:=2000000) +contextual only[go_sem,r58,iK,B9,nn,nf,cn,cf,ln,lf,z89,po];rw[show within a.lines 1 4=br (outside a.lines 1 4) 3 0 from rfl,Jy]
 cases ho:outside a.lines 1 4 with
 |true=>rfl
 |false =>
 cases h1:((a.next.length:Int)==0) with
 |true=>rfl
 |false =>
 cases h2:decide ((a.next.length:Int)>256) with
 |true=>rfl
 |false =>
 cases h3:((a.ZC.length:Int) != a.next.length) with
 |true=>rfl
 |false =>
 have hl:1<=a.lines/\a.lines<=4:=by
  simp only[outside,ajJ,decide_eq_false_iff_not] at ho;omega
 have SF:=Va U 3 true .i64 (n:=a.lines) (show 0<=a.lines/\a.lines<=16 by omega);have hp:=Pk a.lines (by omega);have hn:a.next.length<=256:=by simp at h2;omega
 have Lt:a.ZC.length=a.next.length:=by simp at h3;omega
 simp only[YU];rw[show (Yh [0,0,0,0] != 0)=false from rfl,YU];refine Ym (σ:=Nat) (fun i=>a.next.length-i) (fun i=>some (AV.int .i64 (Ud (Cm a.lines) a.next.length (a.next.drop i) (a.ZC.drop i)))) (fun i e s=>i<=a.next.length/\Env.get e 1=.ptr 8 0/\Env.get e 36=ZG a.TN (a.next.map Zi)/\Env.get e 37=.int .i64 a.next.length/\Env.get e 38=.int .i64 (i:Nat)/\8<s.next/\Fr s /\
  s.get 8=some (.cells [.int .i64 a.lines,ZG a.TN (a.next.map Zi),ZG a.Tc (a.ZC.map Zq)] 42 false 0 0)) 0 ?_ (by rw[ajS,ajS]) ?_
 ·rintro L i e s ⟨hi,g1,oE,yj,oy,nx,fr,gs⟩ IH;by_cases hd:i<a.next.length
  ·have hw:=ZE hd (by omega);have hx:=Ru (nl:=a.TN) hd;have hy:=Pg (nl:=a.Tc) (show i<a.ZC.length by omega);have Qf:=ZJ a.next[i].1 (ints a.next[i].2);have zj:=ZJ a.ZC[i].1 (ZB a.ZC[i].2);rw[Zl] at Qf;rw[Wm] at zj;have hfd:(a.ZC.drop i).headD (true,[])=a.ZC[i]:=by rw[abc (show i<a.ZC.length by omega)];rfl
   have hft:(a.ZC.drop i).tail=a.ZC.drop (i+1):=by rw[List.tail_drop]
   rw[abc hd,Ud,hfd,hft];generalize hR:a.next[i]=R at *;generalize hF:a.ZC[i]=F at *;have ne8:∀q,(s.next+q=8)=False:=fun q=>by simp;omega
   have adC:(s.next=8)=False:=by simp;omega
   have LC:=fr.at;have vQ:=hr R (by rw[<-hR];exact ajc hd);have hz:=fun s=>FL (adB _ (.fn (.func 154) [] [.fp (HO a) 0]) (by simp[still,ZO]) (fun x s=>adz x a (by omega) s) R.1 R.2 vQ) (by kernel_rfl) (by simp[ZO,still,YZ]) rfl s
   have WY:ZO [ZG R.1 (ints R.2),.fn (.func 154) [] [.ptr 8 0]]=false:=by simp[ZO,still,YZ]
   have oO:∀j,ZO [.sl j 0 2 (some 2) 1]=false:=fun _=>rfl
   simp only[HO] at hz;simp (maxSteps:=2000000) +contextual only[go_sem,yv,g1,oE,yj,oy,gs,Z9,hd,ln,lf,hx,hy,Qf,zj,SF,ne8,adC,LC,adw WY,VW,hz,B9,z89,pq,oO,ajf,Nat.left_eq_add];have hm:(2:Int)^a.lines.toNat=Cm a.lines:=rfl;rw[hm]
   cases h4:((R.2.length:Int) != Cm a.lines||(F.2.length:Int) != Cm a.lines) with
   |true=>rfl
   |false =>
   cases h5:(R.2.any fun x=>outside x 0 ((a.next.length:Int)-1)) with
   |true=>rfl
   |false =>
   simp only[YU];rw[show (Yh [0,0] != 0)=false from rfl,YU];refine IH (i+1) _ _ (by omega) ⟨by omega,?_,?_,?_,?_,?_,?_,?_⟩
   case refine_6 =>
    repeat first|exact fr|apply Fr.new|apply Fr.put|apply Fr.upto
    all_goals try simp +contextual only[go_sem]
    all_goals omega
   all_goals try simp +contextual only[go_sem,g1,oE,yj,gs,hw,ne8,adC]
   all_goals omega
  ·have:i=a.next.length:=by omega
   subst this;simp +contextual only[go_sem,yv,yj,oy,Z9,ajp];rw[ajy,Ud]
 ·refine⟨aji _,?_,?_,?_,?_,?_,?_,?_⟩
  case refine_6 =>
   repeat first|exact Fr.own|apply Fr.new|apply Fr.put|apply Fr.upto
   all_goals simp +contextual only[go_sem]
  all_goals try simp +contextual only[go_sem]
  all_goals rfl
end Go.Am
namespace Go.Am
open Go
structure Fa where
 n:Nat
 m:Nat
 nx:Nat->Nat->Nat
 fr:Nat->Nat->Bool
structure Fa.ok (A:Fa):Prop where
 pos:0<A.n
 lt:∀s x,s<A.n->x<A.m->A.nx s x<A.n
def Fa.E (A:Fa)(f:Nat->Nat)(u v:Nat):Prop:=∀x,x<A.m->A.fr u x=A.fr v x/\f (A.nx u x)=f (A.nx v x)
theorem Fa.ab_ (A:Fa)(f:Nat->Nat)(u:Nat):A.E f u u:=fun _ _=>⟨rfl,rfl⟩
theorem Fa.E.symm {A:Fa}{f:Nat->Nat}{u v:Nat}(h:A.E f u v):A.E f v u:=fun x hx=>⟨(h x hx).1.symm,(h x hx).2.symm⟩
theorem Fa.E.trans {A:Fa}{f:Nat->Nat}{u v w:Nat}(h:A.E f u v)(k:A.E f v w):A.E f u w:=fun x hx=>⟨(h x hx).1.trans (k x hx).1,(h x hx).2.trans (k x hx).2⟩
def jL (A:Fa)(f:Nat->Nat)(u v:Nat):Nat->Bool
 |0=>true
 |x+1=>jL A f u v x&&(A.fr u x==A.fr v x&&f (A.nx u x)==f (A.nx v x))
theorem zx (A:Fa)(f:Nat->Nat)(u v:Nat):∀k,jL A f u v k=true<->∀x,x<k->A.fr u x=A.fr v x/\f (A.nx u x)=f (A.nx v x)
 |0=>by simp[jL]
 |k+1=>by
  rw[jL,adm,zx A f u v k,adm,beq_iff_eq,beq_iff_eq]
  constructor
  ·rintro⟨h1,h2⟩ x hx;by_cases e:x=k
   ·subst e;exact h2
   ·exact h1 x (by omega)
  ·intro h;exact⟨fun x hx=>h x (by omega),h k (by omega)⟩
def alk (A:Fa)(f:Nat->Nat)(u v:Nat):Bool:=jL A f u v A.m
theorem tH (A:Fa)(f:Nat->Nat)(u v:Nat):alk A f u v=true<->A.E f u v:=zx A f u v A.m
def LG (al:Nat->Bool):Nat->Nat->Nat
 |0,c=>c
 |k+1,c=>LG al k (bif al k then k else c)
theorem Nh (al:Nat->Bool):∀k c,k<=c->(LG al k c<=c)/\(LG al k c=c\/(LG al k c<k/\al (LG al k c)=true))/\∀o,o<k->o<LG al k c->al o=false
 |0,c,_=>⟨ajg _,.inl rfl,fun o h=>by omega⟩
 |k+1,c,hk=>by
  rw[LG]
  cases ha:al k with
  |true =>
   obtain⟨h1,h2,h3⟩:=Nh al k k (ajg _);simp only[cond_true];refine⟨by omega,.inr ?_,fun o ho hs=>h3 o (by omega) hs⟩;rcases h2 with h2|⟨h2,h4⟩
   ·rw[h2];exact⟨by omega,ha⟩
   ·exact⟨by omega,h4⟩
  |false =>
   obtain⟨h1,h2,h3⟩:=Nh al k c (by omega);simp only[cond_false];refine⟨h1,?_,fun o ho hs=>?_⟩
   ·rcases h2 with h2|⟨h2,h4⟩
    ·exact .inl h2
    ·exact .inr ⟨by omega,h4⟩
   ·by_cases e:o=k
    ·subst e;exact ha
    ·exact h3 o (by omega) hs
def Tf (A:Fa)(f:Nat->Nat)(s:Nat):Nat:=LG (alk A f s) s s
theorem Oi (A:Fa)(f:Nat->Nat)(s:Nat):Tf A f s<=s/\A.E f s (Tf A f s)/\∀o,o<Tf A f s->¬A.E f s o:=by
 obtain⟨h1,h2,h3⟩:=Nh (alk A f s) s s (ajg _);refine⟨h1,?_,fun o ho he=>?_⟩
 ·rcases h2 with h2|⟨_,h2⟩
  ·show A.E f s (LG _ s s);rw[h2];exact A.ab_ f s
  ·exact (tH A f _ _).1 h2
 ·have:=h3 o (by unfold Tf at ho;omega) ho;rw[(tH A f _ _).2 he] at this
  cases this
theorem LD (A:Fa)(f:Nat->Nat)(u v:Nat):Tf A f u=Tf A f v<->A.E f u v:=by
 obtain⟨u1,u2,u3⟩:=Oi A f u;obtain⟨v1,v2,v3⟩:=Oi A f v
 constructor
 ·intro h;rw[h] at u2;exact u2.trans v2.symm
 ·intro h;have a:¬Tf A f u<Tf A f v:=fun hl=>v3 _ hl (h.symm.trans u2)
  have b:¬Tf A f v<Tf A f u:=fun hl=>u3 _ hl (h.trans v2)
  omega
structure Can (g:Nat->Nat):Prop where
 le:∀s,g s<=s
 fix:∀s,g (g s)=g s
theorem Can.min {g:Nat->Nat}(h:Can g){s u:Nat}(e:g u=g s):g s<=u:=by rw[<-e];exact h.le u
theorem GF (A:Fa)(f:Nat->Nat):Can (Tf A f):=⟨fun s=>(Oi A f s).1,fun s=>((LD A f _ _).2 (Oi A f s).2.1).symm⟩
def dS (g f:Nat->Nat):Prop:=∀u v,g u=g v->f u=f v
theorem qj (A:Fa){f:Nat->Nat}(h:dS (Tf A f) f):dS (Tf A (Tf A f)) (Tf A f):=fun u v e=>by
 rw[LD] at e ⊢;exact fun x hx=>⟨(e x hx).1,h _ _ (e x hx).2⟩
def OT (g:Nat->Nat):Nat->Nat
 |0=>0
 |k+1=>OT g k+if g k=k then 1 else 0
theorem tG (g:Nat->Nat):∀k,OT g k<=k
 |0=>ajg _
 |k+1=>by have:=tG g k;rw[OT];split <;> omega
theorem D5 {g h:Nat->Nat}(H:∀s,g s=s->h s=s):∀k,OT g k<=OT h k
 |0=>ajg _
 |k+1=>by
  have:=D5 H k;rw[OT,OT];by_cases e:g k=k
  ·rw[if_pos e,if_pos (H k e)];omega
  ·rw[if_neg e];split <;> omega
theorem tF {g h:Nat->Nat}(H:∀s,g s=s->h s=s){t:Nat}(h1:h t=t)(h2:g t≠t):∀k,t<k->OT g k<OT h k
 |k+1,hk=>by
  rw[OT,OT];by_cases e:t=k
  ·subst e;have:=D5 H t;rw[if_neg h2,if_pos h1];omega
  ·have:=tF H h1 h2 k (by omega);by_cases e:g k=k
   ·rw[if_pos e,if_pos (H k e)];omega
   ·rw[if_neg e];split <;> omega
theorem grow {g h:Nat->Nat}(cg:Can g)(ch:Can h)(hf:dS h g){n s:Nat}(hs:s<n)(Zv:h s≠g s):OT g n<OT h n:=by
 refine tF (t:=h s) (fun u hu=>?_) (ch.fix s) (fun e=>?_) n (akg (ch.le s) hs)
 ·have:=hf (h u) u (ch.fix u);have:=cg.min this;have:=ch.le u;omega
 ·have:=hf (h s) s (ch.fix s);exact Zv (by omega)
def NR (g f:Nat->Nat):Nat->Bool
 |0=>true
 |k+1=>NR g f k&&g k==f k
theorem KQ (g f:Nat->Nat):∀k,NR g f k=true<->∀s,s<k->g s=f s
 |0=>by simp[NR]
 |k+1=>by
  rw[NR,adm,KQ g f k,beq_iff_eq]
  constructor
  ·rintro⟨h1,h2⟩ s hs;by_cases e:s=k
   ·subst e;exact h2
   ·exact h1 s (by omega)
  ·intro h;exact⟨fun s hs=>h s (by omega),h k (by omega)⟩
def JR (A:Fa):Nat->(Nat->Nat)->Nat->Nat
 |0,f=>f
 |r+1,f=>bif NR (Tf A f) f A.n then f else JR A r (Tf A f)
theorem zw {g f:Nat->Nat}{k:Nat}(h:NR g f k=false):∃s,s<k/\g s≠f s:=by
 refine Classical.byContradiction fun hc=>?_
 have:NR g f k=true:=(KQ g f k).2 fun s hs=>Classical.byContradiction fun e=>hc ⟨s,hs,e⟩
 rw[h] at this;cases this
theorem Ke (A:Fa):∀(r:Nat) (f:Nat->Nat),Can f->dS (Tf A f) f->A.n<OT f A.n+r->∀s,s<A.n->Tf A (JR A r f) s=JR A r f s
 |0,f,_,_,h=>by have:=tG f A.n;omega
 |r+1,f,cf,hf,h=>by
  rw[JR]
  cases hs:NR (Tf A f) f A.n with
  |true=>exact (KQ _ _ _).1 hs
  |false =>
   obtain⟨s,h1,h2⟩:=zw hs;have:=grow cf (GF A f) hf h1 h2;exact Ke A r _ (GF A f) (qj A hf) (by omega)
theorem zu (A:Fa):∀(r:Nat) (f:Nat->Nat),Can f->Can (JR A r f)
 |0,f,h=>h
 |r+1,f,h=>by
  rw[JR]
  cases NR (Tf A f) f A.n with
  |true=>exact h
  |false=>exact zu A r _ (GF A f)
structure Bis (A:Fa)(B:Nat->Nat->Prop):Prop where
 lt:∀u v,B u v->u<A.n/\v<A.n
 fr:∀u v,B u v->∀x,x<A.m->A.fr u x=A.fr v x
 nx:∀u v,B u v->∀x,x<A.m->B (A.nx u x) (A.nx v x)
theorem zt {A:Fa}{B:Nat->Nat->Prop}(hB:Bis A B):∀(r:Nat) (f:Nat->Nat),(∀u v,B u v->f u=f v)->∀u v,B u v->JR A r f u=JR A r f v
 |0,f,h=>h
 |r+1,f,h=>by
  rw[JR]
  cases NR (Tf A f) f A.n with
  |true=>exact h
  |false=>exact zt hB r _ fun u v pN=>(LD A f u v).2 fun x hx=>⟨hB.fr u v pN x hx,h _ _ (hB.nx u v pN x hx)⟩
def YP (A:Fa):Nat->Nat:=JR A (A.n+1) fun _=>0
theorem XA (A:Fa):Can (YP A):=zu A _ _ ⟨fun _=>aji _,fun _=>rfl⟩
theorem Vw {A:Fa}(h:A.ok){u v:Nat}(hu:u<A.n)(hv:v<A.n):YP A u=YP A v<->A.E (YP A) u v:=by
 have h0:0<OT (fun _=>0) A.n:=by
  have:∀k,0<k->0<OT (fun _=>0) k:=by
   intro k hk
   induction k with
   |zero=>omega
   |succ k ih =>
    rw[OT];by_cases e:k=0
    ·subst e;decide
    ·have:=ih (by omega);omega
  exact this _ h.pos
 have st:=Ke A (A.n+1) (fun _=>0) ⟨fun _=>aji _,fun _=>rfl⟩ (fun _ _ _=>rfl) (by omega);have e:=LD A (YP A) u v;rw[<-e];show _<->Tf A (JR A (A.n+1) fun _=>0) u=Tf A (JR A (A.n+1) fun _=>0) v;rw[st u hu,st v hv];rfl
theorem Jb {A:Fa}{B:Nat->Nat->Prop}(hB:Bis A B)(u v:Nat)(h:B u v):YP A u=YP A v:=zt hB _ _ (fun _ _ _=>rfl) u v h
theorem yX {A:Fa}(h:A.ok):Bis A fun u v=>u<A.n/\v<A.n/\YP A u=YP A v :=
 ⟨fun u v k=>⟨k.1,k.2.1⟩,fun u v k x hx=>(((Vw h k.1 k.2.1).1 k.2.2) x hx).1,fun u v k x hx=>⟨h.lt u x k.1 hx,h.lt v x k.2.1 hx,(((Vw h k.1 k.2.1).1 k.2.2) x hx).2⟩⟩
def gt (l:List Nat)(i:Nat):Nat:=l.getD i 0
theorem Uo (l:List Nat)(i x j:Nat):gt (l.set i x) j=if i=j/\j<l.length then x else gt l j:=by
 unfold gt;rw[ajl,ajl,List.getElem?_set];by_cases e:i=j
 ·subst e;by_cases h:i<l.length
  ·simp[h]
  ·simp[h]
 ·simp[e]
theorem K9 (l:List Nat)(x j:Nat):gt (l++[x]) j=if j=l.length then x else gt l j:=by
 unfold gt;rw[ajl,ajl];by_cases e:j=l.length
 ·subst e;simp
 ·rw[if_neg e];by_cases h:j<l.length
  ·rw[ajM h]
  ·rw[akb (by simp;omega),akb (by omega)]
structure Pt where
 list:List Nat
 place:List Nat
 set:List Nat
 bg:List Nat
 en:List Nat
 mr:List Nat
structure Pt.Wf (n:Nat)(p:Pt):Prop where
 ll:p.list.length=n
 lp:p.place.length=n
 ls:p.set.length=n
 le:p.en.length=p.bg.length
 lm:p.mr.length=p.bg.length
 pl:∀u,u<n->gt p.place u<n/\gt p.list (gt p.place u)=u
 li:∀i,i<n->gt p.list i<n/\gt p.place (gt p.list i)=i
 st:∀u,u<n->gt p.set u<p.bg.length/\gt p.bg (gt p.set u)<=gt p.place u/\gt p.place u<gt p.en (gt p.set u)
 sp:∀k,k<p.bg.length->gt p.bg k<gt p.en k/\gt p.en k<=n/\∀i,gt p.bg k<=i->i<gt p.en k->gt p.set (gt p.list i)=k
 mr:∀k,k<p.bg.length->gt p.bg k+gt p.mr k<=gt p.en k
def Pt.Mk (p:Pt)(u:Nat):Prop:=gt p.place u<gt p.bg (gt p.set u)+gt p.mr (gt p.set u)
instance (p:Pt)(u:Nat):Decidable (p.Mk u):=inferInstanceAs (Decidable (_<_))
def Pt.WM (p:Pt)(u:Nat):Pt×Bool :=
 bif decide (gt p.place u<gt p.bg (gt p.set u)+gt p.mr (gt p.set u)) then (p,false) else
  ({ p with
   list:=(p.list.set (gt p.place u) (gt p.list (gt p.bg (gt p.set u)+gt p.mr (gt p.set u)))).set (gt p.bg (gt p.set u)+gt p.mr (gt p.set u)) u
   place:=(p.place.set (gt p.list (gt p.bg (gt p.set u)+gt p.mr (gt p.set u))) (gt p.place u)).set u (gt p.bg (gt p.set u)+gt p.mr (gt p.set u))
   mr:=p.mr.set (gt p.set u) (gt p.mr (gt p.set u)+1) },gt p.mr (gt p.set u)+1==1)
theorem NQ {n:Nat}{p:Pt}(h:p.Wf n){u:Nat}(hu:u<n):(p.WM u).1.Wf n/\(p.WM u).1.set=p.set/\(p.WM u).1.bg=p.bg/\(p.WM u).1.en=p.en/\(∀v,v<n->((p.WM u).1.Mk v<->p.Mk v\/v=u)) /\
  ((p.WM u).2=true<->gt p.mr (gt p.set u)=0)/\(∀k,k<p.bg.length->(0<gt (p.WM u).1.mr k<->0<gt p.mr k\/k=gt p.set u)):=by
 obtain⟨Sq,Se,yQ⟩:=h.st u hu;obtain⟨JJ,A5,hk3⟩:=h.sp _ Sq;obtain⟨uO,r9⟩:=h.pl u hu;unfold Pt.WM;generalize hs:gt p.set u=s at *;generalize ha:gt p.place u=a at *;generalize ht:gt p.bg s+gt p.mr s=t at *;by_cases hm:a<t
 ·rw[decide_eq_true hm,cond_true];refine⟨h,rfl,rfl,rfl,fun v hv=>⟨.inl,?_⟩,?_,fun k hk=>⟨.inl,?_⟩⟩
  ·rintro (h1|rfl)
   ·exact h1
   ·unfold Pt.Mk;rw[hs,ha,ht];exact hm
  ·simp;omega
  ·rintro (h1|rfl)
   ·exact h1
   ·simp only;omega
 ·rw[decide_eq_false hm,cond_false];have htn:t<n:=by omega
  obtain⟨zf,LB⟩:=h.li t htn;have hso:=hk3 t (by omega) (by omega);generalize ho:gt p.list t=o at *;have L:∀i,gt ((p.list.set a o).set t u) i=if i=t then u else if i=a then o else gt p.list i:=fun i=>by
   rw[Uo,Uo,aj0,h.ll];by_cases e1:i=t
   ·subst e1;rw[if_pos ⟨rfl,htn⟩,if_pos rfl]
   ·rw[if_neg (by omega),if_neg e1];by_cases e2:i=a
    ·subst e2;rw[if_pos ⟨rfl,uO⟩,if_pos rfl]
    ·rw[if_neg (by omega),if_neg e2]
  have P:∀v,gt ((p.place.set o a).set u t) v=if v=u then t else if v=o then a else gt p.place v:=fun v=>by
   rw[Uo,Uo,aj0,h.lp];by_cases e1:v=u
   ·subst e1;rw[if_pos ⟨rfl,hu⟩,if_pos rfl]
   ·rw[if_neg (by omega),if_neg e1];by_cases e2:v=o
    ·subst e2;rw[if_pos ⟨rfl,zf⟩,if_pos rfl]
    ·rw[if_neg (by omega),if_neg e2]
  have M:∀k,gt (p.mr.set s (gt p.mr s+1)) k=if k=s then gt p.mr s+1 else gt p.mr k:=fun k=>by
   rw[Uo,h.lm];by_cases e:k=s
   ·subst e;rw[if_pos ⟨rfl,Sq⟩,if_pos rfl]
   ·rw[if_neg (by omega),if_neg e]
  have hou:o=u<->a=t:=by
   constructor
   ·intro e;rw[e,ha] at LB;exact LB
   ·intro e;rw[<-e,r9] at ho;exact ho.symm
  refine⟨⟨?_,?_,h.ls,h.le,?_,fun v hv=>?_,fun i hi=>?_,fun v hv=>?_,fun k hk=>?_,fun k hk=>?_⟩,rfl,rfl,rfl,fun v hv=>?_,?_,fun k hk=>?_⟩
  ·simp[h.ll]
  ·simp[h.lp]
  ·simp[h.lm]
  ·show gt ((p.place.set o a).set u t) v<n/\gt ((p.list.set a o).set t u) (gt ((p.place.set o a).set u t) v)=v;rw[P v];by_cases e1:v=u
   ·rw[if_pos e1];exact⟨htn,by rw[L,if_pos rfl,e1]⟩
   ·rw[if_neg e1];by_cases e2:v=o
    ·rw[if_pos e2];exact⟨uO,by rw[L,if_neg (fun e=>e1 (e2.trans (hou.2 e))),if_pos rfl,e2]⟩
    ·rw[if_neg e2];obtain⟨q1,q2⟩:=h.pl v hv;refine⟨q1,?_⟩;rw[L,if_neg (fun e=>e2 (by rw[<-q2,e,ho])),if_neg (fun e=>e1 (by rw[<-q2,e,r9])),q2]
  ·show gt ((p.list.set a o).set t u) i<n/\gt ((p.place.set o a).set u t) (gt ((p.list.set a o).set t u) i)=i;rw[L i];by_cases e1:i=t
   ·rw[if_pos e1];exact⟨hu,by rw[P,if_pos rfl,e1]⟩
   ·rw[if_neg e1];by_cases e2:i=a
    ·rw[if_pos e2];exact⟨zf,by rw[P,if_neg (fun e=>e1 (e2.trans (hou.1 e))),if_pos rfl,e2]⟩
    ·rw[if_neg e2];obtain⟨q1,q2⟩:=h.li i hi;refine⟨q1,?_⟩;rw[P,if_neg (fun e=>e2 (by rw[<-q2,e,ha])),if_neg (fun e=>e1 (by rw[<-q2,e,LB])),q2]
  ·show gt p.set v<p.bg.length/\gt p.bg (gt p.set v)<=gt ((p.place.set o a).set u t) v/\gt ((p.place.set o a).set u t) v<gt p.en (gt p.set v);rw[P v];by_cases e1:v=u
   ·rw[if_pos e1,e1,hs];exact⟨Sq,by omega,by omega⟩
   ·rw[if_neg e1];by_cases e2:v=o
    ·rw[if_pos e2,e2,hso];exact⟨Sq,by omega,by omega⟩
    ·rw[if_neg e2];exact h.st v hv
  ·obtain⟨q1,q2,q3⟩:=h.sp k hk;refine⟨q1,q2,fun i hi1 hi2=>?_⟩;show gt p.set (gt ((p.list.set a o).set t u) i)=k;have:=q3 i hi1 hi2;rw[L i];by_cases e1:i=t
   ·rw[if_pos e1,hs];rw[e1,ho,hso] at this;exact this
   ·rw[if_neg e1];by_cases e2:i=a
    ·rw[if_pos e2,hso];rw[e2,r9,hs] at this;exact this
    ·rw[if_neg e2];exact this
  ·show gt p.bg k+gt (p.mr.set s (gt p.mr s+1)) k<=gt p.en k;rw[M k];by_cases e:k=s
   ·rw[if_pos e,e];omega
   ·rw[if_neg e];exact h.mr k hk
  ·show gt ((p.place.set o a).set u t) v<gt p.bg (gt p.set v)+gt (p.mr.set s (gt p.mr s+1)) (gt p.set v)<->p.Mk v\/v=u;unfold Pt.Mk;rw[P v,M];by_cases e1:v=u
   ·rw[if_pos e1,e1,hs,if_pos rfl];exact⟨fun _=>.inr rfl,fun _=>by omega⟩
   ·rw[if_neg e1];by_cases e2:v=o
    ·have Cu:a≠t:=fun e=>e1 (e2.trans (hou.2 e))
     rw[if_pos e2,e2,hso,if_pos rfl,LB]
     constructor
     ·intro hh;exfalso;omega
     ·rintro (hh|hh)
      ·exfalso;omega
      ·exact absurd (e2.trans hh) e1
    ·rw[if_neg e2];by_cases e3:gt p.set v=s
     ·have Zv:gt p.place v≠t:=fun e=>e2 (by rw[<-(h.pl v hv).2,e,ho])
      rw[e3,if_pos rfl]
      constructor
      ·intro hh;exact .inl (by omega)
      ·rintro (hh|hh)
       ·omega
       ·exact absurd hh e1
     ·rw[if_neg e3];exact⟨.inl,fun hh=>hh.resolve_right e1⟩
  ·simp
  ·show 0<gt (p.mr.set s (gt p.mr s+1)) k<->_;rw[M k];by_cases e:k=s
   ·rw[if_pos e];exact⟨fun _=>.inr e,fun _=>by omega⟩
   ·rw[if_neg e];exact⟨.inl,fun hh=>hh.resolve_right e⟩
def Xx (k:Nat):List Nat->List Nat->List Nat
 |[],s=>s
 |u::l,s=>Xx k l (s.set u k)
theorem Nv (k:Nat):∀(l s:List Nat),(Xx k l s).length=s.length
 |[],s=>rfl
 |u::l,s=>by rw[Xx,Nv k l,aj0]
theorem ER (k:Nat):∀(l s:List Nat) (v:Nat),v<s.length->gt (Xx k l s) v=if v∈l then k else gt s v
 |[],s,v,_=>by simp[Xx]
 |u::l,s,v,hv=>by
  rw[Xx,ER k l _ v (by rw[aj0];exact hv),Uo];by_cases h1:v∈l
  ·rw[if_pos h1,if_pos (aab _ h1)]
  ·rw[if_neg h1];by_cases h2:u=v
   ·rw[if_pos ⟨h2,hv⟩,if_pos (by rw[h2];exact aba ..)]
   ·rw[if_neg (by omega),if_neg (by simp[h1];omega)]
def piece (l:List Nat)(a b:Nat):List Nat:=(l.drop a).take (b-a)
theorem OQ {l:List Nat}{a b x:Nat}(hb:b<=l.length):x∈piece l a b<->∃i,a<=i/\i<b/\gt l i=x:=by
 unfold piece;rw[List.mem_take_iff_getElem]
 constructor
 ·rintro⟨j,hj,e⟩;rw[List.length_drop] at hj;rw[List.getElem_drop] at e;refine⟨a+j,by omega,by omega,?_⟩;unfold gt;rw[ajl,aaa (by omega)];exact e
 ·rintro⟨i,h1,h2,e⟩;refine⟨i-a,by rw[List.length_drop];omega,?_⟩;rw[List.getElem_drop];unfold gt at e;rw[ajl,aaa (by omega)] at e;simp only[akk] at e;rw[<-e]
  congr 1
  omega
def Pt.cut (p:Pt)(s:Nat):Pt×Bool :=
 bif gt p.mr s==gt p.en s-gt p.bg s then ({ p with mr:=p.mr.set s 0 },false) else
 bif decide (2*gt p.mr s>gt p.en s-gt p.bg s) then
  ({ p with mr:=p.mr.set s 0++[0],bg:=p.bg++[gt p.bg s+gt p.mr s],en:=p.en.set s (gt p.bg s+gt p.mr s)++[gt p.en s],set:=Xx p.bg.length (piece p.list (gt p.bg s+gt p.mr s) (gt p.en s)) p.set },true)
 else
  ({ p with mr:=p.mr.set s 0++[0],bg:=p.bg.set s (gt p.bg s+gt p.mr s)++[gt p.bg s],en:=p.en++[gt p.bg s+gt p.mr s],set:=Xx p.bg.length (piece p.list (gt p.bg s) (gt p.bg s+gt p.mr s)) p.set },true)
structure Cut (n:Nat)(p:Pt)(s:Nat)(r:Pt×Bool):Prop where
 wf:r.1.Wf n
 len:r.1.bg.length=p.bg.length+(bif r.2 then 1 else 0)
 num:∀v,v<n->gt r.1.set v=gt p.set v\/(gt p.set v=s/\gt r.1.set v=p.bg.length/\r.2=true)
 eq:∀u v,u<n->v<n->(gt r.1.set u=gt r.1.set v<->gt p.set u=gt p.set v/\(gt p.set u=s->(p.Mk u<->p.Mk v)))
 mr:∀k,k<p.bg.length->k≠s->gt r.1.mr k=gt p.mr k
 mk0:gt r.1.mr s=0
 mkK:r.2=true->gt r.1.mr p.bg.length=0
 Mk:∀v,v<n->gt p.set v≠s->(r.1.Mk v<->p.Mk v)
theorem AZ {n:Nat}{p:Pt}(h:p.Wf n){s:Nat}(hs:s<p.bg.length)(b:Bool){f t f' t':Nat}(hb:gt p.bg s<=f/\f<t/\t<=gt p.en s)(TM:gt p.bg s<=f'/\f'<t'/\t'<=gt p.en s)
  (hm:∀i,gt p.bg s<=i->i<gt p.en s->((f<=i/\i<t<->(i<gt p.bg s+gt p.mr s<->b=true))/\(f'<=i/\i<t'<->¬(f<=i/\i<t)))){jk JB:List Nat}
  (Gn:jk.length=p.bg.length)(F3:JB.length=p.bg.length)(hbg:∀k,gt jk k=if k=s then f' else gt p.bg k)(hen:∀k,gt JB k=if k=s then t' else gt p.en k) :
  Cut n p s ({ p with mr:=p.mr.set s 0++[0],bg:=jk++[f],en:=JB++[t],set:=Xx p.bg.length (piece p.list f t) p.set },true):=by
 obtain⟨k1,k2,k3⟩:=h.sp s hs;have hS:∀v,v<n->gt (Xx p.bg.length (piece p.list f t) p.set) v=if gt p.set v=s/\(p.Mk v<->b=true) then p.bg.length else gt p.set v:=fun v hv=>by
  rw[ER _ _ _ _ (by rw[h.ls];exact hv)];obtain⟨q1,q2⟩:=h.pl v hv;have hi:v∈piece p.list f t<->gt p.set v=s/\(p.Mk v<->b=true):=by
   rw[OQ (by rw[h.ll];omega)]
   constructor
   ·rintro⟨i,h1,h2,rfl⟩;have Sd:i<n:=by omega
    have e:=(h.li i Sd).2;have es:=k3 i (by omega) (by omega);refine⟨es,?_⟩;have:=((hm i (by omega) (by omega)).1).1 ⟨h1,h2⟩;unfold Pt.Mk;rw[e,es];exact this
   ·rintro⟨h1,h2⟩;obtain⟨_,r2,r3⟩:=h.st v hv;rw[h1] at r2 r3;unfold Pt.Mk at h2;rw[h1] at h2;obtain⟨h3,h4⟩:=((hm _ r2 r3).1).2 h2;exact⟨_,h3,h4,q2⟩
  by_cases e:v∈piece p.list f t
  ·rw[if_pos e,if_pos (hi.1 e)]
  ·rw[if_neg e,if_neg fun c=>e (hi.2 c)]
 have hK:∀v,v<n->gt p.set v<p.bg.length:=fun v hv=>(h.st v hv).1
 have hM:∀k,gt (p.mr.set s 0++[0]) k=if k=s\/k=p.bg.length then 0 else gt p.mr k:=fun k=>by
  rw[K9,Uo,aj0,h.lm];by_cases e1:k=p.bg.length
  ·rw[if_pos e1,if_pos (.inr e1)]
  ·rw[if_neg e1];by_cases e2:k=s
   ·rw[if_pos ⟨e2.symm,by omega⟩,if_pos (.inl e2)]
   ·rw[if_neg (by omega),if_neg (by omega)]
 have hB:∀k,gt (jk++[f]) k=if k=p.bg.length then f else if k=s then f' else gt p.bg k:=fun k=>by rw[K9,Gn,hbg]
 have hE:∀k,gt (JB++[t]) k=if k=p.bg.length then t else if k=s then t' else gt p.en k:=fun k=>by rw[K9,F3,hen]
 have Sd:∀v,v<n->gt p.set v=s->((f<=gt p.place v/\gt p.place v<t<->(p.Mk v<->b=true))/\(f'<=gt p.place v/\gt p.place v<t'<->¬(f<=gt p.place v/\gt p.place v<t))):=fun v hv e=>by
  obtain⟨_,r2,r3⟩:=h.st v hv;rw[e] at r2 r3;have:=hm _ r2 r3;unfold Pt.Mk;rw[e];exact this
 refine⟨⟨h.ll,h.lp,by rw[Nv];exact h.ls,by simp[F3,Gn],by simp[h.lm,Gn],h.pl,h.li,fun v hv=>?_,fun k hk=>?_,fun k hk=>?_⟩,by simp[Gn],fun v hv=>?_,fun u v hu hv=>?_,fun k hk Zv=>?_,?_,fun _=>?_,fun v hv Zv=>?_⟩
 ·show gt (Xx p.bg.length (piece p.list f t) p.set) v<(jk++[f]).length/\gt (jk++[f]) (gt (Xx p.bg.length (piece p.list f t) p.set) v)<=gt p.place v/\gt p.place v<gt (JB++[t]) (gt (Xx p.bg.length (piece p.list f t) p.set) v);rw[hS v hv,hB,hE,ajh,Gn];have hkv:=hK v hv;obtain⟨r1,r2,r3⟩:=h.st v hv;by_cases c:gt p.set v=s/\(p.Mk v<->b=true)
  ·have:=((Sd v hv c.1).1).2 c.2;simp only[if_pos c];exact⟨by simp,this.1,this.2⟩
  ·simp only[if_neg c];have Zv:¬gt p.set v=p.bg.length:=by omega
   rw[if_neg Zv,if_neg Zv];by_cases e:gt p.set v=s
   ·have:=((Sd v hv e).2).2 fun c2=>c ⟨e,((Sd v hv e).1).1 c2⟩
    rw[if_pos e,if_pos e];exact⟨by simp;omega,this.1,this.2⟩
   ·rw[if_neg e,if_neg e];exact⟨by simp;omega,r2,r3⟩
 ·show gt (jk++[f]) k<gt (JB++[t]) k/\gt (JB++[t]) k<=n/\∀i,gt (jk++[f]) k<=i->i<gt (JB++[t]) k->gt (Xx p.bg.length (piece p.list f t) p.set) (gt p.list i)=k;have hk:k<p.bg.length+1:=by simpa[Gn] using hk
  rw[hB,hE];by_cases e1:k=p.bg.length
  ·rw[if_pos e1,if_pos e1];refine⟨hb.2.1,by omega,fun i h1 h2=>?_⟩;obtain⟨q1,q2⟩:=h.li i (by omega);have es:=k3 i (by omega) (by omega);rw[hS _ q1,if_pos ⟨es,((Sd _ q1 es).1).1 (by rw[q2];exact⟨h1,h2⟩)⟩,e1]
  ·rw[if_neg e1,if_neg e1];by_cases e2:k=s
   ·rw[if_pos e2,if_pos e2];refine⟨TM.2.1,by omega,fun i h1 h2=>?_⟩;obtain⟨q1,q2⟩:=h.li i (by omega);have es:=k3 i (by omega) (by omega);have Tb:¬(f<=i/\i<t):=((hm i (by omega) (by omega)).2).1 ⟨h1,h2⟩;rw[hS _ q1,if_neg (fun c=>Tb (by have:=((Sd _ q1 es).1).2 c.2;rw[q2] at this;exact this)),es,e2]
   ·rw[if_neg e2,if_neg e2];obtain⟨r1,r2,r3⟩:=h.sp k (by omega);refine⟨r1,r2,fun i h1 h2=>?_⟩;obtain⟨q1,_⟩:=h.li i (by omega);have es:=r3 i h1 h2;rw[hS _ q1,if_neg (fun c=>e2 (es.symm.trans c.1)),es]
 ·show gt (jk++[f]) k+gt (p.mr.set s 0++[0]) k<=gt (JB++[t]) k;have hk:k<p.bg.length+1:=by simpa[Gn] using hk
  rw[hB,hE,hM];by_cases e1:k=p.bg.length
  ·rw[if_pos e1,if_pos e1,if_pos (.inr e1)];omega
  ·rw[if_neg e1,if_neg e1];by_cases e2:k=s
   ·rw[if_pos e2,if_pos e2,if_pos (.inl e2)];omega
   ·rw[if_neg e2,if_neg e2,if_neg (by omega)];exact h.mr k (by omega)
 ·show gt (Xx p.bg.length (piece p.list f t) p.set) v=_\/_;rw[hS v hv];by_cases c:gt p.set v=s/\(p.Mk v<->b=true)
  ·right
   refine⟨c.1,?_,rfl⟩;rw[if_pos c]
  ·rw[if_neg c];exact .inl rfl
 ·show gt (Xx p.bg.length (piece p.list f t) p.set) u=gt (Xx p.bg.length (piece p.list f t) p.set) v<->_;have hku:=hK u hu;have hkv:=hK v hv;rw[hS u hu,hS v hv];by_cases cu:gt p.set u=s/\(p.Mk u<->b=true)
  ·by_cases cv:gt p.set v=s/\(p.Mk v<->b=true)
   ·rw[if_pos cu,if_pos cv];exact⟨fun _=>⟨cu.1.trans cv.1.symm,fun _=>cu.2.trans cv.2.symm⟩,fun _=>rfl⟩
   ·rw[if_pos cu,if_neg cv]
    constructor
    ·intro e;omega
    ·rintro⟨e1,e2⟩;exact absurd ⟨e1.symm.trans cu.1,(e2 cu.1).symm.trans cu.2⟩ cv
  ·by_cases cv:gt p.set v=s/\(p.Mk v<->b=true)
   ·rw[if_neg cu,if_pos cv]
    constructor
    ·intro e;omega
    ·rintro⟨e1,e2⟩;have es:=e1.trans cv.1;exact absurd ⟨es,(e2 es).trans cv.2⟩ cu
   ·rw[if_neg cu,if_neg cv]
    constructor
    ·intro e;refine⟨e,fun es=>?_⟩;have c1:¬(p.Mk u<->b=true):=fun c=>cu ⟨es,c⟩
     have c2:¬(p.Mk v<->b=true):=fun c=>cv ⟨e.symm.trans es,c⟩
     cases b with
     |true=>simp only[iff_true] at c1 c2;exact⟨fun x=>absurd x c1,fun x=>absurd x c2⟩
     |false =>
      simp only[ajn,iff_false,Classical.not_not] at c1 c2;exact⟨fun _=>c2,fun _=>c1⟩
    ·exact fun e=>e.1
 ·show gt (p.mr.set s 0++[0]) k=gt p.mr k;rw[hM,if_neg (by omega)]
 ·show gt (p.mr.set s 0++[0]) s=0;rw[hM,if_pos (.inl rfl)]
 ·show gt (p.mr.set s 0++[0]) p.bg.length=0;rw[hM,if_pos (.inr rfl)]
 ·show gt p.place v<gt (jk++[f]) (gt (Xx p.bg.length (piece p.list f t) p.set) v)+gt (p.mr.set s 0++[0]) (gt (Xx p.bg.length (piece p.list f t) p.set) v)<->p.Mk v;have hkv:=hK v hv;rw[hS v hv,if_neg (fun c=>Zv c.1),hB,hM,if_neg (by omega),if_neg Zv,if_neg (by omega)];rfl
theorem Cj {n:Nat}{p:Pt}(h:p.Wf n){s:Nat}(hs:s<p.bg.length)(hm:0<gt p.mr s):Cut n p s (p.cut s):=by
 obtain⟨k1,k2,k3⟩:=h.sp s hs;have kk:=h.mr s hs;unfold Pt.cut
 cases Xv:gt p.mr s==gt p.en s-gt p.bg s with
 |true =>
  have Xv:gt p.mr s=gt p.en s-gt p.bg s:=by simpa using Xv
  rw[cond_true];have hM:∀k,gt (p.mr.set s 0) k=if k=s then 0 else gt p.mr k:=fun k=>by
   rw[Uo,h.lm];by_cases e:k=s
   ·rw[if_pos ⟨e.symm,by omega⟩,if_pos e]
   ·rw[if_neg (by omega),if_neg e]
  refine⟨⟨h.ll,h.lp,h.ls,h.le,by simp[h.lm],h.pl,h.li,h.st,h.sp,fun k hk=>?_⟩,rfl,fun v _=>.inl rfl,fun u v hu hv=>⟨fun e=>⟨e,fun es=>?_⟩,fun e=>e.1⟩,fun k hk Zv=>?_,?_,fun h=>(nomatch h),fun v hv Zv=>?_⟩
  ·show gt p.bg k+gt (p.mr.set s 0) k<=gt p.en k;rw[hM];have:=h.mr k hk
   split <;> omega
  ·have au:=(h.st u hu).2.2;have av:=(h.st v hv).2.2;have e:gt p.set u=gt p.set v:=e;unfold Pt.Mk;rw[<-e] at av ⊢;rw[es] at au av ⊢
   constructor <;> intro _ <;> omega
  ·show gt (p.mr.set s 0) k=_;rw[hM,if_neg Zv]
  ·show gt (p.mr.set s 0) s=0;rw[hM,if_pos rfl]
  ·show gt p.place v<gt p.bg (gt p.set v)+gt (p.mr.set s 0) (gt p.set v)<->p.Mk v;rw[hM,if_neg Zv];rfl
 |false =>
  have Xv:gt p.mr s≠gt p.en s-gt p.bg s:=by simpa using Xv
  rw[cond_false]
  cases decide (2*gt p.mr s>gt p.en s-gt p.bg s) with
  |true =>
   rw[cond_true];refine AZ h hs false (f:=gt p.bg s+gt p.mr s) (t:=gt p.en s) (f':=gt p.bg s) (t':=gt p.bg s+gt p.mr s) (by omega) (by omega) (fun i h1 h2=>?_) rfl (by rw[aj0];exact h.le) (fun k=>?_) fun k=>?_
   ·simp only[ajn,iff_false];omega
   ·by_cases e:k=s
    ·rw[if_pos e,e]
    ·rw[if_neg e]
   ·rw[Uo,h.le];by_cases e:k=s
    ·rw[if_pos ⟨e.symm,by omega⟩,if_pos e]
    ·rw[if_neg (by omega),if_neg e]
  |false =>
   rw[cond_false];refine AZ h hs true (f:=gt p.bg s) (t:=gt p.bg s+gt p.mr s) (f':=gt p.bg s+gt p.mr s) (t':=gt p.en s) (by omega) (by omega) (fun i h1 h2=>?_) (by rw[aj0]) h.le (fun k=>?_) fun k=>?_
   ·simp only[iff_true];omega
   ·rw[Uo];by_cases e:k=s
    ·rw[if_pos ⟨e.symm,by omega⟩,if_pos e]
    ·rw[if_neg (by omega),if_neg e]
   ·by_cases e:k=s
    ·rw[if_pos e,e]
    ·rw[if_neg e]
def YJ:List Nat->Pt->List Nat->Pt×List Nat
 |[],p,T=>(p,T)
 |u::l,p,T=>YJ l (p.WM u).1 (bif (p.WM u).2 then T++[gt p.set u] else T)
theorem KO:∀(a b:List Nat) (p:Pt) (T:List Nat),YJ (a++b) p T=YJ b (YJ a p T).1 (YJ a p T).2
 |[],b,p,T=>rfl
 |u::a,b,p,T=>by rw[ajz,YJ,YJ,KO a b]
structure Tch (p:Pt)(T:List Nat):Prop where
 nd:T.Nodup
 mem:∀k,k<p.bg.length->(k∈T<->0<gt p.mr k)
 lt:∀k∈T,k<p.bg.length
structure iY (n:Nat)(us:List Nat)(p:Pt)(r:Pt×List Nat):Prop where
 wf:r.1.Wf n
 set:r.1.set=p.set
 bg:r.1.bg=p.bg
 en:r.1.en=p.en
 dR:Tch r.1 r.2
 Mk:∀v,v<n->(r.1.Mk v<->p.Mk v\/v∈us)
theorem QX {n:Nat}:∀(us:List Nat) {p:Pt} {T:List Nat},p.Wf n->Tch p T->(∀u∈us,u<n)->iY n us p (YJ us p T)
 |[],p,T,h,ht,_=>⟨h,rfl,rfl,rfl,ht,fun v _=>by simp[YJ]⟩
 |u::l,p,T,h,ht,hu=>by
  have hun:=hu u (aba ..);obtain⟨m1,m2,m3,m4,m5,m6,m7⟩:=NQ h hun;have hsu:=(h.st u hun).1;have ht1:Tch (p.WM u).1 (bif (p.WM u).2 then T++[gt p.set u] else T):=by
   refine⟨?_,fun k hk=>?_,fun k hk=>?_⟩
   ·cases hb:(p.WM u).2 with
    |false=>exact ht.nd
    |true =>
     have h0:=m6.1 hb;rw[cond_true,List.nodup_append];refine⟨ht.nd,by simp,fun a ha b hb=>?_⟩;rw[ajm.1 hb];rintro rfl;have:=(ht.mem _ hsu).1 ha;omega
   ·rw[m3] at hk;rw[m7 k hk]
    cases hb:(p.WM u).2 with
    |false =>
     have h0:gt p.mr (gt p.set u)≠0:=fun e=>by rw[m6.2 e] at hb;cases hb
     rw[cond_false,ht.mem k hk]
     constructor
     ·exact .inl
     ·rintro (h1|rfl)
      ·exact h1
      ·omega
    |true =>
     rw[cond_true,ajX,ajm,ht.mem k hk]
   ·rw[m3]
    cases hb:(p.WM u).2 with
    |false=>rw[hb] at hk;exact ht.lt k hk
    |true =>
     rw[hb,cond_true,ajX,ajm] at hk;rcases hk with hk|rfl
     ·exact ht.lt k hk
     ·exact hsu
  have ih:=QX l m1 ht1 fun x hx=>hu x (aab _ hx)
  rw[YJ];refine⟨ih.wf,ih.set.trans m2,ih.bg.trans m3,ih.en.trans m4,ih.dR,fun v hv=>?_⟩;rw[ih.Mk v hv,m5 v hv,ajo,or_assoc]
def TL:List Nat->Pt->List Nat->Pt×List Nat
 |[],p,w=>(p,w)
 |t::T,p,w=>TL T (p.cut t).1 (bif (p.cut t).2 then w++[p.bg.length] else w)
def Pt.Zero (p:Pt):Prop:=∀k,k<p.bg.length->gt p.mr k=0
structure bU (n:Nat)(p:Pt)(w:List Nat)(R:Nat->Nat->Prop)(r:Pt×List Nat):Prop where
 wf:r.1.Wf n
 zero:r.1.Zero
 le:p.bg.length<=r.1.bg.length
 tA:r.2.length+p.bg.length=w.length+r.1.bg.length
 work:∀k,k∈r.2<->k∈w\/(p.bg.length<=k/\k<r.1.bg.length)
 num:∀v,v<n->gt r.1.set v=gt p.set v\/p.bg.length<=gt r.1.set v
 eq:∀u v,u<n->v<n->(gt r.1.set u=gt r.1.set v<->gt p.set u=gt p.set v/\R u v)
theorem KN {n:Nat}:∀(T:List Nat) {p:Pt} (w:List Nat),p.Wf n->T.Nodup->(∀k∈T,k<p.bg.length/\0<gt p.mr k)->(∀k,k<p.bg.length->k∉T->gt p.mr k=0) ->
  bU n p w (fun u v=>gt p.set u∈T->(p.Mk u<->p.Mk v)) (TL T p w)
 |[],p,w,h,_,_,hz=>⟨h,fun k hk=>hz k hk (by simp),ajg _,rfl,fun k=>by simp only[TL];constructor;exact .inl;rintro (h|h);exact h;omega,fun v _=>.inl rfl,fun u v _ _=>by simp[TL]⟩
 |t::T,p,w,h,hn,hT,hz=>by
  obtain⟨ht,hm⟩:=hT t (aba ..);have hc:=Cj h ht hm;rw[aj8] at hn;rw[TL];generalize hr:p.cut t=r at *;obtain⟨p1,b⟩:=r;simp only at hc ⊢;have hlen:p1.bg.length=p.bg.length+(bif b then 1 else 0):=hc.len;have hle:p.bg.length<=p1.bg.length:=by omega
  have hT1:∀k∈T,k<p1.bg.length/\0<gt p1.mr k:=fun k hk=>by
   obtain⟨q1,q2⟩:=hT k (aab _ hk);refine⟨by omega,?_⟩;have:gt p1.mr k=gt p.mr k:=hc.mr k q1 fun e=>hn.1 (e ▸ hk)
   omega
  have zp:∀k,k<p1.bg.length->k∉T->gt p1.mr k=0:=fun k hk hnk=>by
   by_cases e:k=t
   ·rw[e];exact hc.mk0
   ·by_cases e2:k<p.bg.length
    ·have:gt p1.mr k=gt p.mr k:=hc.mr k e2 e;rw[this];exact hz k e2 fun Sh=>by
      rcases ajo.1 Sh with h1|h1
      ·exact e h1
      ·exact hnk h1
    ·cases b with
     |false=>simp at hlen;omega
     |true =>
      have:k=p.bg.length:=by simp at hlen;omega
      rw[this];exact hc.mkK rfl
  have ih:=KN (p:=p1) T (bif b then w++[p.bg.length] else w) hc.wf hn.2 hT1 zp;have ile:=ih.le;have iwl:=ih.tA;refine⟨ih.wf,ih.zero,by omega,?_,fun k=>?_,fun v hv=>?_,fun u v hu hv=>?_⟩
  ·cases b with
   |false=>simp at hlen iwl ⊢;omega
   |true=>simp at hlen iwl ⊢;omega
  ·rw[ih.work k]
   cases b with
   |false =>
    have hlen:p1.bg.length=p.bg.length:=by simpa using hlen
    rw[cond_false,hlen]
   |true =>
    have hlen:p1.bg.length=p.bg.length+1:=by simpa using hlen
    simp only[cond_true] at ile;rw[cond_true,ajX,ajm]
    constructor
    ·rintro ((h1|h1)|h1)
     ·exact .inl h1
     ·exact .inr (by omega)
     ·exact .inr (by omega)
    ·rintro (h1|h1)
     ·exact .inl (.inl h1)
     ·by_cases e:k=p.bg.length
      ·exact .inl (.inr e)
      ·exact .inr (by omega)
  ·rcases ih.num v hv with h1|h1
   ·rcases hc.num v hv with h2|h2
    ·exact .inl (h1.trans h2)
    ·have h3:gt p1.set v=p.bg.length:=h2.2.1;exact .inr (by omega)
   ·exact .inr (by omega)
  ·rw[ih.eq u v hu hv];have he:gt p1.set u=gt p1.set v<->gt p.set u=gt p.set v/\(gt p.set u=t->(p.Mk u<->p.Mk v)):=hc.eq u v hu hv;have Sh:∀x,x<n->(gt p1.set x∈T<->gt p.set x∈T):=fun x hx=>by
    have P9:gt p1.set x=gt p.set x\/(gt p.set x=t/\gt p1.set x=p.bg.length/\b=true):=hc.num x hx;rcases P9 with h1|⟨h1,h2,_⟩
    ·rw[h1]
    ·rw[h1,h2]
     constructor
     ·intro hk;have:=(hT _ (aab _ hk)).1;omega
     ·intro hk;exact absurd hk hn.1
   have hMk:∀x,x<n->gt p.set x≠t->(p1.Mk x<->p.Mk x):=hc.Mk;rw[he]
   constructor
   ·rintro⟨⟨e1,e2⟩,e3⟩;refine⟨e1,fun hx=>?_⟩;rcases ajo.1 hx with h1|h1
    ·exact e2 h1
    ·have Zv:gt p.set u≠t:=fun e=>hn.1 (e ▸ h1)
     have:=e3 ((Sh u hu).2 h1);rw[hMk u hu Zv,hMk v hv (by rw[<-e1];exact Zv)] at this;exact this
   ·rintro⟨e1,e2⟩;refine⟨⟨e1,fun hx=>e2 (by rw[hx];exact aba ..)⟩,fun hx=>?_⟩;have h1:=(Sh u hu).1 hx;have Zv:gt p.set u≠t:=fun e=>hn.1 (e ▸ h1)
    rw[hMk u hu Zv,hMk v hv (by rw[<-e1];exact Zv)];exact e2 (aab _ h1)
def tw (XG:Nat->List Nat)(S:List Nat)(p:Pt)(w:List Nat):Pt×List Nat :=
 TL (YJ (S.flatMap XG) p []).2 (YJ (S.flatMap XG) p []).1 w
theorem Ci {n:Nat}{p:Pt}(h:p.Wf n)(hz:p.Zero)(w:List Nat){nx:Nat->Nat}{XG:Nat->List Nat}{S:List Nat}(hS:∀c∈S,c<n)(hb:∀c,c<n->∀u,u∈XG c<->u<n/\nx u=c) :
  bU n p w (fun u v=>nx u∈S<->nx v∈S) (tw XG S p w):=by
 have NP:∀u,u∈S.flatMap XG<->u<n/\nx u∈S:=fun u=>by
  rw[List.mem_flatMap]
  constructor
  ·rintro⟨c,h1,h2⟩;obtain⟨q1,q2⟩:=(hb c (hS c h1) u).1 h2;exact⟨q1,by rw[q2];exact h1⟩
  ·rintro⟨h1,h2⟩;exact⟨_,h2,(hb _ (hS _ h2) u).2 ⟨h1,rfl⟩⟩
 have iX:Tch p []:=⟨by simp,fun k hk=>by simp[hz k hk],fun k hk=>by simp at hk⟩;have hm:=QX (S.flatMap XG) h iX fun u hu=>((NP u).1 hu).1
 unfold tw;generalize YJ (S.flatMap XG) p []=r at *;obtain⟨p1,T⟩:=r;have e1:p1.set=p.set:=hm.set;have e2:p1.bg=p.bg:=hm.bg;have t1:T.Nodup:=hm.dR.nd;have t2:∀k,k<p1.bg.length->(k∈T<->0<gt p1.mr k):=hm.dR.mem;have t3:∀k∈T,k<p1.bg.length:=hm.dR.lt;have hc:=KN (p:=p1) T w hm.wf t1 (fun k hk=>⟨t3 k hk,(t2 k (t3 k hk)).1 hk⟩) (fun k hk hn=>by have:=t2 k hk;have:¬0<gt p1.mr k:=fun h=>hn (this.2 h);omega);have hM:∀v,v<n->(p1.Mk v<->nx v∈S):=fun v hv=>by
  have:p1.Mk v<->p.Mk v\/v∈S.flatMap XG:=hm.Mk v hv;rw[this,NP]
  constructor
  ·rintro (h1|h1)
   ·obtain⟨q1,q2,_⟩:=h.st v hv;unfold Pt.Mk at h1;rw[hz _ q1] at h1;omega
   ·exact h1.2
  ·exact fun h1=>.inr ⟨hv,h1⟩
 simp only[e1,e2] at hc;have hle:=hc.le;have bR:=hc.tA;have hwk:=hc.work;have yY:=hc.num;simp only[e1,e2] at hle bR hwk yY;refine⟨hc.wf,hc.zero,hle,bR,hwk,yY,fun u v hu hv=>?_⟩;have:=hc.eq u v hu hv;simp only[e1] at this;rw[this]
 constructor
 ·rintro⟨q1,q2⟩;refine⟨q1,?_⟩;by_cases y0:gt p.set u∈T
  ·rw[<-hM u hu,<-hM v hv];exact q2 y0
  ·have Tb:∀x,x<n->gt p.set x=gt p.set u->¬nx x∈S:=fun x hx e hxS=>by
    obtain⟨r1,r2,r3⟩:=hm.wf.st x hx;simp only[e1,e] at r1 r2 r3;have h0:¬0<gt p1.mr (gt p.set u):=fun h=>y0 ((t2 _ r1).2 h)
    have qg:=(hM x hx).2 hxS;unfold Pt.Mk at qg;rw[e1,e] at qg;omega
   exact⟨fun h=>absurd h (Tb u hu rfl),fun h=>absurd h (Tb v hv q1.symm)⟩
 ·rintro⟨q1,q2⟩;exact⟨q1,fun _=>by rw[hM u hu,hM v hv];exact q2⟩
def P8 (XG:Nat->Nat->List Nat)(S:List Nat):Nat->Nat->Pt->List Nat->Pt×List Nat
 |0,_,p,w=>(p,w)
 |r+1,x,p,w=>P8 XG S r (x+1) (tw (XG x) S p w).1 (tw (XG x) S p w).2
theorem Ch {n:Nat}{nx:Nat->Nat->Nat}{XG:Nat->Nat->List Nat}{S:List Nat}(hS:∀c∈S,c<n):∀(r x:Nat) {p:Pt} (w:List Nat),p.Wf n->p.Zero->(∀y,x<=y->y<x+r->∀c,c<n->∀u,u∈XG y c<->u<n/\nx u y=c) ->
  bU n p w (fun u v=>∀y,x<=y->y<x+r->(nx u y∈S<->nx v y∈S)) (P8 XG S r x p w)
 |0,x,p,w,h,hz,_=>⟨h,hz,ajg _,rfl,fun k=>by simp only[P8];constructor;exact .inl;rintro (h|h);exact h;omega,fun v _=>.inl rfl,fun u v _ _=>⟨fun e=>⟨e,fun y h1 h2=>by omega⟩,fun e=>e.1⟩⟩
 |r+1,x,p,w,h,hz,hb=>by
  have h1:=Ci h hz w (nx:=fun u=>nx u x) hS (hb x (ajg _) (by omega));rw[P8];generalize tw (XG x) S p w=q at *;obtain⟨p1,w1⟩:=q;simp only at h1 ⊢;have ih:=Ch (p:=p1) hS r (x+1) w1 h1.wf h1.zero fun y dQ jH=>hb y (by omega) (by omega)
  have a1:=h1.le;have a2:=ih.le;have a3:=h1.tA;have a4:=ih.tA;simp only at a1 a2 a3 a4;refine⟨ih.wf,ih.zero,by omega,by omega,fun k=>?_,fun v hv=>?_,fun u v hu hv=>?_⟩
  ·rw[ih.work k];have:=h1.work k;simp only at this;rw[this]
   constructor
   ·rintro ((h|h)|h)
    ·exact .inl h
    ·exact .inr (by omega)
    ·exact .inr (by omega)
   ·rintro (h|h)
    ·exact .inl (.inl h)
    ·by_cases e:k<p1.bg.length
     ·exact .inl (.inr ⟨h.1,e⟩)
     ·exact .inr ⟨by omega,h.2⟩
  ·have b1:=h1.num v hv;have b2:=ih.num v hv;simp only at b1 b2;rcases b2 with b2|b2
   ·rcases b1 with b1|b1
    ·exact .inl (b2.trans b1)
    ·exact .inr (by omega)
   ·exact .inr (by omega)
  ·rw[ih.eq u v hu hv];have:=h1.eq u v hu hv;simp only at this;rw[this]
   constructor
   ·rintro⟨⟨e1,e2⟩,e3⟩;refine⟨e1,fun y dQ jH=>?_⟩;by_cases e:y=x
    ·subst e;exact e2
    ·exact e3 y (by omega) (by omega)
   ·rintro⟨e1,e2⟩;exact⟨⟨e1,e2 x (ajg _) (by omega)⟩,fun y dQ jH=>e2 y (by omega) (by omega)⟩
theorem Ly:∀(n K:Nat) (f:Nat->Nat),(∀k,k<K->f k<n)->(∀i j,i<K->j<K->f i=f j->i=j)->K<=n
 |0,K,f,h1,_=>by
  rcases Nat.eq_zero_or_pos K with h|h
  ·omega
  ·exact absurd (h1 0 h) (by omega)
 |n+1,K,f,h1,h2=>by
  by_cases hex:∃k,k<K/\f k=n
  ·obtain⟨k0,hk0,e0⟩:=hex;have:=Ly n (K-1) (fun k=>if k=k0 then f (K-1) else f k) (fun k hk=>by
    by_cases e:k=k0
    ·rw[if_pos e];have:=h1 (K-1) (by omega);have:f (K-1)≠n:=fun e'=>by have:=h2 (K-1) k0 (by omega) hk0 (e'.trans e0.symm);omega
     omega
    ·rw[if_neg e];have:=h1 k (by omega);have:f k≠n:=fun e'=>e (h2 k k0 (by omega) hk0 (e'.trans e0.symm))
     omega) (fun i j hi hj e=>by
    by_cases e1:i=k0
    ·by_cases e2:j=k0
     ·omega
     ·rw[if_pos e1,if_neg e2] at e;have:=h2 _ _ (by omega) (by omega) e;omega
    ·by_cases e2:j=k0
     ·rw[if_neg e1,if_pos e2] at e;have:=h2 _ _ (by omega) (by omega) e;omega
     ·rw[if_neg e1,if_neg e2] at e;exact h2 _ _ (by omega) (by omega) e)
   omega
  ·have:=Ly n K f (fun k hk=>by
    have:=h1 k hk;have:f k≠n:=fun e=>hex ⟨k,hk,e⟩
    omega) h2
   omega
theorem Pt.Wf.few {n:Nat}{p:Pt}(h:p.Wf n):p.bg.length<=n:=by
 refine Ly n _ (fun k=>gt p.bg k) (fun k hk=>by have:=h.sp k hk;omega) fun i j hi hj e=>?_
 obtain⟨a1,a2,a3⟩:=h.sp i hi;obtain⟨b1,b2,b3⟩:=h.sp j hj;have e:gt p.bg i=gt p.bg j:=e;have:=a3 _ (ajg _) a1;have:=b3 _ (ajg _) b1;rw[e] at *;omega
def Jc (XG:Nat->Nat->List Nat)(m:Nat):Nat->Pt->List Nat->Pt
 |0,p,_=>p
 |f+1,p,w=>match w.getLast? with
  |none=>p
  |some s=>Jc XG m f (P8 XG (piece p.list (gt p.bg s) (gt p.en s)) m 0 p w.dropLast).1 (P8 XG (piece p.list (gt p.bg s) (gt p.en s)) m 0 p w.dropLast).2
structure iW (A:Fa)(p:Pt)(w:List Nat):Prop where
 wf:p.Wf A.n
 zero:p.Zero
 work:∀k∈w,k<p.bg.length
 fr:∀u v,u<A.n->v<A.n->gt p.set u=gt p.set v->∀x,x<A.m->A.fr u x=A.fr v x
 bis:∀B,Bis A B->∀u v,B u v->gt p.set u=gt p.set v
 part:∃xc:Nat->Nat,(∀u v,u<A.n->v<A.n->gt p.set u=gt p.set v->xc u=xc v)/\(∀u v,u<A.n->v<A.n->gt p.set u=gt p.set v->∀x,x<A.m->xc (A.nx u x)=xc (A.nx v x)) /\
  ∀u v,u<A.n->v<A.n->xc u=xc v->gt p.set u∈w\/gt p.set v∈w\/gt p.set u=gt p.set v
theorem Cg {A:Fa}(hA:A.ok){XG:Nat->Nat->List Nat}(hb:∀y,y<A.m->∀c,c<A.n->∀u,u∈XG y c<->u<A.n/\A.nx u y=c){p:Pt}{w:List Nat}(h:iW A p w){s:Nat}(hs:w.getLast? = some s) :
  iW A (P8 XG (piece p.list (gt p.bg s) (gt p.en s)) A.m 0 p w.dropLast).1 (P8 XG (piece p.list (gt p.bg s) (gt p.en s)) A.m 0 p w.dropLast).2 /\
  2*(A.n-(P8 XG (piece p.list (gt p.bg s) (gt p.en s)) A.m 0 p w.dropLast).1.bg.length)+(P8 XG (piece p.list (gt p.bg s) (gt p.en s)) A.m 0 p w.dropLast).2.length<2*(A.n-p.bg.length)+w.length:=by
 have hw:w=w.dropLast++[s]:=by
  have Zv:w≠[]:=fun e=>by rw[e] at hs;cases hs
  rw[List.getLast?_eq_some_getLast Zv] at hs;have:=List.dropLast_concat_getLast Zv;rw[Option.some.inj hs] at this;exact this.symm
 have hsK:s<p.bg.length:=h.work s (by rw[hw];simp);obtain⟨k1,k2,k3⟩:=h.wf.sp s hsK;have hS:∀c,c<A.n->(c∈piece p.list (gt p.bg s) (gt p.en s)<->gt p.set c=s):=fun c hc=>by
  rw[OQ (by rw[h.wf.ll];exact k2)]
  constructor
  ·rintro⟨i,h1,h2,rfl⟩;exact k3 i h1 h2
  ·intro e;obtain⟨_,r2,r3⟩:=h.wf.st c hc;rw[e] at r2 r3;exact⟨_,r2,r3,(h.wf.pl c hc).2⟩
 have tu:∀c∈piece p.list (gt p.bg s) (gt p.en s),c<A.n:=fun c hc=>by
  rw[OQ (by rw[h.wf.ll];exact k2)] at hc;obtain⟨i,h1,h2,rfl⟩:=hc;exact (h.wf.li i (by omega)).1
 have hp:=Ch (nx:=A.nx) tu A.m 0 w.dropLast h.wf h.zero fun y _ hy=>hb y (by omega)
 generalize piece p.list (gt p.bg s) (gt p.en s)=S at *;generalize P8 XG S A.m 0 p w.dropLast=q at *;obtain⟨p1,w1⟩:=q;have jG:p1.Wf A.n:=hp.wf;have Qg:=jG.few;have hle:p.bg.length<=p1.bg.length:=hp.le;have bR:w1.length+p.bg.length=w.dropLast.length+p1.bg.length:=hp.tA;have hwk:∀k,k∈w1<->k∈w.dropLast\/(p.bg.length<=k/\k<p1.bg.length):=hp.work;have P9:∀v,v<A.n->gt p1.set v=gt p.set v\/p.bg.length<=gt p1.set v:=hp.num;have heq:∀u v,u<A.n->v<A.n->(gt p1.set u=gt p1.set v<->gt p.set u=gt p.set v/\∀y,0<=y->y<0+A.m->(A.nx u y∈S<->A.nx v y∈S)):=hp.eq;have aiJ:w.length=w.dropLast.length+1:=by
  conv=>lhs;rw[hw]
  simp
 refine⟨⟨jG,hp.zero,fun k hk=>?_,fun u v hu hv e=>h.fr u v hu hv ((heq u v hu hv).1 e).1,fun B hB u v pN=>?_,?_⟩,by show 2*(A.n-p1.bg.length)+w1.length<_;omega⟩
 ·rcases (hwk k).1 hk with h1|h1
  ·have:=h.work k (by rw[hw];exact List.mem_append_left _ h1);show k<p1.bg.length;omega
  ·exact h1.2
 ·obtain⟨hu,hv⟩:=hB.lt u v pN;refine (heq u v hu hv).2 ⟨h.bis B hB u v pN,fun y _ hy=>?_⟩;have hn:=hB.nx u v pN y (by omega);obtain⟨n1,n2⟩:=hB.lt _ _ hn;rw[hS _ n1,hS _ n2,h.bis B hB _ _ hn]
 ·obtain⟨xc,x1,x2,x3⟩:=h.part;refine⟨fun u=>2*xc u+if gt p.set u=s then 1 else 0,fun u v hu hv e=>?_,fun u v hu hv e x hx=>?_,fun u v hu hv e=>?_⟩
  ·have e:=((heq u v hu hv).1 e).1;simp only[x1 u v hu hv e,e]
  ·obtain⟨e,e'⟩:=(heq u v hu hv).1 e;have n1:=hA.lt u x hu hx;have n2:=hA.lt v x hv hx;have hm:=e' x (aji _) (by omega);rw[hS _ n1,hS _ n2] at hm;simp only[x2 u v hu hv e x hx];by_cases c:gt p.set (A.nx u x)=s
   ·rw[if_pos c,if_pos (hm.1 c)]
   ·rw[if_neg c,if_neg fun c'=>c (hm.2 c')]
  ·have ex:xc u=xc v/\(gt p.set u=s<->gt p.set v=s):=by
    simp only at e;by_cases c:gt p.set u=s
    ·by_cases c':gt p.set v=s
     ·rw[if_pos c,if_pos c'] at e;exact⟨by omega,by simp[c,c']⟩
     ·rw[if_pos c,if_neg c'] at e;omega
    ·by_cases c':gt p.set v=s
     ·rw[if_neg c,if_pos c'] at e;omega
     ·rw[if_neg c,if_neg c'] at e;exact⟨by omega,by simp[c,c']⟩
   show gt p1.set u∈w1\/gt p1.set v∈w1\/gt p1.set u=gt p1.set v;by_cases cu:gt p1.set u∈w1
   ·exact .inl cu
   by_cases cv:gt p1.set v∈w1
   ·exact .inr (.inl cv)
   refine .inr (.inr ?_);have old:∀v,v<A.n->¬gt p1.set v∈w1->gt p1.set v=gt p.set v/\¬gt p.set v∈w.dropLast:=fun v hv c=>by
    have YH:=(jG.st v hv).1;rcases P9 v hv with h1|h1
    ·refine⟨h1,fun hm=>c ((hwk _).2 (.inl ?_))⟩;rw[h1];exact hm
    ·exact absurd ((hwk _).2 (.inr ⟨h1,YH⟩)) c
   obtain⟨u1,u2⟩:=old u hu cu;obtain⟨v1,v2⟩:=old v hv cv;rw[u1,v1];by_cases c:gt p.set u=s
   ·rw[c,ex.2.1 c]
   ·have c':gt p.set v≠s:=fun h=>c (ex.2.2 h)
    rcases x3 u v hu hv ex.1 with h1|h1|h1
    ·rw[hw,ajX,ajm] at h1;rcases h1 with h1|h1
     ·exact absurd h1 u2
     ·exact absurd h1 c
    ·rw[hw,ajX,ajm] at h1;rcases h1 with h1|h1
     ·exact absurd h1 v2
     ·exact absurd h1 c'
    ·exact h1
theorem D1 {A:Fa}(hA:A.ok){XG:Nat->Nat->List Nat}(hb:∀y,y<A.m->∀c,c<A.n->∀u,u∈XG y c<->u<A.n/\A.nx u y=c):∀(f:Nat) {p:Pt} {w:List Nat},iW A p w->2*(A.n-p.bg.length)+w.length<=f->iW A (Jc XG A.m f p w) []
 |0,p,w,h,hf=>by
  have:w=[]:=ajI.1 (by omega);subst this;exact h
 |f+1,p,w,h,hf=>by
  rw[Jc]
  cases hs:w.getLast? with
  |none =>
   have:w=[]:=by simpa using hs
   subst this;exact h
  |some s =>
   obtain⟨h1,h2⟩:=Cg hA hb h hs;exact D1 hA hb f h1 (by omega)
theorem iV {A:Fa}(hA:A.ok){p:Pt}(h:iW A p []){u v:Nat}(hu:u<A.n)(hv:v<A.n):gt p.set u=gt p.set v<->YP A u=YP A v:=by
 constructor
 ·intro e;obtain⟨xc,x1,x2,x3⟩:=h.part;refine Jb (B:=fun u v=>u<A.n/\v<A.n/\gt p.set u=gt p.set v) ⟨fun u v k=>⟨k.1,k.2.1⟩,fun u v k=>h.fr u v k.1 k.2.1 k.2.2,fun u v k x hx=>⟨hA.lt u x k.1 hx,hA.lt v x k.2.1 hx,?_⟩⟩ u v ⟨hu,hv,e⟩;rcases x3 _ _ (hA.lt u x k.1 hx) (hA.lt v x k.2.1 hx) (x2 u v k.1 k.2.1 k.2.2 x hx) with h1|h1|h1
  ·simp at h1
  ·simp at h1
  ·exact h1
 ·intro e;exact h.bis _ (yX hA) u v ⟨hu,hv,e⟩
def Vo:List Nat->Nat->Nat
 |[],_=>0
 |x::l,c=>bif x==c then 0 else Vo l c+1
theorem ML:∀(l:List Nat) (c:Nat),Vo l c<l.length<->c∈l
 |[],c=>by simp[Vo]
 |x::l,c=>by
  have:=ML l c;rw[Vo,ajk,ajo]
  cases h:x==c with
  |true =>
   have:x=c:=by simpa using h
   simp[this]
  |false =>
   have Zv:¬x=c:=by simpa using h
   simp only[cond_false]
   constructor
   ·intro h;exact .inr (this.1 (by omega))
   ·rintro (h|h)
    ·exact absurd h.symm Zv
    ·have:=this.2 h;omega
theorem BM (f g:Nat->Nat)(n:Nat):∀(l:List Nat),(∀a∈l,f a=f n<->g a=g n)->Vo (l.map f) (f n)=Vo (l.map g) (g n)
 |[],_=>rfl
 |x::l,h=>by
  have h0:=h x (aba ..);have he:(f x==f n)=(g x==g n):=by rw[aj4,beq_iff_eq,beq_iff_eq];exact h0
  rw[aju,aju,Vo,Vo,he,BM f g n l fun a ha=>h a (aab _ ha)]
def YV (κ:Nat->Nat):List Nat->List Nat->List Nat×List Nat
 |[],st=>(st,[])
 |c::cs,st=>bif decide (Vo (st.map κ) (κ c)<st.length) then ((YV κ cs st).1,Vo (st.map κ) (κ c)::(YV κ cs st).2) else ((YV κ cs (st++[c])).1,st.length::(YV κ cs (st++[c])).2)
theorem SY {κ ρ:Nat->Nat}{Q:Nat->Prop}(hk:∀a b,Q a->Q b->(κ a=κ b<->ρ a=ρ b)):∀(cs st:List Nat),(∀a∈cs,Q a)->(∀a∈st,Q a)->YV id (cs.map ρ) (st.map ρ)=((YV κ cs st).1.map ρ,(YV κ cs st).2)/\∀a∈(YV κ cs st).1,Q a
 |[],st,_,h=>⟨rfl,h⟩
 |c::cs,st,h1,h2=>by
  have hc:=h1 c (aba ..);have Fm:=fun a ha=>h1 a (aab _ ha)
  have he:Vo ((st.map ρ).map id) (id (ρ c))=Vo (st.map κ) (κ c):=by
   rw[List.map_id];exact (BM κ ρ c st fun a ha=>hk a c (h2 a ha) hc).symm
  rw[aju,YV,YV,he,aje]
  cases decide (Vo (st.map κ) (κ c)<st.length) with
  |true =>
   obtain⟨e1,e2⟩:=SY hk cs st Fm h2;simp only[cond_true,e1];exact⟨by first|rfl|trivial,e2⟩
  |false =>
   obtain⟨e1,e2⟩:=SY hk cs (st++[c]) Fm fun a ha=>by
    rcases ajX.1 ha with h|h
    ·exact h2 a h
    ·rw[ajm.1 h];exact hc
   have e3:st.map ρ++[ρ c]=(st++[c]).map ρ:=by simp
   simp only[cond_false,e3,e1];exact⟨by first|rfl|trivial,e2⟩
def UT (κ:Nat->Nat)(row:Nat->List Nat):Nat->Nat->List Nat->List (Nat×List Nat)
 |0,_,_=>[]
 |f+1,i,st=>match st[i]? with
  |none=>[]
  |some s=>(s,(YV κ (row s) st).2)::UT κ row f (i+1) (YV κ (row s) st).1
theorem MJ {κ ρ:Nat->Nat}{Q:Nat->Prop}(hk:∀a b,Q a->Q b->(κ a=κ b<->ρ a=ρ b)){row oQ:Nat->List Nat}(hr:∀s,Q s->oQ (ρ s)=(row s).map ρ/\∀a∈row s,Q a):∀(f i:Nat) (st:List Nat),(∀a∈st,Q a) ->
  UT id oQ f i (st.map ρ)=(UT κ row f i st).map (fun x=>(ρ x.1,x.2))/\∀x∈UT κ row f i st,Q x.1
 |0,i,st,h=>⟨rfl,fun x hx=>by simp[UT] at hx⟩
 |f+1,i,st,h=>by
  rw[UT,UT,ajv]
  cases hs:st[i]? with
  |none=>exact⟨rfl,fun x hx=>by simp at hx⟩
  |some s =>
   have hq:=h s (aj1 hs);obtain⟨r1,r2⟩:=hr s hq;obtain⟨e1,e2⟩:=SY hk (row s) st r2 h;obtain⟨i1,i2⟩:=MJ hk hr f (i+1) _ e2;simp only[aki,r1,e1,i1,aju];refine⟨by first|rfl|trivial,fun x hx=>?_⟩;rcases ajo.1 hx with rfl|hx
   ·exact hq
   ·exact i2 x hx
theorem Vn {κ:Nat->Nat}:∀(cs st:List Nat),(st.map κ).Nodup->((YV κ cs st).1.map κ).Nodup/\st.length<=(YV κ cs st).1.length/\(∀i,i<st.length->(YV κ cs st).1[i]? = st[i]?)/\(YV κ cs st).2.length=cs.length/\∀k∈(YV κ cs st).2,k<(YV κ cs st).1.length
 |[],st,h=>⟨h,ajg _,fun _ _=>rfl,rfl,fun k hk=>by simp[YV] at hk⟩
 |c::cs,st,h=>by
  rw[YV]
  cases hd:decide (Vo (st.map κ) (κ c)<st.length) with
  |true =>
   obtain⟨h1,h2,h3,h4,h5⟩:=Vn cs st h;have hd:Vo (st.map κ) (κ c)<st.length:=by simpa using hd
   simp only[cond_true,ajk,h4];refine⟨h1,h2,h3,by first|rfl|trivial,fun k hk=>?_⟩;rcases ajo.1 hk with rfl|hk
   ·omega
   ·exact h5 k hk
  |false =>
   have hd:¬Vo (st.map κ) (κ c)<(st.map κ).length:=by rw[aje];simpa using hd
   rw[ML] at hd;obtain⟨h1,h2,h3,h4,h5⟩:=Vn cs (st++[c]) (by
    rw[ajA,List.nodup_append];refine⟨h,by simp,fun a ha b hb=>?_⟩;rw[aju,List.map_nil,ajm] at hb;rintro rfl;rw[hb] at ha;exact hd ha)
   rw[ajh,ajR] at h2;simp only[cond_false,ajk,h4];refine⟨h1,by omega,fun i hi=>?_,by first|rfl|trivial,fun k hk=>?_⟩
   ·rw[h3 i (by rw[ajh];omega),ajM hi]
   ·rcases ajo.1 hk with rfl|hk
    ·omega
    ·exact h5 k hk
theorem Vm {κ:Nat->Nat}{n:Nat}{st:List Nat}(h:(st.map κ).Nodup)(hn:∀a∈st,a<n):st.length<=n:=by
 have BL:st.Nodup:=by
  rw[List.Nodup,List.pairwise_map] at h;exact h.imp fun Zv e=>Zv (by rw[e])
 refine Ly n st.length (fun i=>gt st i) (fun i hi=>?_) fun i j hi hj e=>?_
 ·have:gt st i=st[i]:=by unfold gt;rw[ajl,aaa hi];rfl
  simp only[this];exact hn _ (ajc hi)
 ·have e1:gt st i=st[i]:=by unfold gt;rw[ajl,aaa hi];rfl
  have e2:gt st j=st[j]:=by unfold gt;rw[ajl,aaa hj];rfl
  simp only[e1,e2] at e;exact (List.getElem_inj BL).1 e
def X0 (A:Fa)(s:Nat):List Nat:=(List.range A.m).map (A.nx s)
def NF (A:Fa)(cl:Nat->Nat):List (Nat×List Nat):=UT cl (X0 A) (A.n+1) 0 [0]
def Vx (A:Fa):List (Nat×List Nat):=UT id (fun c=>(X0 A c).map (YP A)) (A.n+1) 0 [YP A 0]
theorem min_eq {A:Fa}(hA:A.ok){cl:Nat->Nat}(hc:∀u v,u<A.n->v<A.n->(cl u=cl v<->YP A u=YP A v)) :
  Vx A=(NF A cl).map (fun x=>(YP A x.1,x.2))/\∀x∈NF A cl,x.1<A.n:=by
 have hr:∀s,s<A.n->(fun c=>(X0 A c).map (YP A)) (YP A s)=(X0 A s).map (YP A)/\∀a∈X0 A s,a<A.n:=fun s hs=>by
  refine⟨?_,fun a ha=>?_⟩
  ·have YH:YP A s<A.n:=akg ((XA A).le s) hs;have he:=(Vw hA YH hs).1 ((XA A).fix s);simp only[X0,List.map_map];refine ajV fun x hx=>?_
   exact (he x (ajE.1 hx)).2
  ·obtain⟨x,hx,rfl⟩:=ajs.1 ha;exact hA.lt s x hs (ajE.1 hx)
 have:=MJ (κ:=cl) (ρ:=YP A) (Q:=fun a=>a<A.n) hc (row:=X0 A) (oQ:=fun c=>(X0 A c).map (YP A)) hr (A.n+1) 0 [0] fun a ha=>by rw[ajm.1 ha];exact hA.pos
 exact this
theorem Dp {A:Fa}(hA:A.ok){s:Nat}(hs:s<A.n){x:Nat}(hx:x<A.m):A.fr (YP A s) x=A.fr s x :=
 (((Vw hA (akg ((XA A).le s) hs) hs).1 ((XA A).fix s)) x hx).1
section
variable {α:Type} [DecidableEq α]
def YC (κ:Nat->α):Nat->List α
 |0=>[]
 |i+1=>if κ i∈YC κ i then YC κ i else YC κ i++[κ i]
theorem TV (κ:Nat->α)(k:α):∀n,k∈YC κ n<->∃i,i<n/\κ i=k
 |0=>by simp[YC]
 |n+1=>by
  have ih:=TV κ k n;have ihn:=TV κ (κ n) n;rw[YC]
  constructor
  ·intro h;by_cases e:κ n∈YC κ n
   ·rw[if_pos e] at h;obtain⟨i,h1,h2⟩:=ih.1 h;exact⟨i,by omega,h2⟩
   ·rw[if_neg e,ajX,ajm] at h;rcases h with h|h
    ·obtain⟨i,h1,h2⟩:=ih.1 h;exact⟨i,by omega,h2⟩
    ·exact⟨n,by omega,h.symm⟩
  ·rintro⟨i,h1,h2⟩;by_cases hi:i=n
   ·subst hi;by_cases e:κ i∈YC κ i
    ·rw[if_pos e,<-h2];exact e
    ·rw[if_neg e,h2];simp
   ·have:=ih.2 ⟨i,by omega,h2⟩;by_cases e:κ n∈YC κ n
    ·rw[if_pos e];exact this
    ·rw[if_neg e];exact List.mem_append_left _ this
theorem QM (κ:Nat->α):∀n,(YC κ n).Nodup
 |0=>by simp[YC]
 |n+1=>by
  have ih:=QM κ n;rw[YC];by_cases e:κ n∈YC κ n
  ·rw[if_pos e];exact ih
  ·rw[if_neg e,List.nodup_append];refine⟨ih,by simp,fun a ha b hb=>?_⟩;rw[ajm.1 hb];rintro rfl;exact e ha
theorem Iz (κ:Nat->α):∀n,(YC κ n).length<=n
 |0=>ajg _
 |n+1=>by
  have:=Iz κ n;rw[YC]
  split
  ·omega
  ·simp;omega
def S2 (κ:Nat->α)(k:α)(n:Nat):List Nat:=(List.range n).filter fun i=>decide (κ i=k)
theorem QN (κ:Nat->α)(k:α)(n u:Nat):u∈S2 κ k n<->u<n/\κ u=k:=by simp[S2]
theorem j0 (κ:Nat->α)(k:α)(n:Nat):(S2 κ k n).Nodup:=List.Pairwise.filter _ List.nodup_range
theorem LJ (κ:Nat->α)(k:α)(n:Nat):S2 κ k (n+1)=if κ n=k then S2 κ k n++[n] else S2 κ k n:=by
 unfold S2;rw[List.range_succ,List.filter_append];by_cases e:κ n=k <;> simp[e]
def WH (c:Nat):List Nat->Pt->Pt
 |[],p=>p
 |u::l,p=>WH c l { p with place:=p.place.set u p.list.length,set:=p.set.set u c,list:=p.list++[u] }
structure afx (n c:Nat)(l:List Nat)(p q:Pt):Prop where
 list:q.list=p.list++l
 bg:q.bg=p.bg
 en:q.en=p.en
 mr:q.mr=p.mr
 lp:q.place.length=n
 ls:q.set.length=n
 out:∀v,v∉l->gt q.place v=gt p.place v/\gt q.set v=gt p.set v
 inn:∀j (h:j<l.length),gt q.place l[j]=p.list.length+j/\gt q.set l[j]=c
theorem GK (n c:Nat):∀(l:List Nat) (p:Pt),l.Nodup->(∀u∈l,u<n)->p.place.length=n->p.set.length=n->afx n c l p (WH c l p)
 |[],p,_,_,h1,h2=>⟨by simp[WH],rfl,rfl,rfl,h1,h2,fun _ _=>⟨rfl,rfl⟩,fun j h=>by simp at h⟩
 |u::l,p,hn,hu,h1,h2=>by
  rw[aj8] at hn;have hun:=hu u (aba ..);have ih:=GK n c l { p with place:=p.place.set u p.list.length,set:=p.set.set u c,list:=p.list++[u] } hn.2 (fun x hx=>hu x (aab _ hx)) (by simp[h1]) (by simp[h2]);rw[WH];generalize WH c l { p with place:=p.place.set u p.list.length,set:=p.set.set u c,list:=p.list++[u] }=q at *;refine⟨by rw[ih.list];simp,ih.bg,ih.en,ih.mr,ih.lp,ih.ls,fun v hv=>?_,fun j hj=>?_⟩
  ·rw[ajo,not_or] at hv;obtain⟨a,b⟩:=ih.out v hv.2;rw[a,b];simp only[Uo];rw[if_neg (by omega),if_neg (by omega)];exact⟨rfl,rfl⟩
  ·cases j with
   |zero =>
    obtain⟨a,b⟩:=ih.out u hn.1;rw[List.getElem_cons_zero,a,b];rw[Uo,Uo,if_pos ⟨rfl,by omega⟩,if_pos ⟨rfl,by omega⟩];exact⟨rfl,rfl⟩
   |succ j =>
    obtain⟨a,b⟩:=ih.inn j (by simpa using hj);rw[List.getElem_cons_succ,a,b];refine⟨?_,rfl⟩;simp only[ajh,ajR];omega
def Fp (κ:Nat->α)(n:Nat):List α->Pt->Pt
 |[],p=>p
 |k::ks,p=>Fp κ n ks { WH p.bg.length (S2 κ k n) p with bg:=p.bg++[p.list.length],mr:=p.mr++[0],en:=p.en++[(WH p.bg.length (S2 κ k n) p).list.length] }
def Wx (κ:Nat->α)(n:Nat):Pt:=Fp κ n (YC κ n) ⟨[],List.replicate n 0,List.replicate n 0,[],[],[]⟩
structure Fil (κ:Nat->α)(n:Nat)(done:List α)(p:Pt):Prop where
 lp:p.place.length=n
 ls:p.set.length=n
 lb:p.bg.length=done.length
 le:p.en.length=done.length
 lm:p.mr.length=done.length
 li:∀i,i<p.list.length->gt p.list i<n/\gt p.place (gt p.list i)=i/\κ (gt p.list i)∈done
 st:∀u,u<n->κ u∈done->gt p.place u<p.list.length/\gt p.list (gt p.place u)=u/\gt p.set u<done.length/\gt p.bg (gt p.set u)<=gt p.place u/\gt p.place u<gt p.en (gt p.set u)/\done[gt p.set u]? = some (κ u)
 sp:∀k,k<done.length->gt p.bg k<gt p.en k/\gt p.en k<=p.list.length/\∀i,gt p.bg k<=i->i<gt p.en k->gt p.set (gt p.list i)=k
 mr:∀k,k<done.length->gt p.mr k=0
theorem CL {a b:List Nat}{i:Nat}(h:i<a.length):gt (a++b) i=gt a i:=by
 unfold gt;rw[ajl,ajl,ajM h]
theorem Ac {a b:List Nat}{i:Nat}(h:a.length<=i):gt (a++b) i=gt b (i-a.length):=by
 unfold gt;rw[ajl,ajl,akc h]
theorem R_ {l:List Nat}{i:Nat}(h:i<l.length):gt l i=l[i]:=by
 unfold gt;rw[ajl,aaa h];rfl
theorem jZ {κ:Nat->α}{n:Nat}{done:List α}{p:Pt}(h:Fil κ n done p){k:α}(hk:k∉done)(hex:∃i,i<n/\κ i=k) :
  Fil κ n (done++[k]) { WH p.bg.length (S2 κ k n) p with bg:=p.bg++[p.list.length],mr:=p.mr++[0],en:=p.en++[(WH p.bg.length (S2 κ k n) p).list.length] }:=by
 have ha:=GK n p.bg.length (S2 κ k n) p (j0 κ k n) (fun u hu=>((QN κ k n u).1 hu).1) h.lp h.ls;generalize WH p.bg.length (S2 κ k n) p=q at *;have Zv:0<(S2 κ k n).length:=by
  obtain⟨i,h1,h2⟩:=hex;exact List.length_pos_of_mem ((QN κ k n i).2 ⟨h1,h2⟩)
 have hgm:=QN κ k n;have hgd:=j0 κ k n;generalize S2 κ k n=G at *;have hql:q.list.length=p.list.length+G.length:=by rw[ha.list];simp
 have hdl:(done++[k]).length=done.length+1:=by simp
 have hB:∀i,gt (p.bg++[p.list.length]) i=if i=done.length then p.list.length else gt p.bg i:=fun i=>by rw[K9,h.lb]
 have hE:∀i,gt (p.en++[q.list.length]) i=if i=done.length then q.list.length else gt p.en i:=fun i=>by rw[K9,h.le]
 have hM:∀i,gt (p.mr++[0]) i=if i=done.length then 0 else gt p.mr i:=fun i=>by rw[K9,h.lm]
 have hold:∀i,i<p.list.length->gt q.list i=gt p.list i:=fun i hi=>by rw[ha.list,CL hi]
 have ab4:∀j (hj:j<G.length),gt q.list (p.list.length+j)=G[j]:=fun j hj=>by rw[ha.list,Ac (by omega),Nat.add_sub_cancel_left,R_ hj]
 have NG:∀i,i<p.list.length->gt p.list i∉G:=fun i hi hm=>by
  have:=(h.li i hi).2.2;rw[((hgm _).1 hm).2] at this;exact hk this
 refine⟨ha.lp,ha.ls,by simp[h.lb],by simp[h.le],by simp[h.lm],fun i hi=>?_,fun u hu hd=>?_,fun j hj=>?_,fun j hj=>?_⟩
 ·have hi:i<q.list.length:=hi;by_cases YH:i<p.list.length
  ·obtain⟨a,b,c⟩:=h.li i YH;obtain⟨o1,_⟩:=ha.out _ (NG i YH);simp only[hold i YH];exact⟨a,o1.trans b,List.mem_append_left _ c⟩
  ·obtain⟨j,rfl⟩:∃j,i=p.list.length+j:=⟨i-p.list.length,by omega⟩;have hj:j<G.length:=by omega
   simp only[ab4 j hj];obtain⟨g1,g2⟩:=(hgm _).1 (ajc hj);exact⟨g1,(ha.inn j hj).1,by rw[g2];simp⟩
 ·show gt q.place u<q.list.length/\gt q.list (gt q.place u)=u/\gt q.set u<(done++[k]).length/\gt (p.bg++[p.list.length]) (gt q.set u)<=gt q.place u/\gt q.place u<gt (p.en++[q.list.length]) (gt q.set u)/\(done++[k])[gt q.set u]? = some (κ u);by_cases hg:u∈G
  ·obtain⟨j,hj,rfl⟩:=ajw.1 hg;obtain⟨i1,i2⟩:=ha.inn j hj;have hs:gt q.set G[j]=done.length:=by rw[i2,h.lb]
   rw[i1,hs,ab4 j hj,hB,hE,if_pos rfl,if_pos rfl,hdl,((hgm _).1 hg).2];exact⟨by omega,rfl,by omega,by omega,by omega,by simp⟩
  ·have MO:κ u∈done:=by
    rcases ajX.1 hd with h1|h1
    ·exact h1
    ·exact absurd ((hgm u).2 ⟨hu,ajm.1 h1⟩) hg
   obtain⟨a,b,c,d,e,f⟩:=h.st u hu MO;obtain⟨o1,o2⟩:=ha.out u hg;rw[o1,o2,hold _ a,hB,hE,if_neg (by omega),if_neg (by omega),hdl,ajM c];exact⟨by omega,b,by omega,d,e,f⟩
 ·show gt (p.bg++[p.list.length]) j<gt (p.en++[q.list.length]) j/\gt (p.en++[q.list.length]) j<=q.list.length/\∀i,gt (p.bg++[p.list.length]) j<=i->i<gt (p.en++[q.list.length]) j->gt q.set (gt q.list i)=j;rw[hB,hE];by_cases e:j=done.length
  ·rw[if_pos e,if_pos e];refine⟨by omega,ajg _,fun i h1 h2=>?_⟩;obtain⟨r,rfl⟩:∃r,i=p.list.length+r:=⟨i-p.list.length,by omega⟩;have hr:r<G.length:=by omega
   rw[ab4 r hr,(ha.inn r hr).2,h.lb,e]
  ·have yh:j<done.length:=by have:j<(done++[k]).length:=hj;omega
   rw[if_neg e,if_neg e];obtain⟨a,b,c⟩:=h.sp j yh;refine⟨a,by omega,fun i h1 h2=>?_⟩;rw[hold i (by omega),(ha.out _ (NG i (by omega))).2];exact c i h1 h2
 ·show gt (p.mr++[0]) j=0;rw[hM];by_cases e:j=done.length
  ·rw[if_pos e]
  ·rw[if_neg e];exact h.mr j (by have:j<(done++[k]).length:=hj;omega)
theorem tK {κ:Nat->α}{n:Nat}:∀(ks:List α) {done:List α} {p:Pt},Fil κ n done p->(done++ks).Nodup->(∀k∈ks,∃i,i<n/\κ i=k)->Fil κ n (done++ks) (Fp κ n ks p)
 |[],done,p,h,_,_=>by rw[ajG];exact h
 |k::ks,done,p,h,hn,he=>by
  have hk:k∉done:=fun hm=>by
   rw[List.nodup_append] at hn;exact hn.2.2 k hm k (aba ..) rfl
  have h1:=jZ h hk (he k (aba ..));have e:done++k::ks=(done++[k])++ks:=by simp
  rw[e] at hn ⊢;exact tK ks h1 hn fun x hx=>he x (aab _ hx)
theorem AA (κ:Nat->α)(n:Nat):Fil κ n (YC κ n) (Wx κ n):=by
 have h0:Fil κ n [] ⟨[],List.replicate n 0,List.replicate n 0,[],[],[]⟩:=⟨by simp,by simp,rfl,rfl,rfl,fun i hi=>by simp at hi,fun u _ h=>by simp at h,fun k hk=>by simp at hk,fun k hk=>by simp at hk⟩;have:=tK (YC κ n) h0 (by simpa using QM κ n) fun k hk=>(TV κ k n).1 hk
 rw[ajP] at this;exact this
theorem Af {A:Fa}{κ:Nat->α}(hk:∀u v,u<A.n->v<A.n->(κ u=κ v<->∀x,x<A.m->A.fr u x=A.fr v x)):iW A (Wx κ A.n) (List.range (Wx κ A.n).bg.length):=by
 have h:=AA κ A.n;generalize Wx κ A.n=p at *;have hd:∀u,u<A.n->κ u∈YC κ A.n:=fun u hu=>(TV κ _ _).2 ⟨u,hu,rfl⟩
 have J8:p.list.length=A.n:=by
  refine Nat.le_antisymm (Ly A.n p.list.length (gt p.list) (fun i hi=>(h.li i hi).1) fun i j hi hj e=>?_) (Ly p.list.length A.n (gt p.place) (fun u hu=>(h.st u hu (hd u hu)).1) fun u v hu hv e=>?_)
  ·have a:=(h.li i hi).2.1;have b:=(h.li j hj).2.1;rw[e] at a;exact a.symm.trans b
  ·have a:=(h.st u hu (hd u hu)).2.1;have b:=(h.st v hv (hd v hv)).2.1;rw[e] at a;exact a.symm.trans b
 have N4:∀u v,u<A.n->v<A.n->(gt p.set u=gt p.set v<->κ u=κ v):=fun u v hu hv=>by
  obtain⟨_,_,a,_,_,b⟩:=h.st u hu (hd u hu);obtain⟨_,_,c,_,_,d⟩:=h.st v hv (hd v hv)
  constructor
  ·intro e;rw[e,d] at b;exact (Option.some.inj b).symm
  ·intro e;rw[aaa a] at b;rw[aaa c] at d;have:=(Option.some.inj b).trans (e.trans (Option.some.inj d).symm);exact (List.getElem_inj (QM κ A.n)).1 this
 refine⟨⟨J8,h.lp,h.ls,by rw[h.le,h.lb],by rw[h.lm,h.lb],fun u hu=>?_,fun i hi=>?_,fun u hu=>?_,fun k Cl=>?_,fun k Cl=>?_⟩,fun k Cl=>h.mr k (by rw[h.lb] at Cl;exact Cl),fun k Cl=>ajE.1 Cl,fun u v hu hv e=>(hk u v hu hv).1 ((N4 u v hu hv).1 e),fun B hB u v pN=>?_,fun _=>0,fun _ _ _ _ _=>rfl,fun _ _ _ _ _ _ _=>rfl,fun u v hu hv _=>?_⟩
 ·obtain⟨a,b,_⟩:=h.st u hu (hd u hu);exact⟨by omega,b⟩
 ·obtain⟨a,b,_⟩:=h.li i (by omega);exact⟨a,b⟩
 ·obtain⟨_,_,a,b,c,_⟩:=h.st u hu (hd u hu);exact⟨by rw[h.lb];exact a,b,c⟩
 ·obtain⟨a,b,c⟩:=h.sp k (by rw[h.lb] at Cl;exact Cl);exact⟨a,by omega,c⟩
 ·have a:=h.mr k (by rw[h.lb] at Cl;exact Cl);have b:=h.sp k (by rw[h.lb] at Cl;exact Cl);omega
 ·obtain⟨hu,hv⟩:=hB.lt u v pN;exact (N4 u v hu hv).2 ((hk u v hu hv).2 (hB.fr u v pN))
 ·obtain⟨_,_,a,_⟩:=h.st u hu (hd u hu);exact .inl (ajE.2 (by rw[h.lb];exact a))
end
def afy {α:Type} [DecidableEq α] (A:Fa)(κ:Nat->α)(XG:Nat->Nat->List Nat):Nat->Nat :=
 gt (Jc XG A.m (2*(A.n-(Wx κ A.n).bg.length)+(Wx κ A.n).bg.length) (Wx κ A.n) (List.range (Wx κ A.n).bg.length)).set
def N5 (A:Fa)(x c:Nat):List Nat:=(List.range A.n).filter fun u=>A.nx u x==c
theorem LS (A:Fa)(x c u:Nat):u∈N5 A x c<->u<A.n/\A.nx u x=c:=by simp[N5]
theorem abr {α:Type} [DecidableEq α] {A:Fa}(hA:A.ok){κ:Nat->α}(hk:∀u v,u<A.n->v<A.n->(κ u=κ v<->∀x,x<A.m->A.fr u x=A.fr v x)){u v:Nat}(hu:u<A.n)(hv:v<A.n) :
  afy A κ (N5 A) u=afy A κ (N5 A) v<->YP A u=YP A v:=by
 have h0:=Af hk;have h1:=D1 hA (fun y _ c _ u=>LS A y c u) _ h0 (ajg _);rw[List.length_range] at h1;exact iV hA h1 hu hv
end Go.Am
namespace Go.Am
open Go
variable [ZZ]
set_option maxRecDepth 100000
set_option maxHeartbeats 4000000
structure YY.ok (a:YY):Prop where
 lines:1<=a.lines/\a.lines<=4
 pos:0<a.next.length
 few:a.next.length<=512
 fl:a.ZC.length=a.next.length
 row:∀i (h:i<a.next.length),a.next[i].2.length=2^a.lines.toNat/\∀x∈a.next[i].2,0<=x/\x<(a.next.length:Int)
 Wg:∀i (h:i<a.ZC.length),a.ZC[i].2.length=2^a.lines.toNat
theorem Ov (n:Int):Cm n=((2^n.toNat:Nat):Int):=by unfold Cm;simp
theorem Kq {m:Nat}{n:Int}:∀{l:List (Bool×List Int)} {f:List (Bool×List Bool)},l.length=f.length->Ud m n l f=0 ->
  (∀i (h:i<l.length),l[i].2.length=m/\∀x∈l[i].2,0<=x/\x<n)/\∀i (h:i<f.length),f[i].2.length=m
 |[],f,hl,_=>by
  have:f=[]:=ajI.1 hl.symm;subst this;exact⟨fun i h=>by simp at h,fun i h=>by simp at h⟩
 |r::l,[],hl,_=>by simp at hl
 |r::l,g::f,hl,h=>by
  rw[Ud] at h;obtain⟨h1,h⟩:=XU h (by decide);obtain⟨h2,h⟩:=XU h (by decide);obtain⟨i1,i2⟩:=Kq (by simpa using hl) h;rw[ajJ] at h1;have e1:r.2.length=m:=by have:=h1.1;simp at this;omega
  have e2:g.2.length=m:=by have:=h1.2;simp at this;omega
  have e3:∀x∈r.2,0<=x/\x<n:=fun x hx=>by
   have:=UP (by simpa using List.any_eq_false.1 h2 x hx:outside x 0 (n-1)=false);omega
  refine⟨fun i hi=>?_,fun i hi=>?_⟩
  ·cases i with
   |zero=>exact⟨e1,e3⟩
   |succ i=>simpa using i1 i (by simpa using hi)
  ·cases i with
   |zero=>exact e2
   |succ i=>simpa using i2 i (by simpa using hi)
theorem YY.Mn {a:YY}(h:Jy a=0):a.ok:=by
 rw[Jy] at h;obtain⟨h1,h⟩:=XU h (by decide);obtain⟨h2,h⟩:=XU h (by decide);obtain⟨h3,h⟩:=XU h (by decide);obtain⟨h4,h⟩:=XU h (by decide);have hl:1<=a.lines/\a.lines<=4:=by
  simp only[outside,ajJ,decide_eq_false_iff_not] at h1;omega
 have hf:a.ZC.length=a.next.length:=by simp at h4;omega
 rw[Ov] at h;obtain⟨r1,r2⟩:=Kq hf.symm h;exact⟨hl,Nat.pos_of_ne_zero fun e=>by rw[e] at h2;exact absurd h2 (by decide),by simp at h3;omega,hf,r1,r2⟩
def YY.fa (a:YY):Fa where
 n:=a.next.length
 m:=2^a.lines.toNat
 nx s x:=((a.next.getD s (true,[])).2.getD x 0).toNat
 fr s x:=(a.ZC.getD s (true,[])).2.getD x false
theorem XT {A:Type}{l:List A}{i:Nat}{d:A}(h:i<l.length):l.getD i d=l[i]:=by
 rw[ajl,aaa h];rfl
theorem YY.ok.Ob {a:YY}(h:a.ok):a.fa.ok:=by
 refine⟨h.pos,fun s x hs hx=>?_⟩;have hs:s<a.next.length:=hs;have hx:x<2^a.lines.toNat:=hx;obtain⟨r1,r2⟩:=h.row s hs;show ((a.next.getD s (true,[])).2.getD x 0).toNat<a.next.length;rw[XT hs,XT (show x<a.next[s].2.length by omega)];have:=r2 _ (ajc (show x<a.next[s].2.length by omega));omega
theorem YY.ok.ie {a:YY}(h:a.ok){s x:Nat}(hs:s<a.next.length)(hx:x<2^a.lines.toNat):UC 1 (ZG a.next[s].1 (ints a.next[s].2)) (.int .i64 (x:Int))=some (.fp [.int .i64 ((a.fa.nx s x:Nat):Int)] 0):=by
 obtain⟨r1,r2⟩:=h.row s hs;have Ms:x<a.next[s].2.length:=by omega
 rw[Ph Ms];have e:a.fa.nx s x=(a.next[s].2[x]).toNat:=by
  show ((a.next.getD s (true,[])).2.getD x 0).toNat=_;rw[XT hs,XT Ms]
 have:=r2 _ (ajc Ms);rw[e,Int.toNat_of_nonneg this.1]
theorem YY.ok.agP {a:YY}(h:a.ok){s x:Nat}(hs:s<a.next.length)(hx:x<2^a.lines.toNat):UC 1 (ZG (a.ZC[s]'(by rw[h.fl];exact hs)).1 (ZB (a.ZC[s]'(by rw[h.fl];exact hs)).2)) (.int .i64 (x:Int))=some (.fp [.bool (a.fa.fr s x)] 0):=by
 have CY:s<a.ZC.length:=by rw[h.fl];exact hs
 have r1:=h.Wg s CY;have Ms:x<a.ZC[s].2.length:=by omega
 rw[Fb Ms];have e:a.fa.fr s x=a.ZC[s].2[x]:=by
  show (a.ZC.getD s (true,[])).2.getD x false=_;rw[XT CY,XT Ms]
 rw[e]
def AI (m:Nat)(l:List Int):Prop:=l.length<=4096/\∀x∈l,0<=x/\x<(m:Int)
theorem nC {lines:Int}{l:List Int}(h1:lines<=16)(h:U0 lines l=0):AI (2^lines.toNat) l:=by
 unfold U0 at h;obtain⟨q1,h⟩:=XU h (by decide);have q2:Pj lines l=false:=by
  cases hb:Pj lines l with
  |false=>rfl
  |true=>rw[hb] at h;exact absurd h (by decide)
 refine⟨by simp at q1;omega,fun x hx=>?_⟩;have:=UP (by simpa using List.any_eq_false.1 q2 x hx:outside x 0 (2^lines.toNat-1)=false);have e:=Ov lines;unfold Cm at e;omega
def XH (l:List Int)(t:Nat):Nat:=(l.getD t 0).toNat
theorem CX {m:Nat}{l:List Int}(h:AI m l){nl:Bool}{t:Nat}(ht:t<l.length):UC 1 (ZG nl (ints l)) (.int .i64 (t:Int))=some (.fp [.int .i64 ((XH l t:Nat):Int)] 0)/\XH l t<m:=by
 rw[Ph ht];have e:XH l t=(l[t]).toNat:=by unfold XH;rw[ajl,aaa ht];rfl
 have:=h.2 _ (ajc ht);rw[e,Int.toNat_of_nonneg this.1];exact⟨rfl,by omega⟩
def Yb (A:Fa)(l:List Int):Nat->Nat->Nat->List Int×Nat
 |0,_,s=>([],s)
 |r+1,t,s=>(bif A.fr s (XH l t) then (t:Int)::(Yb A l r (t+1) (A.nx s (XH l t))).1 else (Yb A l r (t+1) (A.nx s (XH l t))).1,(Yb A l r (t+1) (A.nx s (XH l t))).2)
theorem II (A:Fa)(l:List Int):∀(r t s:Nat),(Yb A l r t s).1.length<=r
 |0,_,_=>ajg _
 |r+1,t,s=>by
  rw[Yb];have:=II A l r (t+1) (A.nx s (XH l t))
  cases A.fr s (XH l t) with
  |true=>simp only[cond_true,ajk];omega
  |false=>simp only[cond_false];omega
theorem aaz (a:YY)(hn:a.next.length<=2^40)(hr:∀r∈a.next,r.2.length<=2^40)(nl:Bool)(l:List Int):Zw U 71 [VQ a,ZG nl (ints l)]=some (.int .i64 (br (Jy a != 0) (Jy a) (U0 a.lines l))):=by
 refine ZI agQ (by kernel_rfl) (by simp[ZO,Xp,YZ]) ?_;have h58:=c58 a hn hr;rw[WT] at h58 ⊢;unfold U6 Xd at h58 ⊢;have nn:=ZW a.TN (a.next.map Zi);have nf:=ZW a.Tc (a.ZC.map Zq);have cn:=ZR a.TN (a.next.map Zi);have cf:=ZR a.Tc (a.ZC.map Zq)
 cases h:Jy a != 0 with
 |true=>simp only[go_sem,aaA,nn,nf,cn,cf,h58,h]
 |false =>
  have ok:=YY.Mn (by simpa using h:Jy a=0);have h91:=c91 nl l a.lines (by have:=ok.lines;omega) (by have:=ok.lines;omega);have h0:Jy a=0:=by simpa using h
  rw[h0] at h58;simp only[go_sem,aaA,nn,nf,cn,cf,h58,h91]
theorem YY.ok.m16 {a:YY}(ha:a.ok):2^a.lines.toNat<=65536:=by have:=Pk a.lines (by have:=ha.lines;omega);have:=Ov a.lines;unfold Cm at this;omega
end Go.Am
