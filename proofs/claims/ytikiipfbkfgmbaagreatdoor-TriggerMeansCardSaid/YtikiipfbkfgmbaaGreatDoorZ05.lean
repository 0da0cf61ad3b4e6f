/- A part of the proof of a statement of this seat: the machine on which the program is read, and what it computes; for every input. -/
import Derived.Test.YtikiipfbkfgmbaaGreatDoorZ04
set_option linter.all false
namespace Go.Am
open Go
variable [Z4]
set_option maxRecDepth 100000
set_option maxHeartbeats 4000000
theorem ac1 (k:IntKind)(p:Bool)(x y:Int):br p (AV.int k x) (AV.int k y)=.int k (br p x y):=by cases p <;> rfl
theorem ac2 (p:Bool)(x y:XV):br p (AV.str x) (AV.str y)=.str (br p x y):=by cases p <;> rfl
attribute [go_sem] ac1 ac2
theorem aA (n a b:Int):ZE U 94 [.int .i64 n,.int .i64 a,.int .i64 b]=some (.bool (outside n a b)):=by
 refine ZR k94 (by kernel_rfl) rfl ?_;simp +contextual only[go_sem,r94];rfl
theorem c26 (n:Int):ZE U 26 [.int .i64 n]=some (.int .i64 (br (outside n 1 16) 3 0)):=by
 refine ZR k26 (by kernel_rfl) rfl ?_;simp +contextual only[go_sem,r26,aA]
theorem nt (p:Bool)(n:Int):ZE U 116 [.bool p,.int .i64 n]=some (.int .i64 (br p n 0)):=by
 refine ZR aif (by kernel_rfl) rfl ?_;simp +contextual only[go_sem,aen]
theorem aa4 (n a b:Int):ZE U 124 [.int .i64 n,.int .i64 a,.int .i64 b]=some (.int .i64 (within n a b)):=by
 refine ZR aih (by kernel_rfl) rfl ?_;simp +contextual only[go_sem,aeo,nt];rfl
theorem c88 (n:Int):ZE U 88 [.int .i64 n]=some (.int .i64 (within n 1 16)):=by
 refine ZR k88 (by kernel_rfl) rfl ?_;simp +contextual only[go_sem,r88,aa4]
theorem YH {X:Cx}{β:Type}{fin:Fl->β}{ks:List K} [Stat] {b:RC}{σ:Type}(m:σ->Nat)(R:σ->β)(I:σ->Env->St->Prop)(x:σ){r:β}{e:Env}{s:St}
  (h:∀(L:RC) (x:σ) (e:Env) (s:St),I x e s->(∀(y:σ) (e':Env) (s':St),m y<m x->I y e' s'->SD X fin ks L e' s'=R y)->go X fin (.lp L::ks) b e s=R x)
  (hr:R x=r)(hI:I x e s):SD X fin ks b e s=r:=by
 rw[<-hr];exact qQ X fin ks m I R h x hI
theorem YK (l:List Int):(ints l).length=l.length:=by simp[ints]
theorem RM (l:List Int)(i:Nat):(ints l)[i]? = (l[i]?).map (.int .i64 ·):=by simp[ints]
theorem Z8 (a b:Nat):decide ((a:Int)<(b:Int))=decide (a<b):=by congr 1;apply propext;omega
theorem g89 (l:List Int)(hlen:l.length<2^62):go U (Mt U [.tmp 2]) [] r89 (YX 0 [.fz (ints l)] .nil) (X8 U)=some (.int .i64 (XY l)):=by
 simp only[go_sem,r89];refine YH (σ:=Nat) (fun i=>l.length-i) (fun i=>some (AV.int .i64 (XY (l.drop i)))) (fun i e s=>i<=l.length/\Env.get e 5=.fz (ints l)/\Env.get e 6=.int .i64 l.length/\Env.get e 7=.int .i64 i) 0 ?_ rfl ?_
 ·rintro L i e s ⟨hi,h5,h6,h7⟩ ih;by_cases hd:i<l.length
  ·have hx:(ints l)[i]? = some (.int .i64 l[i]):=by rw[RM,aaa hd];rfl
   have hw:IntKind.i64.wrap ((i:Int)+1)=((i+1:Nat):Int):=by rw[wrap_i64] <;> omega
   simp only[go_sem,wM,h5,h6,h7,Z8,hd,hx];rw[abc hd,XY]
   cases hb:l[i] != 0
   ·simp only[go_sem,hw];refine ih (i+1) _ _ (by omega) ⟨by omega,?_,?_,?_⟩ <;> simp only[go_sem,h5,h6]
   ·simp only[go_sem]
  ·have:i=l.length:=by omega
   subst this;simp only[go_sem,wM,h6,h7,Z8,alh];rw[alO];rfl
 ·refine⟨aic _,?_,?_,?_⟩ <;> simp only[go_sem,YK] <;> rfl
def aea (u:Uses):AV:=.agg [.bool u.a,.bool u.b,.bool u.mi,.bool u.ma,.bool u.pat,.bool u.kids]
theorem c95 (k:XV):ZE U 95 [.str k]=some (.XU [aea (YQ (ZF k)),.bool (ZF k).known]):=by
 refine ZR k95 (by kernel_rfl) rfl ?_;obtain⟨h0,h1,h2,h3,h4,h5,h6,h7,h8,h9,h10,h11,h12,h13,h14⟩:=UN k;generalize ZF k=d at *
 cases d
 all_goals simp only[reduceCtorEq,decide_true,decide_false] at h1 h2 h3 h4 h5 h6 h7 h8 h9 h10 h11 h12 h13 h14
 all_goals simp only[go_sem,r95,h1,h2,h3,h4,h5,h6,h7,h8,h9,h10,h11,h12,h13,h14]
 all_goals rfl
theorem Z5.ind {P:Z5->Prop}(h:∀k a b mi ma p nl kids,(∀x∈kids,P x)->P (.mk k a b mi ma p nl kids)):∀c,P c:=by
 intro c;exact Z5.rec (motive_1:=P) (motive_2:=fun l=>∀x∈l,P x) (fun k a b mi ma p nl kids ih=>h k a b mi ma p nl kids ih) (fun x hx=>by cases hx)
  (fun c l h1 h2 x hx=>by
   rcases alL.1 hx with rfl|hx
   ·exact h1
   ·exact h2 x hx) c
theorem Zt (c:Z5):still (Zw c)=true:=by
 cases c;simp[Zw,still,ZU,X7]
theorem YR {nl:Bool}{l:List AV}(h:l≠[]):ZG nl l=.fz l:=by
 cases l with
 |nil=>exact absurd rfl h
 |cons x l=>exact JA ..
theorem XL {l:List Z5}{i:Nat}(h:i<l.length):WW l≠[]:=by
 intro e;have:=Yd l;rw[e] at this;simp at this;omega
def Z5.fits:Z5->Prop
 |.mk _ _ _ _ _ pat _ kids=>pat.length<2^30/\kids.length<2^30/\∀x∈kids,x.fits
theorem Bt (c:UInt8)(n:Int)(d:UInt8)(h:n=(d.toNat:Int)):((c.toNat:Int)==n)=(c==d):=by
 subst h;by_cases e:c=d
 ·subst e;rw[beq_self_eq_true,beq_self_eq_true]
 ·have h1:(c.toNat:Int)≠(d.toNat:Int):=fun h=>e (UInt8.toNat_inj.1 (by omega))
  rw[beq_eq_false_iff_ne.2 h1,beq_eq_false_iff_ne.2 e]
theorem Bs (c:UInt8)(n:Int)(d:UInt8)(h:n=(d.toNat:Int)):((c.toNat:Int) != n)=(c != d):=by
 rw[bne,bne,Bt c n d h]
theorem ZN {i n:Nat}(h:i<n)(hn:n<2^62):IntKind.i64.wrap ((i:Int)+1)=((i+1:Nat):Int):=by rw[wrap_i64] <;> omega
theorem c96 (pat:XV)(n:Int)(hl:pat.length<2^30):ZE U 96 [.str pat,.int .i64 n]=some (.bool (MA pat n)):=by
 refine ZR k96 (by kernel_rfl) rfl ?_;simp +contextual only[go_sem,r96,MA]
 cases hb:(pat.length:Int) != n
 ·simp +contextual only[go_sem,amf];refine YH (σ:=Nat) (fun i=>pat.length-i) (fun i=>some (AV.bool ((pat.drop i).any fun c=>c != 48&&c != 49&&c != 120))) (fun i e s=>i<=pat.length/\Env.get e 0=.str pat/\Env.get e 5=.int .i64 i) 0 ?_ rfl ?_
  ·rintro L i e s ⟨hi,h0,h5⟩ ih;by_cases hd:i<pat.length
   ·have hx:pat[i]? = some pat[i]:=aaa hd;have hw:=ZN hd (by omega);simp +contextual only[go_sem,wq,h0,h5,Z8,hd,hx,Bs _ 48 48 rfl,Bs _ 49 49 rfl,Bs _ 120 120 rfl];rw[abc hd,List.any_cons]
    cases hc:pat[i] != 48&&pat[i] != 49&&pat[i] != 120
    ·rw[amf];simp +contextual only[go_sem,hw,Xv];refine ih (i+1) _ _ (by omega) ⟨by omega,?_,?_⟩ <;> simp +contextual only[go_sem,h0]
    ·simp +contextual only[go_sem,Bool.true_or]
   ·have:i=pat.length:=by omega
    subst this;simp +contextual only[go_sem,wq,h0,h5,Z8,alh];rw[alO];rfl
  ·refine⟨aic _,?_,?_⟩ <;> simp +contextual only[go_sem] <;> rfl
 ·simp +contextual only[go_sem,Bool.true_or]
end Go.Am
namespace Go.Am
open Go
variable [Z4]
set_option maxRecDepth 100000
set_option maxHeartbeats 8000000
theorem T8 (k:IntKind)(p:Bool)(x y:Int):some (AV.int k (br p x y))=br p (some (.int k x)) (some (.int k y)):=by cases p <;> rfl
theorem tK (c:Z5)(a b:Int):ZU [.int .i64 a,Zw c,.int .i64 b]=true:=by simp[ZU,still,Zt]
theorem c27 (lines:Int):∀c:Z5,c.fits->∀depth:Int,ZE U 27 [.int .i64 lines,Zw c,.int .i64 depth]=some (.int .i64 (Mr lines c depth)):=by
 intro c
 induction c using Z5.ind with
 |h kind a b mi ma pat nl kids ih =>
 intro hf depth;rw[Z5.fits] at hf;obtain⟨f1,f2,f3⟩:=hf;refine ZR k27 (by kernel_rfl) (tK _ _ _) ?_;rw[Zw,Mr];simp (maxSteps:=2000000) +contextual only[go_sem,r27,c95,aA,c96 pat _ f1,aea,ZI,Yd];simp only[T8];refine SR fun _=>SR fun _=>SR fun _=>SR fun _=>SR fun _=>SR fun _=>SR fun _=>SR fun _=>SR fun _=>SR fun _=>SR fun _=>?_
 refine YH (σ:=Nat) (fun i=>kids.length-i) (fun i=>some (AV.int .i64 (Pz lines (kids.drop i) (IntKind.i64.wrap (depth+1))))) (fun i e s=>i<=kids.length/\Env.get e 9=.int .i64 i/\Env.get e 0=.int .i64 lines/\Env.get e 2=.int .i64 depth/\Env.get e 4=.ptr 8 0 /\
  s.get 8=some (.cells [.str kind,.int .i64 a,.int .i64 b,.int .i64 mi,.int .i64 ma,.str pat,ZG nl (WW kids)] 39 false 0 0)) 0 ?_ rfl ?_
 ·rintro L i e s ⟨hi,h9,h0,h2,h4,hs⟩ IH;by_cases hd:i<kids.length
  ·have hx:(WW kids)[i]? = some (Zw kids[i]):=by rw[Vb,aaa hd];rfl
   have hw:=ZN hd (by omega);have hc:=ih kids[i] (adm hd) (f3 _ (adm hd)) (IntKind.i64.wrap (depth+1));rw[YR (XL hd)] at hs;rw[ZV] at hx hc;simp only[Z5.cells] at hx hc;simp +contextual only[go_sem,wH,h9,h0,h2,h4,hs,Z8,hd,Yd,hx,hc];rw[abc hd,Pz]
   cases hb:Mr lines kids[i] (IntKind.i64.wrap (depth+1)) != 0
   ·simp only[go_sem,hw];refine IH (i+1) _ _ (by omega) ⟨by omega,?_,?_,?_,?_,?_⟩ <;> simp +contextual only[go_sem,h0,h2,h4,hs,YR (XL hd)]
   ·simp only[go_sem]
  ·have:i=kids.length:=by omega
   subst this;simp +contextual only[go_sem,wH,h9,h4,hs,ZI,Yd,Z8,alh];rw[alO,Pz]
 ·refine⟨aic _,?_,?_,?_,?_,?_⟩ <;> simp +contextual only[go_sem] <;> rfl
def Prog.fits (p:Prog):Prop:=p.steps.length<2^30/\∀s∈p.steps,s.cond.fits
def Zx (l:List Step):List AV:=l.map YL
theorem YY (l:List Step):(Zx l).length=l.length:=by simp[Zx]
theorem Wu (l:List Step)(i:Nat):(Zx l)[i]? = (l[i]?).map YL:=by simp[Zx]
theorem X_ {l:List Step}{i:Nat}(h:i<l.length):Zx l≠[]:=by
 intro e;have:=YY l;rw[e] at this;simp at this;omega
theorem X9 (p:Prog):Vw p=.agg [.int .i64 p.lines,ZG p.nl (Zx p.steps)]:=rfl
theorem X' (p:Prog):still (Vw p)=true:=by simp[Vw,still,ZU,X7]
def Ls (lines:Int):Nat->List Step->Int
 |_,[]=>0
 |i,s::l=>br (Mr lines s.cond 1 != 0) (Mr lines s.cond 1) <|
  br (outside s.times 1 64||outside s.within 0 255||((i:Int)==0)&&s.within != 0) 3 <| Ls lines (i+1) l
def RY (n:Int):Int:=br (outside n 1 16) 3 0
def At (p:Prog):Int :=
 br (RY p.lines != 0) (RY p.lines) <| br ((p.steps.length:Int)==0) 12 <| br (decide ((p.steps.length:Int)>8)) 5 <| Ls p.lines 0 p.steps
theorem c34 (p:Prog)(hf:p.fits):ZE U 34 [Vw p]=some (.int .i64 (At p)):=by
 obtain⟨lines,nl,steps⟩:=p;obtain⟨f1,f2⟩:=hf;simp only at f1 f2;refine ZR k34 (by kernel_rfl) (by simp[ZU,X']) ?_;rw[X9,At,RY];simp (maxSteps:=2000000) +contextual only[go_sem,r34,c26,ZI,YY];simp only[T8];refine SR fun _=>?_
 refine SR fun _=>?_
 refine SR fun _=>?_
 refine YH (σ:=Nat) (fun i=>steps.length-i) (fun i=>some (AV.int .i64 (Ls lines i (steps.drop i)))) (fun i e s=>i<=steps.length/\Env.get e 4=.int .i64 i/\Env.get e 1=.ptr 8 0/\8<s.next /\
  s.get 8=some (.cells [.int .i64 lines,ZG nl (Zx steps)] 31 false 0 0)) 0 ?_ rfl ?_
 ·rintro L i e s ⟨hi,h4,h1,hn,hs⟩ IH;by_cases hd:i<steps.length
  ·have hx:(Zx steps)[i]? = some (YL steps[i]):=by rw[Wu,aaa hd];rfl
   have hw:=ZN hd (by omega);have ZC:¬s.next=8:=by omega
   have hc:=c27 lines steps[i].cond (f2 _ (adm hd)) 1;rw[YR (X_ hd)] at hs;rw[ZV] at hc;simp only[Z5.cells,YL] at hx hc;simp +contextual only[go_sem,w7,h4,h1,hs,Z8,hd,YY,hx,hc,ZC,ZL,aA];rw[abc hd,Ls];simp only[T8];refine SR fun _=>?_
   cases hb:(outside steps[i].times 1 64||outside steps[i].within 0 255||(i:Int)==0&&steps[i].within != 0)
   ·simp only[go_sem,hw];refine IH (i+1) _ _ (by omega) ⟨by omega,?_,?_,?_,?_⟩ <;> simp +contextual only[go_sem,h1,hs,ZC,YR (X_ hd)]
    omega
   ·simp only[go_sem]
  ·have:i=steps.length:=by omega
   subst this;simp +contextual only[go_sem,w7,h4,h1,hs,ZI,YY,Z8,alh];rw[alO,Ls]
 ·refine⟨aic _,?_,?_,?_,?_⟩ <;> simp +contextual only[go_sem] <;> rfl
end Go.Am
namespace Go.Am
open Go
variable [Z4]
set_option maxRecDepth 100000
def aeu:RC:=(sO [Gu 4] (sQ (sO [om 7 0,o 8 (.bin .eql 9 true (.t 7) (.v (.str []))),om 9 8,Yo 10 9 1,oF 11 9 (.bin .eql 9 true (.t 10) (.v (.str []))),Yp 12 9 11] (cT 12 (sO [om 13 0,om 4 13] .ret))) (sQ (sO [om 14 1,Om 15 14,VR 16 3 15 1,om 17 16,Zp 18 17 1,oT 19 17 (.sZ (.t 18) (vI 0)),oT 20 17 (.bin .lss 5 true (.t 19) (.v (.int .u8 128))),YJ 21 17 20] (cT 21 (sQ (.TP 8 [om 22 0,om 23 1,o 24 (.sZ (.t 23) (vI 0)),Zb 25 238 22 24,om 26 1,o 27 (.sZ (.t 26) (vI 0)),Zb 28 237 25 27,om 4 28]) .ret))) (sQ (sO [om 30 1,Zc 31 239 30,om 29 31,YO 32 29 0,YO 33 29 1,o 5 (.al [bF,bF,bF,bF,bF,bF,bF,bF,bF,bF,bF,bF,bF,bF,bF,bF,bF,bF,bF,bF,bF,bF,bF,bF,bF,bF,bF,bF,bF,bF,bF,bF,bF,bF,bF,bF,bF,bF,bF,bF,bF,bF,bF,bF,bF,bF,bF,bF,bF,bF,bF,bF,bF,bF,bF,bF,bF,bF,bF,bF,bF,bF,bF,bF,bF,bF,bF,bF,bF,bF,bF,bF,bF,bF,bF,bF,bF,bF,bF,bF,bF,bF,bF,bF,bF,bF,bF,bF,bF,bF,bF,bF,bF,bF,bF,bF,bF,bF,bF,bF,bF,bF,bF,bF,bF,bF,bF,bF,bF,bF,bF,bF,bF,bF,bF,bF,bF,bF,bF,bF,bF,bF,bF,bF,bF,bF,bF,bF,bF,bF,bF,bF,bF,bF,bF,bF,bF,bF,bF,bF,bF,bF,bF,bF,bF,bF,bF,bF,bF,bF,bF,bF,bF,bF,bF,bF,bF,bF,bF,bF,bF,bF,bF,bF,bF,bF,bF,bF,bF,bF,bF,bF,bF,bF,bF,bF,bF,bF,bF,bF,bF,bF,bF,bF,bF,bF,bF,bF,bF,bF,bF,bF,bF,bF,bF,bF,bF,bF,bF,bF,bF,bF,bF,bF,bF,bF,bF,bF,bF,bF,bF,bF,bF,bF,bF,bF,bF,bF,bF,bF,bF,bF,bF,bF,bF,bF,bF,bF,bF,bF,bF,bF,bF,bF,bF,bF,bF,bF,bF,bF,bF,bF,bF,bF,bF,bF,bF,bF,bF,bF,bF,bF,bF,bF,bF,bF] 305),YT 256 5 32,om 6 33] (sO [om 34 6] (cT 34 (sO [om 35 0,Zb 36 241 35 5,Zb 37 240 36 5,om 4 37] .ret)))) (sO [om 38 0,om 39 1,Zb 40 243 38 39,om 41 1,Zb 42 242 40 41,om 4 42] .ret)))))
theorem ain:Ze 212=some ([.tmp 4],aeu):=by kernel_rfl
def BO:RC:=(sQ (sO [om 5 0,Om 6 5,VM 7 3 6 0] (cS 7 (.exit 0))) (.block 1 (sQ (sO [om 8 1,om 9 0,o 10 (.sZ (.t 9) (vI 0)),Zb 11 263 8 10,WZ 12 11] (cT 12 (.exit 0))) (oP [om 13 0,o 14 (.sls (.t 13) (some (vI 1)) none),om 0 14]))))
def ae5:RC:=(sO [Gu 4] (sQ (.block 0 (.loop BO)) (sO [om 15 0,om 4 15] .ret)))
theorem aiS:Ze 240=some ([.tmp 4],ae5):=by kernel_rfl
def B3:RC:=(sQ (sO [om 5 0,Om 6 5,VM 7 3 6 0] (cS 7 (.exit 0))) (.block 1 (sQ (sO [om 8 1,om 9 0,om 10 0,Om 11 10,O8 12 3 11 1,o 13 (.sZ (.t 9) (.t 12)),Zb 14 263 8 13,WZ 15 14] (cT 15 (.exit 0))) (oP [om 16 0,om 17 0,Om 18 17,O8 19 3 18 1,o 20 (.sls (.t 16) none (some (.t 19))),om 0 20]))))
def aeq:RC:=(sO [Gu 4] (sQ (.block 0 (.loop B3)) (sO [om 21 0,om 4 21] .ret)))
theorem aij:Ze 241=some ([.tmp 4],aeq):=by kernel_rfl
def ae4:RC:=(sO [Zj 4] (sO [om 5 0,om 6 1,Yb 7 5,o 8 (.aw 256 1 (.t 7) (.t 6)),Z0 9 8,om 4 9] .ret))
theorem aiR:Ze 263=some ([.tmp 4],ae4):=by kernel_rfl
end Go.Am
namespace Go.Am
open Go
variable [Z4]
set_option maxRecDepth 100000
set_option maxHeartbeats 8000000
def Pk:Kd->AV
 |.high=>.fn (.func 194) [] []
 |.low=>.fn (.func 194) [] []
 |.Iz=>.fn (.func 194) [] []
 |.fall=>.fn (.func 194) [] []
 |.pattern=>.fn (.func 194) [] []
 |.enter=>.fn (.func 194) [] []
 |.Vj=>.fn (.func 192) [] []
 |.gap=>.fn (.func 192) [] []
 |.idle=>.fn (.func 193) [] []
 |.setup=>.fn (.func 193) [] []
 |.Uf=>.fn (.func 210) [] []
 |_=>.Wa
def Sh:Kd->AV
 |.high=>.fn (.func 195) [] []
 |.low=>.fn (.func 195) [] []
 |.Iz=>.fn (.func 195) [] []
 |.fall=>.fn (.func 195) [] []
 |.pattern=>.fn (.func 195) [] []
 |.enter=>.fn (.func 195) [] []
 |.Vj=>.fn (.func 195) [] []
 |.gap=>.fn (.func 195) [] []
 |.idle=>.fn (.func 195) [] []
 |.setup=>.fn (.func 208) [] []
 |.Uf=>.fn (.func 195) [] []
 |_=>.Wa
def Pj:Kd->AV
 |.high=>.fn (.func 235) [] [.fp [.fn (.func 197) [] []] 0]
 |.low=>.fn (.func 235) [] [.fp [.fn (.func 199) [] []] 0]
 |.Iz=>.fn (.func 235) [] [.fp [.fn (.func 200) [] []] 0]
 |.fall=>.fn (.func 235) [] [.fp [.fn (.func 202) [] []] 0]
 |.pattern=>.fn (.func 235) [] [.fp [.fn (.func 203) [] []] 0]
 |.enter=>.fn (.func 235) [] [.fp [.fn (.func 205) [] []] 0]
 |.Vj=>.fn (.func 236) [] [.fp [.bool true] 0]
 |.gap=>.fn (.func 236) [] [.fp [.bool false] 0]
 |.idle=>.fn (.func 207) [] []
 |.setup=>.fn (.func 209) [] []
 |.Uf=>.fn (.func 211) [] []
 |_=>.Wa
def Vz (d:Kd):AV:=.agg [.bool (YQ d).a,.bool (YQ d).b,.bool (YQ d).mi,.bool (YQ d).ma,.bool (YQ d).pat,.bool (YQ d).kids,Pk d,Sh d,Pj d]
def Kh:List AV:=[.str [104,105,103,104],.str [108,111,119],.str [114,105,115,101],.str [102,97,108,108],.str [112,97,116,116,101,114,110],.str [101,110,116,101,114],.str [112,117,108,115,101],.str [103,97,112],.str [105,100,108,101],.str [115,101,116,117,112],.str [114,117,110,116],.str [110,111,116],.str [97,108,108],.str [97,110,121]]
def Kg:List AV:=[Vz .high,Vz .low,Vz .Iz,Vz .fall,Vz .pattern,Vz .enter,Vz .Vj,Vz .gap,Vz .idle,Vz .setup,Vz .Uf,Vz .QG,Vz .EU,Vz .OV]
theorem aaJ:ZE U 156 []=some (.fm Kh Kg):=VL (by kernel_rfl) rfl (Za U (n:=100000) (by kernel_rfl))
theorem LL (k:XV)(ok:Bool)(s:St):VK U 238 (.fm Kh Kg) (.str k) ok s=some (if ok then .XU [Vz (ZF k),.bool (ZF k).known] else Vz (ZF k)):=by
 have hu:U.Zd 238=some (.map 9 236):=by kernel_rfl
 have h9:U.Zd 9=some .string:=by kernel_rfl
 have hz:zero U 236=some (Vz .other):=by kernel_rfl
 obtain⟨h0,h1,h2,h3,h4,h5,h6,h7,h8,h9',h10,h11,h12,h13,h14⟩:=UN k;unfold VK;rw[hu];simp only[Uq,h9,if_true,Kh,Kg,List.zip_cons_cons,List.zip_nil_left];generalize ZF k=d at *
 cases d <;> simp only[reduceCtorEq,decide_true,decide_false] at h1 h2 h3 h4 h5 h6 h7 h8 h9' h10 h11 h12 h13 h14 <;>
  simp only[UM,VQ,h1,h2,h3,h4,h5,h6,h7,h8,h9',h10,h11,h12,h13,h14,hz] <;> rfl
def nP (X:Cx)(t:TypeId)(ok:Bool)(m k:Option AV)(s:St):Option (AV×St):=match m,k with
 |some m,some k=>Zm (VK X t m k ok s) s
 |_,_=>none
theorem xu (X:Cx)(ex:Ex)(e:Env)(s:St)(t:TypeId)(m k:Operand)(ok:Bool):YI X ex e (.lookup t m k ok) s=nP X t ok (eval X e m) (eval X e k) s:=by
 unfold nP;simp only[YI];rfl
theorem xt (X:Cx)(t:TypeId)(ok:Bool)(m k:AV)(s:St):nP X t ok (some m) (some k) s=Zm (VK X t m k ok s) s:=(fun h=>h) rfl
theorem ET (k:XV)(s:St):VK U 238 (.fm Kh Kg) (.str k) true s=some (.XU [Vz (ZF k),.bool (ZF k).known]):=LL k true s
theorem M1 (k:XV)(s:St):VK U 238 (.fm Kh Kg) (.str k) false s=some (Vz (ZF k)):=LL k false s
attribute [go_sem] xu xt
def PO:List AV:=(List.range 256).map fun n=>.bool (Nat.beq n 48||Nat.beq n 49||Nat.beq n 120)
theorem AY:PO.length=256:=by simp[PO]
theorem xr:PO.all Zz=true:=by simp[PO,Zz]
theorem nO (c:UInt8):PO[c.toNat]? = some (.bool (c==48||c==49||c==120)):=by
 have hc:c.toNat<256:=c.toNat_lt;have e:∀d:UInt8,Nat.beq c.toNat d.toNat=(c==d):=fun d=>by
  rw[amj,Nat.beq_eq,beq_iff_eq];exact UInt8.toNat_inj
 have e1:=e 48;have e2:=e 49;have e3:=e 120;simp only[PO,alV,List.getElem?_range hc,amo];rw[<-e1,<-e2,<-e3];rfl
theorem aho:ZE U 239 [.str [48,49,120]]=some (.XU [.agg PO,.bool true]):=VL (by kernel_rfl) rfl (Za U (n:=100000) (by kernel_rfl))
theorem abF (b:XV)(k:IntKind)(n:Int):vK (.str b) none (some (.int k n))=if 0<=n/\n<=b.length then some (.str (b.take n.toNat)) else none:=by
 simp only[vK,Yz];by_cases h:0<=n/\n<=b.length
 ·simp[h]
 ·simp[h]
theorem abG (b:XV)(k:IntKind)(n:Int):vK (.str b) (some (.int k n)) none=if 0<=n/\n<=b.length then some (.str (b.drop n.toNat)) else none:=by
 simp only[vK,Yz];by_cases h:0<=n/\n<=b.length
 ·simp[h]
 ·simp[h]
attribute [go_sem] abF abG
theorem aer (c:UInt8):ZE U 263 [.fp PO 0,.int .u8 c.toNat]=some (.bool (c==48||c==49||c==120)):=by
 have hc:c.toNat<256:=c.toNat_lt;have hx:=nO c;have h0:(0:Int)<=(c.toNat:Int):=by omega
 refine ZR aiR (by kernel_rfl) rfl ?_;simp only[go_sem,ae4,hx,hc,ah1,sF]
def Up (c:UInt8):Bool:=c==48||c==49||c==120
def SM (s:XV):XV:=(s.reverse.dropWhile Up).reverse
theorem zK (l:XV)(c:UInt8):SM (l++[c])=bif Up c then SM l else l++[c]:=by
 unfold SM;rw[List.reverse_append,List.reverse_singleton,List.singleton_append,List.dropWhile_cons]
 cases Up c <;> simp
theorem nr (s:XV):((SM s).dropWhile Up==[])=s.all Up:=by
 have h1:∀l:XV,(l.dropWhile Up=[])<->l.all Up=true:=fun l=>by
  induction l with
  |nil=>simp
  |cons c l ih =>
   rw[List.dropWhile_cons,List.all_cons]
   cases h:Up c <;> simp[ih]
 rw[amj,beq_iff_eq,h1];unfold SM;rw[List.all_reverse]
 constructor
 ·intro h;have h2:s.reverse.dropWhile Up=[]:=by
   cases hd:s.reverse.dropWhile Up with
   |nil=>rfl
   |cons c l =>
    exfalso;rw[hd] at h;have:=List.head?_dropWhile_not (p:=Up) (l:=s.reverse);rw[hd] at this;simp only[List.head?_cons] at this;simp only[List.all_cons,agw] at h;simp[h.1] at this
  rw[h1,List.all_reverse] at h2;exact h2
 ·intro h;have:s.reverse.dropWhile Up=[]:=by rw[h1,List.all_reverse];exact h
  rw[this];rfl
theorem aim (s:XV)(hl:s.length<2^30):ZE U 240 [.str s,.fp PO 0]=some (.str (s.dropWhile Up)):=by
 refine ZR aiS (by kernel_rfl) rfl ?_;simp only[go_sem,ae5];refine YH (σ:=XV) (fun x=>x.length) (fun x=>some (AV.str (x.dropWhile Up))) (fun x e s=>Env.get e 0=.str x/\Env.get e 1=.fp PO 0) s ?_ rfl ?_
 ·rintro L x e s ⟨h0,h1⟩ ih
  cases x with
  |nil =>
   simp only[go_sem,BO,h0,gt_iff_lt,Int.natCast_zero,Int.lt_irrefl];rfl
  |cons c l =>
   have hp:(0:Int)<((l.length+1:Nat):Int):=by omega
   have hle:((0:Int)<=1/\(1:Int)<=((l.length+1:Nat):Int)):=by omega
   simp only[go_sem,BO,h0,h1,gt_iff_lt,hp,aer,hle];rw[List.dropWhile_cons]
   cases hc:Up c
   ·have Iu:(c==48||c==49||c==120)=false:=hc;simp only[go_sem,Iu,amp];rfl
   ·have Iu:(c==48||c==49||c==120)=true:=hc;simp only[go_sem,Iu,ama];refine ih l _ _ (by simp) ⟨?_,?_⟩ <;> simp only[go_sem,h1] <;> rfl
 ·refine⟨?_,?_⟩ <;> simp only[go_sem]
theorem Hc {f:FuncId}{us:List AV}{v:AV}(h:ZE U f us=some v)(hp:Me f=true)(Xz:ZU us=true)(hf:flat v=true)(s:St):UR U f (some us) s=some (v,s):=by
 have h:=B4 h (X8 U);obtain⟨p1,p2⟩:=Qk hp;unfold Rl Uk at h;rw[p2] at h;simp only[p1,if_true,Ox,Vf,Xz] at h
 split at h
 ·rename_i w hq
  cases h
  refine X0 U s ?_;unfold Yg at hq ⊢
  split at hq
  ·rename_i v0 s' hB;simp only[if_true] at hq;have:=lU s' _ _ _ hq hf;subst this;simp[hf]
  ·cases hq
 ·cases h
theorem aii (s:XV)(hl:s.length<2^30):ZE U 241 [.str s,.fp PO 0]=some (.str (SM s)):=by
 refine ZR aij (by kernel_rfl) rfl ?_;simp +contextual only[go_sem,aeq];refine YH (σ:=XV) (fun x=>x.length) (fun x=>some (AV.str (SM x))) (fun x e s=>x.length<2^30/\Env.get e 0=.str x/\Env.get e 1=.fp PO 0) s ?_ rfl ?_
 ·rintro L x e s ⟨hx,h0,h1⟩ ih;rcases List.eq_nil_or_concat x with rfl|⟨l,c,rfl⟩
  ·simp +contextual only[go_sem,B3,h0,gt_iff_lt,Int.natCast_zero,Int.lt_irrefl];rfl
  ·rw[List.concat_eq_append] at *;have hlen:(l++[c]).length=l.length+1:=by simp
   have hp:(0:Int)<((l.length+1:Nat):Int):=by omega
   have hw:IntKind.i64.wrap (((l.length+1:Nat):Int)-1)=(l.length:Int):=by rw[wrap_i64] <;> omega
   have hi:(l++[c])[l.length]? = some c:=by simp
   have hle:((0:Int)<=(l.length:Int)/\(l.length:Int)<=((l.length+1:Nat):Int)):=by omega
   have JS:(l++[c]).take l.length=l:=by simp
   simp +contextual only[go_sem,B3,h0,h1,gt_iff_lt,hlen,hp,hw,hi,aer,hle,JS];rw[zK]
   cases hc:Up c
   ·have Iu:(c==48||c==49||c==120)=false:=hc;simp +contextual only[go_sem,Iu,amp]
   ·have Iu:(c==48||c==49||c==120)=true:=hc;simp +contextual only[go_sem,Iu,ama];refine ih l _ _ (by simp) ⟨by omega,?_,?_⟩ <;> simp +contextual only[go_sem,h1]
 ·refine⟨hl,?_,?_⟩ <;> simp +contextual only[go_sem]
theorem zJ:∀(vs c:List AV),vs.length=c.length->lay 0 vs c=some vs
 |[],[],_=>rfl
 |v::vs,x::c,h=>by
  simp only[lay];rw[zJ vs c (by simpa using h)]
theorem v9 (s:XV):(SM s).length<=s.length:=by
 unfold SM;rw[List.length_reverse];refine amA (List.Sublist.length_le (List.dropWhile_sublist _)) ?_;rw[List.length_reverse];exact agB _
theorem lT (s:St)(d:Nat):Y' (Yn U s (d+1)) PO=some PO:=by
 have:∀l:List AV,(∀x∈l,∃b,x=.bool b)->Y' (Yn U s (d+1)) l=some l:=by
  intro l
  induction l with
  |nil=>intro _;rfl
  |cons x l ih =>
   intro h;obtain⟨b,rfl⟩:=h x (aba ..);rw[Y',ih fun y hy=>h y (aab _ hy)];rfl
 refine this _ fun x hx=>?_
 simp only[PO,alN] at hx;obtain⟨n,_,rfl⟩:=hx;exact⟨_,rfl⟩
theorem aik {args:List AV}{s:St}(h:ZU args=false):X6 U (ZE U 241 args) 241 args s=UR U 241 (Y' (Yn U s 40) args) s:=Ke (by kernel_rfl) s h
theorem ail {args:List AV}{s:St}(h:ZU args=false):X6 U (ZE U 240 args) 240 args s=UR U 240 (Y' (Yn U s 40) args) s:=Ke (by kernel_rfl) s h
theorem aes (x:XV)(hl:x.length<2^30)(s:St):UR U 241 (some [.str x,.fp PO 0]) s=some (.str (SM x),s):=Hc (aii x hl) (by kernel_rfl) rfl rfl s
theorem aet (x:XV)(hl:x.length<2^30)(s:St):UR U 240 (some [.str x,.fp PO 0]) s=some (.str (x.dropWhile Up),s):=Hc (aim x hl) (by kernel_rfl) rfl rfl s
theorem ahv (s:XV)(hl:s.length<2^30):ZE U 212 [.str s,.str [48,49,120]]=some (.str ((SM s).dropWhile Up)):=by
 refine ZR ain (by kernel_rfl) rfl ?_;have e0:(([48,49,120]:XV)==[])=false:=rfl;have e4:(((3:Nat):Int)==1)=false:=rfl;have B_:(SM s).length<2^30:=by have:=v9 s;omega
 have hly:∀z:List AV,z.length=256->lay 0 PO z=some PO:=fun z hz=>zJ _ _ (by rw[AY,hz])
 simp (config:={ maxSteps:=1000000 }) +contextual only[go_sem,aeu,e0,e4,amq,Xv,aho,AY,xr,hly,aik,ail,lT,aes s hl,aet _ B_]
 cases s with
 |nil=>rfl
 |cons c s=>rfl
theorem AS (s:XV):(s.any fun c=>c != 48&&c != 49&&c != 120)=!s.all Up:=by
 induction s with
 |nil=>rfl
 |cons c s ih =>
  rw[List.any_cons,List.all_cons,ih,Up];have e:(c != 48&&c != 49&&c != 120)=!(c==48||c==49||c==120):=by
   simp[bne,Bool.and_assoc]
  rw[e]
  cases (c==48||c==49||c==120) <;> rfl
theorem aht (lines:Int)(pat:XV)(hl:pat.length<2^30):ZE U 158 [.int .i64 lines,.str pat]=some (.int .i64 (LH lines pat)):=by
 refine ZR ahu (by kernel_rfl) rfl ?_;simp +contextual only[go_sem,adD,ahv pat hl,nt,nr];rw[LH,MA,AS]
theorem ahw (d:Kd)(k:XV)(a b mi ma:Int)(pat:XV)(nl:Bool)(kids:List Z5) :
  ZE U 157 [Vz d,Zw (.mk k a b mi ma pat nl kids)]=some (.bool (!(YQ d).a&&a != 0||!(YQ d).b&&b != 0||!(YQ d).mi&&mi != 0||!(YQ d).ma&&ma != 0||!(YQ d).pat&&!pat==[]||!(YQ d).kids&&decide ((kids.length:Int)>0))):=by
 have hs:ZU [Pk d,Sh d,Pj d]=true:=by cases d <;> rfl
 have hn:Zz (Pk d)=true/\Zz (Sh d)=true/\Zz (Pj d)=true:=by cases d <;> exact⟨rfl,rfl,rfl⟩
 obtain⟨n1,n2,n3⟩:=hn;simp only[ZU,Bool.and_true,agw] at hs;obtain⟨s1,s2,s3⟩:=hs;refine ZR ahx (by kernel_rfl) (by simp[ZU,still,Vz,Zw,X7,s1,s2,s3]) ?_;rw[Vz,Zw];generalize Pk d=A1 at *;generalize Sh d=A2 at *;generalize Pj d=A3 at *;simp (config:={ maxSteps:=1000000 }) +contextual only[go_sem,adE,ZI,Yd]
theorem ff (l:List Int)(hl:l.length<2^62)(s:St):UR U 89 (some [.fz (ints l)]) s=some (.int .i64 (XY l),s) :=
 Hc (ZR k89 (by kernel_rfl) (by simp[ZU,still]) (g89 l hl)) (by kernel_rfl) (by simp[ZU,still]) rfl s
theorem aaP (a b:Int)(s:St):UR U 89 (some [.fz [.int .i64 a,.int .i64 b]]) s=some (.int .i64 (XY [a,b]),s):=ff [a,b] (by simp) s
theorem aaQ (a b c:Int)(s:St):UR U 89 (some [.fz [.int .i64 a,.int .i64 b,.int .i64 c]]) s=some (.int .i64 (XY [a,b,c]),s):=ff [a,b,c] (by simp) s
theorem aaR (a b c d:Int)(s:St):UR U 89 (some [.fz [.int .i64 a,.int .i64 b,.int .i64 c,.int .i64 d]]) s=some (.int .i64 (XY [a,b,c,d]),s):=ff [a,b,c,d] (by simp) s
theorem aaS (a b c d e f g:Int)(s:St):UR U 89 (some [.fz [.int .i64 a,.int .i64 b,.int .i64 c,.int .i64 d,.int .i64 e,.int .i64 f,.int .i64 g]]) s=some (.int .i64 (XY [a,b,c,d,e,f,g]),s):=ff [a,b,c,d,e,f,g] (by simp) s
theorem z89 {args:List AV}{s:St}(h:ZU args=false):X6 U (ZE U 89 args) 89 args s=UR U 89 (Y' (Yn U s 40) args) s:=Ke (by kernel_rfl) s h
end Go.Am
