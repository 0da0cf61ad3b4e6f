/- A part of the proof of a statement of this seat: the machine on which the program is read, and what it computes; for every input. -/
import Derived.Test.YtikiipfbkfgmbaaGreatDoorZ05
import Derived.Test.YtikiipfbkfgmbaaGreatDoorZ06
import Derived.Test.YtikiipfbkfgmbaaGreatDoorZ13
import Derived.Test.YtikiipfbkfgmbaaGreatDoorZ04
set_option linter.all false
namespace Go.Am
open Go
variable [Z4]
set_option maxRecDepth 100000
set_option maxHeartbeats 8000000
theorem l90 (lines depth:Int)(nl:Bool)(kids:List Z5)(f2:kids.length<2^30)(hc:∀x∈kids,ZE U 90 [.int .i64 lines,Zw x,.int .i64 (IntKind.i64.wrap (depth+1))]=some (.int .i64 (aE lines x (IntKind.i64.wrap (depth+1)))))
  (err:Int){e:Env}{s:St}(h0:Env.get e 0=.int .i64 lines)(h2:Env.get e 2=.int .i64 depth)(h10:Env.get e 10=.int .i64 err)(h141:Env.get e 141=ZG nl (WW kids))(h142:Env.get e 142=.int .i64 kids.length)(h143:Env.get e 143=.int .i64 0){ks:List K}
  (hk:∀e' s' x,Env.get e' 10=.int .i64 x->fX U (Mt U [.tmp 6]) ks 0 e' s'=some (.int .i64 x)) :
  SD U (Mt U [.tmp 6]) ks Cq e s=some (.int .i64 (Ms lines kids (IntKind.i64.wrap (depth+1)) err)):=by
 refine YH (σ:=Nat×Int) (fun x=>kids.length-x.1) (fun x=>some (AV.int .i64 (Ms lines (kids.drop x.1) (IntKind.i64.wrap (depth+1)) x.2))) (fun x e s=>x.1<=kids.length/\Env.get e 0=.int .i64 lines/\Env.get e 2=.int .i64 depth/\Env.get e 10=.int .i64 x.2/\Env.get e 141=ZG nl (WW kids)/\Env.get e 142=.int .i64 kids.length/\Env.get e 143=.int .i64 x.1) (0,err) ?_ rfl ⟨aic _,h0,h2,h10,h141,h142,h143⟩;clear h0 h2 h10 h141 h142 h143 err e s;rintro L ⟨i,err⟩ e s ⟨hi,h0,h2,h10,h141,h142,h143⟩ IH;simp only at hi h0 h2 h10 h141 h142 h143 IH ⊢;by_cases hd:i<kids.length
 ·have hx:(WW kids)[i]? = some (Zw kids[i]):=by rw[Vb,aaa hd];rfl
  have hw:=ZN hd (by omega);have hci:=hc kids[i] (adm hd);rw[ZV] at hx hci;simp only[Z5.cells] at hx hci;rw[YR (XL hd)] at h141;simp +contextual only[go_sem,Cq,h0,h2,h10,h141,h142,h143,Z8,hd,hx,hci,ZL];rw[abc hd,Ms]
  cases hb:err==0
  ·simp only[go_sem,hw];refine IH (i+1,_) _ _ (by simp only;omega) ⟨by simp only;omega,?_,?_,?_,?_,?_,?_⟩ <;> simp +contextual only[go_sem,h0,h2,h10,h141,h142,YR (XL hd)]
  ·simp only[go_sem,hw];refine IH (i+1,_) _ _ (by simp only;omega) ⟨by simp only;omega,?_,?_,?_,?_,?_,?_⟩ <;> simp +contextual only[go_sem,h0,h2,h141,h142,YR (XL hd)]
 ·have:i=kids.length:=by omega
  subst this;simp +contextual only[go_sem,Cq,h142,h143,Z8,alh];rw[alO,Ms];exact hk _ _ _ (by simp +contextual only[go_sem,h10])
theorem c90 (lines:Int):∀c:Z5,c.fits->∀depth:Int,ZE U 90 [.int .i64 lines,Zw c,.int .i64 depth]=some (.int .i64 (aE lines c depth)):=by
 intro c
 induction c using Z5.ind with
 |h kind a b mi ma pat nl kids ih =>
 intro hf depth;rw[Z5.fits] at hf;obtain⟨f1,f2,f3⟩:=hf;refine ZR k90 (by kernel_rfl) (tK _ _ _) ?_;have h157:=ahw (ZF kind) kind a b mi ma pat nl kids;have hs:ZU [Pk (ZF kind),Sh (ZF kind),Pj (ZF kind)]=true:=by cases ZF kind <;> rfl
 have hn:Zz (Pk (ZF kind))=true/\Zz (Sh (ZF kind))=true/\Zz (Pj (ZF kind))=true:=by cases ZF kind <;> exact⟨rfl,rfl,rfl⟩
 obtain⟨n1,n2,n3⟩:=hn;have Jd:=ET kind;rw[Vz] at h157 Jd;rw[Zw] at h157 ⊢;rw[aE];generalize Pk (ZF kind)=A1 at *;generalize Sh (ZF kind)=A2 at *;generalize Pj (ZF kind)=A3 at *;generalize hu:YQ (ZF kind)=u at *;generalize hk:(ZF kind).known=kn at *;simp (config:={ maxSteps:=4000000 }) +contextual only[go_sem,r90,aaJ,Jd,h157,nt,aa4,aht _ _ f1,z89,aaP,aaS,ZI,Yd,n1,n2,n3];obtain⟨ua,ub,umi,uma,up,uk⟩:=u;simp only
 cases up
 ·simp only[Xv,T8];refine SR fun _=>SR fun _=>?_
  cases eT:kind==[110,111,116]
  all_goals
   simp only[go_sem,Xo,Xv];refine l90 lines depth nl kids f2 (fun x hx=>ih x hx (f3 x hx) _) _ ?_ ?_ ?_ ?_ ?_ ?_ ?_
   rotate_right 1
   ·intro e' s' x h;simp +contextual only[go_sem,h]
   all_goals simp +contextual only[go_sem]
   all_goals try rfl
 ·simp only[Xo,T8];refine SR fun _=>SR fun _=>?_
  cases eT:kind==[110,111,116]
  all_goals
   simp only[go_sem,Xo,Xv];refine l90 lines depth nl kids f2 (fun x hx=>ih x hx (f3 x hx) _) _ ?_ ?_ ?_ ?_ ?_ ?_ ?_
   rotate_right 1
   ·intro e' s' x h;simp +contextual only[go_sem,h]
   all_goals simp +contextual only[go_sem]
   all_goals try rfl
def vy (lines:Int):Nat->List Step->Int
 |_,[]=>0
 |i,s::l=>br (XY [aE lines s.cond 1,within s.times 1 64,within s.within 0 255,br ((i:Int)==0&&s.within != 0) 3 0] != 0) (XY [aE lines s.cond 1,within s.times 1 64,within s.within 0 255,br ((i:Int)==0&&s.within != 0) 3 0]) <| vy lines (i+1) l
def lZ (p:Prog):Int :=
 br (XY [within p.lines 1 16,br ((p.steps.length:Int)==0) 12 0,br (decide ((p.steps.length:Int)>8)) 5 0] != 0) (XY [within p.lines 1 16,br ((p.steps.length:Int)==0) 12 0,br (decide ((p.steps.length:Int)>8)) 5 0]) <| vy p.lines 0 p.steps
theorem akZ {s:St}(h:8<s.next):(∀k,(s.next+k=8)=False)/\(s.next=8)=False:=⟨fun k=>by simp;omega,by simp;omega⟩
theorem c64 (p:Prog)(hf:p.fits):ZE U 64 [Vw p]=some (.int .i64 (lZ p)):=by
 obtain⟨lines,nl,steps⟩:=p;obtain⟨f1,f2⟩:=hf;simp only at f1 f2;refine ZR k64 (by kernel_rfl) (by simp[ZU,X']) ?_;rw[X9,lZ];simp (maxSteps:=2000000) +contextual only[go_sem,r64,c88,nt,z89,aaQ,ZI,YY];simp only[T8];refine SR fun _=>?_
 refine YH (σ:=Nat) (fun i=>steps.length-i) (fun i=>some (AV.int .i64 (vy lines i (steps.drop i)))) (fun i e s=>i<=steps.length/\Env.get e 28=.int .i64 i/\Env.get e 1=.ptr 8 0/\Env.get e 26=ZG nl (Zx steps)/\Env.get e 27=.int .i64 steps.length/\8<s.next/\Fr s /\
  s.get 8=some (.cells [.int .i64 lines,ZG nl (Zx steps)] 25 false 0 0)) 0 ?_ rfl ?_
 ·rintro L i e s ⟨hi,h28,h1,h26,h27,hn,PX,hs⟩ IH;by_cases hd:i<steps.length
  ·have hx:(Zx steps)[i]? = some (YL steps[i]):=by rw[Wu,aaa hd];rfl
   have hw:=ZN hd (by omega);obtain⟨g8,g8'⟩:=akZ hn;have hc:=c90 lines steps[i].cond (f2 _ (adm hd)) 1;rw[YR (X_ hd)] at hs h26;rw[ZV] at hc;simp only[Z5.cells,YL] at hx hc;have Nc:=PX.at;simp +contextual only[go_sem,wo,h28,h1,h26,h27,hs,Z8,hd,hx,hc,g8',ZL,aa4,nt,z89,aaR,Nc,akc,Nat.left_eq_add];rw[abc hd,vy];simp only[T8];refine SR fun _=>?_
   simp only[hw];refine IH (i+1) _ _ (by omega) ⟨by omega,?_,?_,?_,?_,?_,?_,?_⟩
   case refine_6 =>
    repeat first|exact PX|apply Fr.new|apply Fr.put|apply Fr.upto
    all_goals simp +contextual only[go_sem]
    all_goals omega
   all_goals simp +contextual only[go_sem,h1,h26,h27,hs,g8,g8',YR (X_ hd)]
   all_goals omega
  ·have:i=steps.length:=by omega
   subst this;simp +contextual only[go_sem,wo,h28,h27,Z8,alh];rw[alO,vy]
 ·refine⟨aic _,?_,?_,?_,?_,?_,?_,?_⟩
  case refine_6 =>
   repeat first|exact Fr.own|apply Fr.new|apply Fr.put|apply Fr.upto
   all_goals simp +contextual only[go_sem]
  all_goals simp +contextual only[go_sem]
  all_goals rfl
mutual
def Z5.norm:Z5->Z5
 |.mk k a b mi ma p _ kids=>.mk k a b mi ma p true (Wj kids)
def Wj:List Z5->List Z5
 |[]=>[]
 |c::l=>c.norm::Wj l
end
theorem Sm:∀l,Wj l=l.map Z5.norm
 |[]=>by simp[Wj]
 |c::l=>by simp[Wj,Sm l]
theorem OS (c:Z5):∃l,Zw c=.agg l/\l.length=7:=⟨_,ZV c,rfl⟩
theorem LG (s:St)(d:Nat)(c:Z5):Yn U s (d+2) (Zw c)=some (Zw c):=by
 rw[ZV];simp only[Z5.cells,Vi,Xn,RF,B5,HP,UL,JQ,JP]
theorem c24:∀c:Z5,c.fits->ZE U 24 [Zw c]=some (Zw c.norm):=by
 intro c
 induction c using Z5.ind with
 |h kind a b mi ma pat nl kids ih =>
 intro hf;rw[Z5.fits] at hf;obtain⟨f1,f2,f3⟩:=hf;refine ZR k24 (by kernel_rfl) (by simp[ZU,Zt]) ?_;rw[Zw,Z5.norm];simp only[go_sem,r24];refine YH (σ:=Nat) (fun i=>kids.length-i) (fun i=>some (Zw (.mk kind a b mi ma pat true (Wj kids)))) (fun i e s=>i<=kids.length/\Env.get e 1=.ptr 8 0/\Env.get e 2=.ptr 9 0/\Env.get e 3=.ptr 10 0/\Env.get e 4=.int .i64 i/\10<s.next/\Fr s /\
  s.get 8=some (.cells [.str kind,.int .i64 a,.int .i64 b,.int .i64 mi,.int .i64 ma,.str pat,ZG nl (WW kids)] 39 false 0 0)/\s.get 9=some (.cells [.str [],.int .i64 0,.int .i64 0,.int .i64 0,.int .i64 0,.str [],.ZW] 48 false 0 0) /\
  ∃v,s.get 10=some (.cells [.str kind,.int .i64 a,.int .i64 b,.int .i64 mi,.int .i64 ma,.str pat,v] 48 false 0 0)/\ZK s 11 48 7 i ((kids.take i).flatMap fun c=>(Zw c.norm).cells) v) 0 ?_ rfl ?_
 ·rintro L i e s ⟨hi,h1,h2,h3,h4,hn,PX,er,hs9,v,wy,hv⟩ IH;have ne:∀a k,a<=10->(s.next+k=a)=False:=fun a k ha=>by simp;omega
  have ne':∀a,a<=10->(s.next=a)=False:=fun a ha=>by simp;omega
  have Nc:=PX.at;by_cases hd:i<kids.length
  ·have hx:(WW kids)[i]? = some (Zw kids[i]):=by rw[Vb,aaa hd];rfl
   have hw:=ZN hd (by omega);have hc:=ih kids[i] (adm hd) (f3 _ (adm hd));rw[ZV] at hc;rw[ZV] at hx hc;simp only[Z5.cells] at hx hc;rw[YR (XL hd)] at er;have UP:(i+1)*88<=1099511627776:=by omega
   have VP:i+1<=1099511627776:=by omega
   have JS:(kids.take (i+1)).flatMap (fun c=>(Zw c.norm).cells)=(kids.take i).flatMap (fun c=>(Zw c.norm).cells)++kids[i].norm.cells:=by
    rw[alX hd,List.flatMap_append,List.flatMap_singleton,ZV];rfl
   simp only[Z5.cells] at JS;have Jl:=hv.Xj;have Re:=hv.Zz;simp only[go_sem,wg,h1,h3,h4,er,wy,Z8,hd,Yd,hx,hc,Nc,ZH,Nat.reducePow,amk,Jl,UP,VP];have rB:ZK ((s.upto (s.next+12)).put (s.next+8) (.cells kids[i].norm.cells 48 false 0 0)) 11 48 7 i ((kids.take i).flatMap fun c=>(Zw c.norm).cells) v:=hv.mono (by rw[Z',Z6];omega) fun j _ hj=>by rw[Z9,ZT,if_neg (by omega)]
   obtain⟨s1,e1,e2,e3,e4,e5⟩:=rB.app (by rw[Z',Z6];omega) (m:=1) (new:=kids[i].norm.cells) (by omega) (by rfl) (by simp only[Z5.cells,go_sem,ZL]);simp only[Z5.cells] at e1 e3 e4 e5;have k8:=e4 8 (by omega);have k9:=e4 9 (by omega);have nj:=e4 10 (by omega);simp only[Z9,ZT,ne,↓reduceIte,er,hs9,wy,Nat.reduceLeDiff,Z',Z6] at k8 k9 nj e2;rw[e1];simp only[go_sem,h3,nj,hw,h4];refine IH (i+1) _ _ (by omega) ⟨by omega,?_,?_,?_,?_,?_,?_,?_,?_,.sl (s.next+12) 0 (i+1) none 7,?_,?_⟩
   case refine_10 =>
    rw[JS];exact e3.mono (by rw[Z'];omega) fun j hj _=>by rw[Z9,if_neg (by omega)]
   case refine_9=>rw[Z9,if_pos rfl]
   case refine_6 =>
    refine (e5 ?_).put (by omega) _;exact (PX.upto (by omega)).put (by rw[Z6];omega) _
   all_goals simp only[go_sem,h1,h2,h3,k8,k9,e2,YR (XL hd),Nat.reduceEqDiff]
   all_goals omega
  ·have:i=kids.length:=by omega
   subst this;rw[amH] at hv;have Pd:∀x,ZK (s.put 9 x) 11 48 7 (kids.map Z5.norm).length ((kids.map Z5.norm).flatMap fun c=>(Zw c).cells) v:=fun x=>by
    rw[agC,List.flatMap_map];exact hv.mono (by rw[Z'];omega) fun j hj _=>by rw[Z9,if_neg (by omega)]
   have Rk:∀x d,Yn U (s.put 9 x) (d+3) v=some (ZG true (WW (Wj kids))):=fun x d=>by
    rw[(Pd x).Vi U Ej Ei (by omega) OS (d:=d+2) (fun a=>LG _ _ _),Oc,Sm]
   have Re:=hv.Zz;simp only[go_sem,wg,h1,h2,h3,h4,er,hs9,wy,Z8,alh,ZI,Yd,Re,Rk];rw[Zw]
 ·refine⟨aic _,?_,?_,?_,?_,?_,?_,?_,?_,.ZW,?_,ZK.nil _ _ _ _⟩
  case refine_6 =>
   repeat first|exact Fr.own|apply Fr.new|apply Fr.put|apply Fr.upto
   all_goals simp only[go_sem]
  all_goals simp only[go_sem]
  all_goals rfl
end Go.Am
namespace Go.Am
open Go
variable [Z4]
set_option maxRecDepth 100000
set_option maxHeartbeats 8000000
def Step.norm (s:Step):Step:={ s with cond:=s.cond.norm }
def Prog.norm (p:Prog):Prog:={ p with nl:=true,steps:=p.steps.map Step.norm }
def Step.T0 (s:Step):List AV:=[.str s.cond.kind,.int .i64 s.cond.a,.int .i64 s.cond.b,.int .i64 s.cond.mi,.int .i64 s.cond.ma,.str s.cond.pat,ZG s.cond.nl (WW s.cond.kids),.int .i64 s.times,.int .i64 s.within]
theorem zS (s:Step):∃l,YL s=.agg l/\l.length=9:=⟨_,rfl,rfl⟩
theorem zR (s:St)(d:Nat)(c:Step):Yn U s (d+2) (YL c)=some (YL c):=by
 unfold YL;simp only[Vi,Xn,RF,B5,HP,UL,JQ,JP]
theorem c33 (p:Prog)(hf:p.fits):ZE U 33 [Vw p]=some (Vw p.norm):=by
 obtain⟨lines,nl,steps⟩:=p;obtain⟨f1,f2⟩:=hf;simp only at f1 f2;refine ZR k33 (by kernel_rfl) (by simp[ZU,X']) ?_;rw[X9,Prog.norm,X9];simp only[go_sem,r33];refine YH (σ:=Nat) (fun i=>steps.length-i) (fun i=>some (.agg [.int .i64 lines,ZG true (Zx (steps.map Step.norm))])) (fun i e s=>i<=steps.length/\Env.get e 1=.ptr 8 0/\Env.get e 2=.ptr 9 0/\Env.get e 3=.ptr 10 0/\Env.get e 4=.int .i64 i/\10<s.next/\Fr s /\
  s.get 8=some (.cells [.int .i64 lines,ZG nl (Zx steps)] 31 false 0 0)/\s.get 9=some (.cells [.int .i64 0,.ZW] 25 false 0 0) /\
  ∃v,s.get 10=some (.cells [.int .i64 lines,v] 25 false 0 0)/\ZK s 11 144 9 i ((steps.take i).flatMap fun c=>(YL c.norm).cells) v) 0 ?_ rfl ?_
 ·rintro L i e s ⟨hi,h1,h2,h3,h4,hn,PX,er,hs9,v,wy,hv⟩ IH;have ne:∀a k,a<=10->(s.next+k=a)=False:=fun a k ha=>by simp;omega
  have ne':∀a,a<=10->(s.next=a)=False:=fun a ha=>by simp;omega
  have Nc:=PX.at;by_cases hd:i<steps.length
  ·have hx:(Zx steps)[i]? = some (YL steps[i]):=by rw[Wu,aaa hd];rfl
   have hw:=ZN hd (by omega);have hc:=c24 steps[i].cond (f2 _ (adm hd));rw[ZV,ZV] at hc;simp only[Z5.cells,YL] at hx hc;rw[YR (X_ hd)] at er;have UP:(i+1)*104<=1099511627776:=by omega
   have VP:i+1<=1099511627776:=by omega
   have JS:(steps.take (i+1)).flatMap (fun c=>(YL c.norm).cells)=(steps.take i).flatMap (fun c=>(YL c.norm).cells)++steps[i].norm.T0:=by
    rw[alX hd,List.flatMap_append,List.flatMap_singleton];rfl
   have Jl:=hv.Xj;have Re:=hv.Zz;simp only[go_sem,wx,h1,h3,h4,er,wy,Z8,hd,YY,hx,hc,Nc,ZH,Nat.reducePow,amk,Jl,UP,VP];have rB:ZK ((s.upto (s.next+26)).put (s.next+22) (.cells steps[i].norm.T0 144 false 0 0)) 11 144 9 i ((steps.take i).flatMap fun c=>(YL c.norm).cells) v:=hv.mono (by rw[Z',Z6];omega) fun j _ hj=>by rw[Z9,ZT,if_neg (by omega)]
   obtain⟨s1,e1,e2,e3,e4,e5⟩:=rB.app (by rw[Z',Z6];omega) (m:=1) (new:=steps[i].norm.T0) (by omega) (by rfl) (by simp only[Step.T0,go_sem,ZL]);simp only[Step.T0,Step.norm] at e1 e3 e4 e5;have k8:=e4 8 (by omega);have k9:=e4 9 (by omega);have nj:=e4 10 (by omega);simp only[Z9,ZT,ne,↓reduceIte,er,hs9,wy,Nat.reduceLeDiff,Z',Z6] at k8 k9 nj e2;rw[e1];simp only[go_sem,h3,nj,hw,h4];refine IH (i+1) _ _ (by omega) ⟨by omega,?_,?_,?_,?_,?_,?_,?_,?_,.sl (s.next+26) 0 (i+1) none 9,?_,?_⟩
   case refine_10 =>
    rw[JS];exact e3.mono (by rw[Z'];omega) fun j hj _=>by rw[Z9,if_neg (by omega)]
   case refine_9=>rw[Z9,if_pos rfl]
   case refine_6 =>
    refine (e5 ?_).put (by omega) _;exact (PX.upto (by omega)).put (by rw[Z6];omega) _
   all_goals simp only[go_sem,h1,h2,h3,k8,k9,e2,YR (X_ hd),Nat.reduceEqDiff]
   all_goals omega
  ·have:i=steps.length:=by omega
   subst this;rw[amH] at hv;have Pd:∀x,ZK (s.put 9 x) 11 144 9 (steps.map Step.norm).length ((steps.map Step.norm).flatMap fun c=>(YL c).cells) v:=fun x=>by
    rw[agC,List.flatMap_map];exact hv.mono (by rw[Z'];omega) fun j hj _=>by rw[Z9,if_neg (by omega)]
   have Rk:∀x d,Yn U (s.put 9 x) (d+3) v=some (ZG true (Zx (steps.map Step.norm))):=fun x d=>by
    rw[(Pd x).Vi U me mc (by omega) zS (d:=d+2) (fun a=>zR _ _ _)];rfl
   have Re:=hv.Zz;simp only[go_sem,wx,h1,h2,h3,h4,er,hs9,wy,Z8,alh,ZI,YY,Re,Rk]
 ·refine⟨aic _,?_,?_,?_,?_,?_,?_,?_,?_,.ZW,?_,ZK.nil _ _ _ _⟩
  case refine_6 =>
   repeat first|exact Fr.own|apply Fr.new|apply Fr.put|apply Fr.upto
   all_goals simp only[go_sem]
  all_goals simp only[go_sem]
  all_goals rfl
mutual
def sc:Z5->Int->Bool
 |.mk k _ _ _ _ p _ kids,d=>br (decide (d>6)||decide ((k.length:Int)>20)||decide ((p.length:Int)>40)||decide ((kids.length:Int)>10)) false (tj kids (IntKind.i64.wrap (d+1)))
def tj:List Z5->Int->Bool
 |[],_=>true
 |c::l,d=>br (!(sc c d)) false (tj l d)
end
mutual
def leaves:Z5->Nat
 |.mk _ _ _ _ _ _ _ kids=>ZS kids+1
def ZS:List Z5->Nat
 |[]=>0
 |c::l=>leaves c+ZS l
end
theorem DM (p x y:Bool):some (AV.bool (br p x y))=br p (some (.bool x)) (some (.bool y)):=by cases p <;> rfl
theorem c86:∀c:Z5,∀depth:Int,ZE U 86 [Zw c,.int .i64 depth]=some (.bool (sc c depth)):=by
 intro c
 induction c using Z5.ind with
 |h kind a b mi ma pat nl kids ih =>
 intro depth;refine ZR k86 (by kernel_rfl) (by simp[ZU,Zt,still]) ?_;rw[Zw,sc];simp (maxSteps:=2000000) +contextual only[go_sem,r86,ZI,Yd];simp only[DM];refine SR fun QC=>?_
 have hlen:kids.length<=10:=by
  simp only[ame,decide_eq_false_iff_not] at QC;omega
 refine YH (σ:=Nat) (fun i=>kids.length-i) (fun i=>some (AV.bool (tj (kids.drop i) (IntKind.i64.wrap (depth+1))))) (fun i e s=>i<=kids.length/\Env.get e 5=.int .i64 i/\Env.get e 1=.int .i64 depth/\Env.get e 2=.ptr 8 0 /\
  s.get 8=some (.cells [.str kind,.int .i64 a,.int .i64 b,.int .i64 mi,.int .i64 ma,.str pat,ZG nl (WW kids)] 39 false 0 0)) 0 ?_ rfl ?_
 ·rintro L i e s ⟨hi,h5,h1,h2,hs⟩ IH;by_cases hd:i<kids.length
  ·have hx:(WW kids)[i]? = some (Zw kids[i]):=by rw[Vb,aaa hd];rfl
   have hw:=ZN hd (by omega);have hc:=ih kids[i] (adm hd) (IntKind.i64.wrap (depth+1));rw[YR (XL hd)] at hs;rw[ZV] at hx hc;simp only[Z5.cells] at hx hc;simp +contextual only[go_sem,wm,h5,h1,h2,hs,Z8,hd,Yd,hx,hc];rw[abc hd,tj]
   cases hb:sc kids[i] (IntKind.i64.wrap (depth+1))
   ·simp only[go_sem]
   ·simp only[go_sem,hw];refine IH (i+1) _ _ (by omega) ⟨by omega,?_,?_,?_,?_⟩ <;> simp +contextual only[go_sem,h1,h2,hs,YR (XL hd)]
  ·have:i=kids.length:=by omega
   subst this;simp +contextual only[go_sem,wm,h5,h2,hs,ZI,Yd,Z8,alh];rw[alO,tj]
 ·refine⟨aic _,?_,?_,?_,?_⟩ <;> simp +contextual only[go_sem] <;> rfl
theorem RR (c:Z5):1<=leaves c:=by cases c;simp[leaves]
theorem IJ:∀l,l.length<=ZS l
 |[]=>aic _
 |c::l=>by have:=IJ l;have:=RR c;simp only[ZS,akd];omega
theorem II:∀{l:List Z5} {c:Z5},c∈l->leaves c<=ZS l
 |c'::l,c,h=>by
  rw[ZS];rcases alL.1 h with rfl|h
  ·omega
  ·have:=II h;omega
theorem QW (l m:List Z5):ZS (l++m)=ZS l+ZS m:=by
 induction l with
 |nil=>simp[ZS]
 |cons c l ih=>simp only[alU,ZS,ih];omega
theorem c87:∀c:Z5,leaves c<2^62->ZE U 87 [Zw c]=some (.int .i64 (leaves c)):=by
 intro c
 induction c using Z5.ind with
 |h kind a b mi ma pat nl kids ih =>
 intro hb;rw[leaves] at hb ⊢;have hlen:=IJ kids;refine ZR k87 (by kernel_rfl) (by simp[ZU,Zt]) ?_;rw[Zw];simp (maxSteps:=2000000) +contextual only[go_sem,r87];refine YH (σ:=Nat) (fun i=>kids.length-i) (fun i=>some (AV.int .i64 ((ZS kids+1:Nat):Int))) (fun i e s=>i<=kids.length/\Env.get e 4=.int .i64 i/\Env.get e 3=.int .i64 ((ZS (kids.take i)+1:Nat):Int)/\Env.get e 1=.ptr 8 0 /\
  s.get 8=some (.cells [.str kind,.int .i64 a,.int .i64 b,.int .i64 mi,.int .i64 ma,.str pat,ZG nl (WW kids)] 39 false 0 0)) 0 ?_ rfl ?_
 ·rintro L i e s ⟨hi,h4,h3,h1,hs⟩ IH;by_cases hd:i<kids.length
  ·have hx:(WW kids)[i]? = some (Zw kids[i]):=by rw[Vb,aaa hd];rfl
   have hw:=ZN hd (by omega);have hc:=ih kids[i] (adm hd) (by have:=II (adm hd);omega);have JS:ZS (kids.take (i+1))=ZS (kids.take i)+leaves kids[i]:=by
    rw[alX hd,QW];simp[ZS]
   have hle:ZS (kids.take (i+1))<=ZS kids:=by
    have:=QW (kids.take (i+1)) (kids.drop (i+1));rw[List.take_append_drop] at this;omega
   have Mx:IntKind.i64.wrap (((ZS (kids.take i)+1:Nat):Int)+(leaves kids[i]:Int))=((ZS (kids.take (i+1))+1:Nat):Int):=by rw[wrap_i64] <;> omega
   rw[YR (XL hd)] at hs;rw[ZV] at hx hc;simp only[Z5.cells] at hx hc;simp +contextual only[go_sem,wh,h4,h3,h1,hs,Z8,hd,Yd,hx,hc,hw,Mx];refine IH (i+1) _ _ (by omega) ⟨by omega,?_,?_,?_,?_⟩ <;> simp +contextual only[go_sem,h1,hs,YR (XL hd)]
  ·have:i=kids.length:=by omega
   subst this;rw[amH] at h3;simp +contextual only[go_sem,wh,h4,h3,h1,hs,ZI,Yd,Z8,alh]
 ·refine⟨aic _,?_,?_,?_,?_⟩ <;> simp +contextual only[go_sem] <;> rfl
end Go.Am
namespace Go.Am
open Go
variable [Z4]
set_option maxRecDepth 100000
set_option maxHeartbeats 8000000
theorem tf {d:Int}:∀{l:List Z5},tj l d=true->∀c∈l,sc c d=true
 |c::l,h,x,hx=>by
  rw[tj] at h
  cases hc:sc c d
  ·rw[hc] at h;cases h
  ·rw[hc] at h;rcases alL.1 hx with rfl|hx
   ·exact hc
   ·exact tf h x hx
theorem eA {k:XV}{a b mi ma:Int}{p:XV}{nl:Bool}{kids:List Z5}{d:Int}(h:sc (.mk k a b mi ma p nl kids) d=true)(hd:1<=d):d<=6/\k.length<=20/\p.length<=40/\kids.length<=10/\∀c∈kids,sc c (d+1)=true:=by
 rw[sc] at h
 cases hb:(decide (d>6)||decide ((k.length:Int)>20)||decide ((p.length:Int)>40)||decide ((kids.length:Int)>10))
 ·rw[hb,Xv] at h;simp only[ame,decide_eq_false_iff_not] at hb;obtain⟨⟨⟨h1,h2⟩,h3⟩,h4⟩:=hb;have hw:IntKind.i64.wrap (d+1)=d+1:=wrap_i64 (by omega) (by omega);rw[hw] at h;exact⟨by omega,by omega,by omega,by omega,tf h⟩
 ·rw[hb] at h;cases h
theorem tb:∀(c:Z5) (d:Int),1<=d->sc c d=true->c.fits/\leaves c<=11^(7-d.toNat):=by
 intro c
 induction c using Z5.ind with
 |h kind a b mi ma pat nl kids ih =>
 intro d hd h;obtain⟨h1,h2,h3,h4,h5⟩:=eA h hd;have hk:∀x∈kids,x.fits/\leaves x<=11^(6-d.toNat):=fun x hx=>by
  have:=ih x hx (d+1) (by omega) (h5 x hx)
  rwa [show 7-(d+1).toNat=6-d.toNat from by omega] at this
 refine⟨?_,?_⟩
 ·rw[Z5.fits];exact⟨by omega,by omega,fun x hx=>(hk x hx).1⟩
 ·rw[leaves];have:∀l:List Z5,(∀x∈l,x∈kids)->ZS l<=l.length*11^(6-d.toNat):=by
   intro l
   induction l with
   |nil=>intro _;simp[ZS]
   |cons c l EJ =>
    intro hl;have:=EJ fun x hx=>hl x (aab _ hx)
    have:=(hk c (hl c (aba ..))).2;rw[ZS,akd,amx];omega
  have h6:=this kids fun _ h=>h
  have h7:kids.length*11^(6-d.toNat)<=10*11^(6-d.toNat):=amt _ h4;have h8:11^(7-d.toNat)=11*11^(6-d.toNat):=by
   rw[show 7-d.toNat=(6-d.toNat)+1 from by omega,Nat.pow_succ,Nat.mul_comm]
  have h9:1<=11^(6-d.toNat):=Nat.one_le_pow _ _ (by omega);omega
theorem qN {c:Z5}(h:sc c 1=true):leaves c<2^62:=by
 have:=(tb c 1 (by omega) h).2;have e:11^(7-(1:Int).toNat)=1771561:=rfl;rw[e] at this;omega
def GC (c:Z5)(n:Int):Bool:=sc c 1&&decide ((leaves c:Int)<=n)
theorem c21 (c:Z5)(n:Int):ZE U 21 [Zw c,.int .i64 n]=some (.bool (GC c n)):=by
 refine ZR k21 (by kernel_rfl) (by simp[ZU,Zt,still]) ?_;have h86:=c86 c 1;have h87:sc c 1=true->ZE U 87 [Zw c]=some (.int .i64 (leaves c)):=fun h=>c87 c (qN h)
 rw[ZV] at h86 h87 ⊢;simp only[Z5.cells] at h86 h87 ⊢;simp (maxSteps:=2000000) +contextual only[go_sem,r21,h86,h87];rfl
def Mh (n:Int):List Step->Bool
 |[]=>true
 |s::l=>br (!(GC s.cond n)) false (Mh n l)
def short (p:Prog)(n:Int):Bool:=br (decide ((p.steps.length:Int)>10)) false (Mh n p.steps)
theorem c31 (p:Prog)(n:Int):ZE U 31 [Vw p,.int .i64 n]=some (.bool (short p n)):=by
 obtain⟨lines,nl,steps⟩:=p;refine ZR k31 (by kernel_rfl) (by simp[ZU,X',still]) ?_;rw[X9,short];simp (maxSteps:=2000000) +contextual only[go_sem,r31,ZI,YY];simp only[DM];refine SR fun QC=>?_
 have hlen:steps.length<=10:=by
  simp only[decide_eq_false_iff_not] at QC;omega
 refine YH (σ:=Nat) (fun i=>steps.length-i) (fun i=>some (AV.bool (Mh n (steps.drop i)))) (fun i e s=>i<=steps.length/\Env.get e 5=.int .i64 i/\Env.get e 1=.int .i64 n/\Env.get e 2=.ptr 8 0 /\
  s.get 8=some (.cells [.int .i64 lines,ZG nl (Zx steps)] 31 false 0 0)) 0 ?_ rfl ?_
 ·rintro L i e s ⟨hi,h5,h1,h2,hs⟩ IH;by_cases hd:i<steps.length
  ·have hx:(Zx steps)[i]? = some (YL steps[i]):=by rw[Wu,aaa hd];rfl
   have hw:=ZN hd (by omega);have hc:=c21 steps[i].cond n;rw[YR (X_ hd)] at hs;rw[ZV] at hc;simp only[Z5.cells,YL] at hx hc;simp +contextual only[go_sem,wL,h5,h1,h2,hs,Z8,hd,YY,hx,hc];rw[abc hd,Mh]
   cases hb:GC steps[i].cond n
   ·simp only[go_sem]
   ·simp only[go_sem,hw];refine IH (i+1) _ _ (by omega) ⟨by omega,?_,?_,?_,?_⟩ <;> simp +contextual only[go_sem,h1,h2,hs,YR (X_ hd)]
  ·have:i=steps.length:=by omega
   subst this;simp +contextual only[go_sem,wL,h5,h2,hs,ZI,YY,Z8,alh];rw[alO,Mh]
 ·refine⟨aic _,?_,?_,?_,?_⟩ <;> simp +contextual only[go_sem] <;> rfl
theorem Gz {p:Prog}{n:Int}(h:short p n=true):p.steps.length<=10/\∀s∈p.steps,sc s.cond 1=true/\(leaves s.cond:Int)<=n:=by
 unfold short at h
 cases hb:decide ((p.steps.length:Int)>10)
 ·rw[hb,Xv] at h;refine⟨by simp only[decide_eq_false_iff_not] at hb;omega,?_⟩;have:∀l:List Step,Mh n l=true->∀s∈l,sc s.cond 1=true/\(leaves s.cond:Int)<=n:=by
   intro l
   induction l with
   |nil=>intro _ s hs;cases hs
   |cons x l ih =>
    intro h s hs;rw[Mh] at h
    cases hx:GC x.cond n
    ·rw[hx] at h;cases h
    ·rw[hx] at h;rcases alL.1 hs with rfl|hs
     ·simpa[GC] using hx
     ·exact ih h s hs
  exact this _ h
 ·rw[hb] at h;cases h
theorem wK {p:Prog}{n:Int}(h:short p n=true):p.fits:=by
 obtain⟨h1,h2⟩:=Gz h;exact⟨by omega,fun s hs=>(tb _ 1 (by omega) (h2 s hs).1).1⟩
end Go.Am
namespace Go.Am
open Go
variable [Z4]
set_option maxRecDepth 100000
def afJ:RC:=(sO [Zi 1 48 0,Zj 2] (sO [ZX 3 0 1,Z0 4 3,Td 5 9 4 110 111 116,om 6 5,Uj 7 6 0 1,XH 8 6 7,zk 9 6 9 8 97 108 108,Yp 10 6 9,om 11 10,Uj 12 11 0 1,XH 13 11 12,zk 14 11 9 13 97 110 121,Yp 15 11 14,om 2 15] .ret))
theorem ajs:Ze 213=some ([.tmp 2],afJ):=by kernel_rfl
def afI:RC:=(sO [ZA 4 0] (sO [om 5 0,om 6 1,sY 7 3 5 6,sJ 8 7 65537 3 3,om 4 8] .ret))
theorem ajr:Ze 170=some ([.tmp 4],afI):=by kernel_rfl
def By:RC:=(sO [YN 20 3 19 18] (sQ (cS 20 (.exit 0)) (sQ (.block 1 (sO [Zk 21 7 17 19,Zr 22 7 21,Pa 5 0 0 0 0 48,YT 7 5 22] (oP [om 23 3,Zr 24 7 5,Zc 25 171 24,Zb 26 170 23 25,om 3 26]))) (oP [YE 27 3 19 1,om 19 27]))))
def acw:RC:=(sO [Zi 1 48 0,ZA 2 0] (sQ (sO [Zr 6 7 1,Zc 7 213 6,WZ 8 7] (cT 8 (sQ (.TP 8 [O7 9 156,ZX 10 0 1,Z0 11 10,zO 12 238 9 11,o 13 (.fd1 6 (.t 12)),Zr 14 7 1,⟨some 15,none,none,true,.IU (.t 13) [(.t 14)]⟩,om 2 15]) .ret))) (sO [ZA 3 1] (sQ (sO [ZX 16 6 1,Z0 17 16,YU 18 17,ZA 19 0] (.block 0 (.loop By))) (sO [om 28 3,om 2 28] .ret)))))
theorem ajE:Ze 171=some ([.tmp 2],acw):=by kernel_rfl
def afK:RC:=(sO [Zi 1 48 0,ZA 2 0] (sO [ZX 3 4 1,Z0 4 3,YE 5 3 4 3,om 2 5] .ret))
theorem aju:Ze 192=some ([.tmp 2],afK):=by kernel_rfl
def afL:RC:=(sO [Zi 1 48 0,ZA 2 0] (sO [ZX 3 3 1,Z0 4 3,YE 5 3 4 2,om 2 5] .ret))
theorem ajw:Ze 193=some ([.tmp 2],afL):=by kernel_rfl
def afM:RC:=(sO [Zi 1 48 0,ZA 2 0] (sO [ZA 2 1] .ret))
theorem ajy:Ze 194=some ([.tmp 2],afM):=by kernel_rfl
def afN:RC:=(sO [Zi 1 48 0,ZA 2 0] (sO [ZA 2 0] .ret))
theorem ajz:Ze 195=some ([.tmp 2],afN):=by kernel_rfl
def afO:RC:=(sO [Zi 1 48 0,ZA 2 0] (sO [ZX 3 3 1,Z0 4 3,om 2 4] .ret))
theorem ajA:Ze 208=some ([.tmp 2],afO):=by kernel_rfl
def afP:RC:=(sO [Zi 1 48 0,ZA 2 0] (sO [ZA 2 4] .ret))
theorem ajC:Ze 210=some ([.tmp 2],afP):=by kernel_rfl
def Bm:RC:=(sO [YN 15 3 14 13] (sQ (cS 15 (.exit 0)) (sQ (.block 1 (sO [Zk 16 9 12 14,Zr 17 9 16,DB 6 0 0 0 0 0 0 144,YT 9 6 17] (sO [om 18 3,ZX 19 0 6,Zr 20 7 19,Zc 21 171 20,Zb 22 170 18 21,om 3 22] (oP [om 23 4,ZX 24 7 6,Z0 25 24,ZX 26 8 6,Z0 27 26,YE 28 3 27 1,sY 29 3 25 28,TL 30 3 23 29,om 4 30])))) (oP [YE 31 3 14 1,om 14 31]))))
def ahe:RC:=(sO [Zi 1 25 0,ZA 2 0] (sO [ZX 7 0 1,Z0 8 7,DP 9 3 1 8,YE 10 3 9 1,om 3 10,ZA 4 0] (sQ (sO [ZX 11 1 1,Z0 12 11,YU 13 12,ZA 14 0] (.block 0 (.loop Bm))) (sO [om 32 3,om 33 4,Zb 34 170 32 33,om 2 34] .ret))))
theorem akT:Ze 102=some ([.tmp 2],ahe):=by kernel_rfl
def afH:RC:=(sO [ZA 4 0] (sO [om 5 0,om 6 1,sY 7 3 5 6,sJ 8 7 65537 3 3,om 4 8] .ret))
theorem ajq:Ze 100=some ([.tmp 4],afH):=by kernel_rfl
def HD:RC:=(sQ (sO [om 21 4,ZX 22 6 1,Z0 23 22,YU 24 23,YN 25 3 21 24] (cS 25 (.exit 1))) (sQ (.block 2 (oP [om 28 3,ZX 29 6 1,Z0 30 29,om 31 4,Zk 32 7 30 31,Zr 33 7 32,Zc 34 101 33,Zb 35 100 28 34,om 3 35])) (oP [om 26 4,YE 27 3 26 1,om 4 27])))
def afl:RC:=(sO [Zi 1 39 0,ZA 2 0] (sQ (sO [ZX 5 0 1,Z0 6 5] (.block 0 (sQ (sO [MS 8 9 6 112 117 108 115 101,om 7 8] (cS 7 (oP [Td 9 9 6 103 97 112,om 7 9]))) (cO 7 (sO [ZX 10 4 1,Z0 11 10,YE 12 3 11 3,om 2 12] .ret) (sQ (sO [Qc 14 9 6 105 100 108 101,om 13 14] (cS 13 (oP [MS 15 9 6 115 101 116 117 112,om 13 15]))) (cO 13 (sO [ZX 16 3 1,Z0 17 16,YE 18 3 17 2,om 2 18] .ret) (sO [Qc 20 9 6 114 117 110 116,om 19 20] (cT 19 (sO [ZA 2 4] .ret))))))))) (sO [ZA 3 1] (sQ (sO [ZA 4 0] (.block 1 (.loop HD))) (sO [om 36 3,om 2 36] .ret)))))
theorem ai2:Ze 101=some ([.tmp 2],afl):=by kernel_rfl
def wP:RC:=(sQ (sO [om 10 5,ZX 11 1 1,Z0 12 11,YU 13 12,YN 14 3 10 13] (cS 14 (.exit 0))) (sQ (.block 1 (sO [om 17 3,ZX 18 1 1,Z0 19 18,om 20 5,Zk 21 9 19 20,ZX 22 0 21,Zr 23 7 22,Zc 24 101 23,Zb 25 100 17 24,om 3 25] (.TP 17 [om 26 4,ZX 27 1 1,Z0 28 27,om 29 5,Zk 30 9 28 29,ZX 31 7 30,Z0 32 31,ZX 33 1 1,Z0 34 33,om 35 5,Zk 36 9 34 35,ZX 37 8 36,Z0 38 37,YE 39 3 38 1,sY 40 3 32 39,TL 41 3 26 40,om 4 41]))) (oP [om 15 5,YE 16 3 15 1,om 5 16])))
def r38:RC:=(sO [Zi 1 31 0,ZA 2 0] (sO [ZX 6 0 1,Z0 7 6,DP 8 3 1 7,YE 9 3 8 1,om 3 9] (sO [ZA 4 0] (sQ (sO [ZA 5 0] (.block 0 (.loop wP))) (sO [om 42 3,om 43 4,sJ 44 43 65537 3 3,Zb 45 100 42 44,om 2 45] .ret)))))
theorem k38:Ze 38=some ([.tmp 2],r38):=by kernel_rfl
end Go.Am
