/- A part of the proof of a statement of this seat: the machine on which the program is read, and what it computes; for every input. -/
import Derived.Test.YtkmaeondbkpajaaGreatDoorG05
import Derived.Test.YtkmaeondbkpajaaGreatDoorG13
set_option linter.all false
namespace Go.Am
open Go
variable [ZZ]
set_option maxRecDepth 100000
set_option maxHeartbeats 8000000
attribute [go_sem] QL ajP ajG ajz
def Iq (a b:Int):Int:=min (IntKind.i64.wrap (a*b)) 65537
theorem aD (a b:Int):Zw U 116 [.int .i64 a,.int .i64 b]=some (.int .i64 (Iq a b)):=by
 refine ZI ahc (by kernel_rfl) rfl ?_;simp +contextual only[go_sem,ael];rfl
theorem abp (a b:Int):Zw U 128 [.int .i64 a,.int .i64 b]=some (.int .i64 (Iq a b)):=by
 refine ZI ahd (by kernel_rfl) rfl ?_;simp +contextual only[go_sem,aem];rfl
def XJ (k:X6):Bool:=k==[110,111,116]||(k==[97,108,108]||k==[97,110,121])
theorem bH (c:ZX):Zw U 168 [Zt c]=some (.bool (XJ c.kind)):=by
 refine ZI ahe (by kernel_rfl) (by simp[ZO,Zf]) ?_;rw[ZN];simp +contextual only[go_sem,aen,ZX.cells,ZW];rw[XJ]
 cases c.kind==[110,111,116] <;> rfl
theorem ahf (c:ZX):Zw U 174 [Zt c]=some (.int .i64 (IntKind.i64.wrap (c.ma+3))):=by
 refine ZI ahg (by kernel_rfl) (by simp[ZO,Zf]) ?_;rw[ZN];simp +contextual only[go_sem,aeo,ZX.cells,ZW]
theorem ahh (c:ZX):Zw U 175 [Zt c]=some (.int .i64 (IntKind.i64.wrap (c.mi+2))):=by
 refine ZI ahi (by kernel_rfl) (by simp[ZO,Zf]) ?_;rw[ZN];simp +contextual only[go_sem,aep,ZX.cells,ZW]
theorem ahj (c:ZX):Zw U 176 [Zt c]=some (.int .i64 1):=by
 refine ZI ahk (by kernel_rfl) (by simp[ZO,Zf]) ?_;rw[ZN];simp +contextual only[go_sem,aeq,ZX.cells,ZW]
theorem af9 (c:ZX):Zw U 177 [Zt c]=some (.int .i64 0):=by
 refine ZI ahl (by kernel_rfl) (by simp[ZO,Zf]) ?_;rw[ZN];simp +contextual only[go_sem,aer,ZX.cells,ZW]
theorem af_ (c:ZX):Zw U 190 [Zt c]=some (.int .i64 c.mi):=by
 refine ZI ahm (by kernel_rfl) (by simp[ZO,Zf]) ?_;rw[ZN];simp +contextual only[go_sem,aes,ZX.cells,ZW]
theorem ahn (c:ZX):Zw U 192 [Zt c]=some (.int .i64 4):=by
 refine ZI aho (by kernel_rfl) (by simp[ZO,Zf]) ?_;rw[ZN];simp +contextual only[go_sem,aet,ZX.cells,ZW]
def WZ (d:Kd)(c:ZX):Int:=match d with
 |.Vj|.gap=>IntKind.i64.wrap (c.ma+3)
 |.idle|.setup=>IntKind.i64.wrap (c.mi+2)
 |.Um=>4
 |_=>1
def Kd.leaf:Kd->Bool
 |.Lv|.tq|.I_|.other=>false
 |_=>true
theorem qL (d:Kd)(h:d.leaf=true)(c:ZX)(s:St):MN U (Qv d) [Zt c] s=some (.int .i64 (WZ d c),s):=by
 cases d <;> first|cases h|skip
 all_goals simp only[Qv,QL,ajP,ajG,ahf,ahh,ahj,ahn,Vy,WZ]
theorem RM (k:X6)(h:(Zy k).known=true):XJ k=!(Zy k).leaf:=by
 obtain⟨h0,h1,h2,h3,h4,h5,h6,h7,h8,h9,h10,h11,h12,h13,h14⟩:=RP k;rw[XJ,h12,h13,h14];generalize Zy k=d at *
 cases d <;> first|rfl|cases h
mutual
def ZX.allKnown:ZX->Bool
 |.mk k _ _ _ _ _ _ kids=>(Zy k).known&&((Zy k).leaf||K0 kids)
def K0:List ZX->Bool
 |[]=>true
 |c::l=>c.allKnown&&K0 l
end
theorem Hr:∀{l:List ZX},K0 l=true->∀c∈l,c.allKnown=true
 |c::l,h,x,hx=>by
  rw[K0,adm] at h;rcases ajo.1 hx with rfl|hx
  ·exact h.1
  ·exact Hr h.2 x hx
mutual
def F8:ZX->Int
 |.mk k a b mi ma p nl kids=>bif (Zy k).leaf then WZ (Zy k) (.mk k a b mi ma p nl kids) else Oa kids 1
def Oa:List ZX->Int->Int
 |[],x=>x
 |c::l,x=>Oa l (Iq x (F8 c))
end
theorem ahp:∀c:ZX,c.fits->c.allKnown=true->Zw U 129 [Zt c]=some (.int .i64 (F8 c)):=by
 intro c
 induction c using ZX.ind with
 |h kind a b mi ma pat nl kids ih =>
 intro hf hk;rw[ZX.fits] at hf;obtain⟨f1,f2,f3⟩:=hf;rw[ZX.allKnown,adm] at hk;obtain⟨JJ,A5⟩:=hk;refine ZI ahq (by kernel_rfl) (by simp[ZO,Zf]) ?_;have h213:=bH (.mk kind a b mi ma pat nl kids);have Vg:(Zy kind).leaf=true->∀s,MN U (Qv (Zy kind)) [Zt (.mk kind a b mi ma pat nl kids)] s=some (.int .i64 (WZ (Zy kind) (.mk kind a b mi ma pat nl kids)),s):=fun h s=>qL _ h _ s
 have Fv:=N2 kind;rw[show (ZX.mk kind a b mi ma pat nl kids).kind=kind from rfl,RM kind JJ] at h213;rw[F8];rw[Zt] at h213 Vg ⊢;rw[VX] at Fv;generalize WZ (Zy kind) (.mk kind a b mi ma pat nl kids)=ls at *
 cases Qa:(Zy kind).leaf
 ·rw[Qa] at h213 A5;simp (maxSteps:=2000000) +contextual only[go_sem,abq,h213,ZJ,Yt,ZW];rw[ajU] at A5;refine Ym (σ:=Nat×Int) (fun x=>kids.length-x.1) (fun x=>some (AV.int .i64 (Oa (kids.drop x.1) x.2))) (fun x e s=>x.1<=kids.length/\Env.get e 3=.int .i64 x.2/\Env.get e 17=ZG nl (VJ kids)/\Env.get e 18=.int .i64 kids.length/\Env.get e 19=.int .i64 x.1) (0,1) ?_ rfl ?_
  ·rintro L ⟨i,acc⟩ e s ⟨hi,h3,h17,h18,h19⟩ IH;simp only at hi h3 h17 h18 h19 IH ⊢;by_cases hd:i<kids.length
   ·have hx:(VJ kids)[i]? = some (Zt kids[i]):=by rw[UA,aaa hd];rfl
    have hw:=ZE hd (by omega);have hc:=ih kids[i] (ajc hd) (f3 _ (ajc hd)) (Hr A5 _ (ajc hd));rw[ZN] at hx hc;simp only[ZX.cells] at hx hc;rw[YF (WL hd)] at h17;simp +contextual only[go_sem,CQ,h3,h17,h18,h19,Z9,hd,hx,hc,abp,ZW,hw];rw[abc hd,Oa];refine IH (i+1,Iq acc (F8 kids[i])) _ _ (by simp only;omega) ⟨by simp only;omega,?_,?_,?_,?_⟩ <;> simp +contextual only[go_sem,h3,h17,h18,h19,hw,YF (WL hd)]
   ·have:i=kids.length:=by omega
    subst this;simp +contextual only[go_sem,CQ,h3,h17,h18,h19,Z9,ajp];rw[ajy,Oa]
  ·refine⟨aji _,?_,?_,?_,?_⟩ <;> simp +contextual only[go_sem] <;> rfl
 ·rw[Qa] at h213;have Vg:=Vg Qa;simp (maxSteps:=2000000) +contextual only[go_sem,abq,h213,bQ,Fv,ZW,Vg]
end Go.Am
namespace Go.Am
open Go
variable [ZZ]
set_option maxRecDepth 100000
set_option maxHeartbeats 8000000
def WX:List Step->Int->Int->Int×Int
 |[],n,x=>(n,x)
 |s::l,n,x=>WX l (Iq n (F8 s.cond)) (IntKind.i64.wrap (x+IntKind.i64.wrap (s.times*IntKind.i64.wrap (s.within+1))))
def Rt (p:Prog):Int:=Iq (WX p.steps (IntKind.i64.wrap (2^p.lines.toNat+1)) 0).1 (WX p.steps (IntKind.i64.wrap (2^p.lines.toNat+1)) 0).2
theorem agm (p:Prog)(hf:p.fits)(hl:0<=p.lines/\p.lines<=16)(hk:∀s∈p.steps,s.cond.allKnown=true):Zw U 61 [UU p]=some (.int .i64 (Rt p)):=by
 obtain⟨lines,nl,steps⟩:=p;obtain⟨f1,f2⟩:=hf;simp only at f1 f2 hl hk;refine ZI aiq (by kernel_rfl) (by simp[ZO,XX]) ?_;rw[Yg,Rt];simp only[go_sem,afH,ZJ,Y',ZR,ZW,Va U _ _ _ hl];refine Ym (σ:=Nat×Int×Int) (fun x=>steps.length-x.1) (fun x=>some (AV.int .i64 (Iq (WX (steps.drop x.1) x.2.1 x.2.2).1 (WX (steps.drop x.1) x.2.1 x.2.2).2))) (fun x e s=>x.1<=steps.length/\Env.get e 3=.int .i64 x.2.1/\Env.get e 4=.int .i64 x.2.2/\Env.get e 12=ZG nl (Zr steps)/\Env.get e 13=.int .i64 steps.length/\Env.get e 14=.int .i64 x.1) (0,IntKind.i64.wrap (2^lines.toNat+1),0) ?_ rfl ?_
 ·rintro L ⟨i,n,x⟩ e s ⟨hi,h3,h4,h12,h13,h14⟩ IH;simp only at hi h3 h4 h12 h13 h14 IH ⊢;by_cases hd:i<steps.length
  ·have hx:(Zr steps)[i]? = some (YM steps[i]):=by rw[WI,aaa hd];rfl
   have hw:=ZE hd (by omega);have hc:=ahp steps[i].cond (f2 _ (ajc hd)) (hk _ (ajc hd));rw[ZN] at hc;simp only[ZX.cells,YM] at hx hc;rw[YF (XQ hd)] at h12;simp only[go_sem,CA,h3,h4,h12,h13,h14,Z9,hd,hx,hc,abp,ZW,hw];rw[abc hd,WX];refine IH (i+1,Iq n (F8 steps[i].cond),IntKind.i64.wrap (x+IntKind.i64.wrap (steps[i].times*IntKind.i64.wrap (steps[i].within+1)))) _ _ (by simp only;omega) ⟨by simp only;omega,?_,?_,?_,?_,?_⟩ <;> simp only[go_sem,h3,h4,h12,h13,h14,hw,YF (XQ hd)]
  ·have:i=steps.length:=by omega
   subst this;simp only[go_sem,CA,h3,h4,h12,h13,h14,Z9,ajp,abp];rw[ajy,WX]
 ·refine⟨aji _,?_,?_,?_,?_,?_⟩ <;> simp only[go_sem] <;> rfl
theorem Le (lines:Int):∀(c:ZX) (d:Int),NK lines c d=0->c.allKnown=true/\((Zy c.kind).leaf=true->c.kids=[]):=by
 intro c
 induction c using ZX.ind with
 |h kind a b mi ma pat nl kids ih =>
 intro d h;rw[NK] at h;have ne:∀{p:Bool} {e x:Int},(e≠0)->br p e x=0->p=false/\x=0:=fun {p e x} he h=>by
  cases p
  ·exact⟨rfl,h⟩
  ·exact absurd h he
 obtain⟨_,h⟩:=ne (by omega) h;obtain⟨hk,h⟩:=ne (by omega) h;obtain⟨hu,h⟩:=ne (by omega) h;obtain⟨_,h⟩:=ne (by omega) h;obtain⟨_,h⟩:=ne (by omega) h;obtain⟨_,h⟩:=ne (by omega) h;obtain⟨_,h⟩:=ne (by omega) h;obtain⟨_,h⟩:=ne (by omega) h;obtain⟨_,h⟩:=ne (by omega) h;obtain⟨_,h⟩:=ne (by omega) h;obtain⟨_,h⟩:=ne (by omega) h;have hk:(Zy kind).known=true:=by simpa using hk
 have RT:(Zy kind).leaf=true->kids=[]:=fun hl=>by
  have hun:(YL (Zy kind)).kids=false:=by
   cases hd:Zy kind <;> rw[hd] at hl <;> first|rfl|cases hl
  simp only[ajJ,Bool.and_eq_false_iff,hun] at hu;have:=hu.2;simp only[ajY,Bool.true_eq_false,decide_eq_false_iff_not,false_or] at this
  cases kids with
  |nil=>rfl
  |cons c l=>simp at this
 refine⟨?_,RT⟩;rw[ZX.allKnown,hk,ajF]
 cases hl:(Zy kind).leaf
 ·rw[ajU];have:∀l:List ZX,(∀x∈l,x∈kids)->QI lines l (IntKind.i64.wrap (d+1))=0->K0 l=true:=by
   intro l
   induction l with
   |nil=>intro _ _;rfl
   |cons c l Gf =>
    intro hl h;rw[QI] at h
    cases hb:NK lines c (IntKind.i64.wrap (d+1)) != 0
    ·rw[hb,YU] at h;rw[K0,Gf (fun x hx=>hl x (aab _ hx)) h,(ih c (hl c (aba ..)) _ (by simpa using hb)).1];rfl
    ·rw[hb,Xt] at h;rw[h] at hb;cases hb
  exact this kids (fun _ h=>h) h
 ·rfl
end Go.Am
