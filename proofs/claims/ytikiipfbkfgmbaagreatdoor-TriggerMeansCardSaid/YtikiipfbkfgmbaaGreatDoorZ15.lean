/- A part of the proof of a statement of this seat: the machine on which the program is read, and what it computes; for every input. -/
import Derived.Test.YtikiipfbkfgmbaaGreatDoorZ06
import Derived.Test.YtikiipfbkfgmbaaGreatDoorZ14
set_option linter.all false
namespace Go.Am
open Go
variable [Z4]
set_option maxRecDepth 100000
set_option maxHeartbeats 8000000
attribute [go_sem] NJ amg alZ alU
def GG (a b:Int):Int:=min (IntKind.i64.wrap (a*b)) 65537
theorem abf (a b:Int):ZE U 100 [.int .i64 a,.int .i64 b]=some (.int .i64 (GG a b)):=by
 refine ZR ajq (by kernel_rfl) rfl ?_;simp +contextual only[go_sem,afH];rfl
theorem acv (a b:Int):ZE U 170 [.int .i64 a,.int .i64 b]=some (.int .i64 (GG a b)):=by
 refine ZR ajr (by kernel_rfl) rfl ?_;simp +contextual only[go_sem,afI];rfl
def XD (k:XV):Bool:=k==[110,111,116]||(k==[97,108,108]||k==[97,110,121])
theorem aaV (c:Z5):ZE U 213 [Zw c]=some (.bool (XD c.kind)):=by
 refine ZR ajs (by kernel_rfl) (by simp[ZU,Zt]) ?_;rw[ZV];simp +contextual only[go_sem,afJ,Z5.cells];rw[XD]
 cases c.kind==[110,111,116] <;> rfl
theorem ajt (c:Z5):ZE U 192 [Zw c]=some (.int .i64 (IntKind.i64.wrap (c.ma+3))):=by
 refine ZR aju (by kernel_rfl) (by simp[ZU,Zt]) ?_;rw[ZV];simp +contextual only[go_sem,afK,Z5.cells]
theorem ajv (c:Z5):ZE U 193 [Zw c]=some (.int .i64 (IntKind.i64.wrap (c.mi+2))):=by
 refine ZR ajw (by kernel_rfl) (by simp[ZU,Zt]) ?_;rw[ZV];simp +contextual only[go_sem,afL,Z5.cells]
theorem ajx (c:Z5):ZE U 194 [Zw c]=some (.int .i64 1):=by
 refine ZR ajy (by kernel_rfl) (by simp[ZU,Zt]) ?_;rw[ZV];simp +contextual only[go_sem,afM,Z5.cells]
theorem ahG (c:Z5):ZE U 195 [Zw c]=some (.int .i64 0):=by
 refine ZR ajz (by kernel_rfl) (by simp[ZU,Zt]) ?_;rw[ZV];simp +contextual only[go_sem,afN,Z5.cells]
theorem ahH (c:Z5):ZE U 208 [Zw c]=some (.int .i64 c.mi):=by
 refine ZR ajA (by kernel_rfl) (by simp[ZU,Zt]) ?_;rw[ZV];simp +contextual only[go_sem,afO,Z5.cells]
theorem ajB (c:Z5):ZE U 210 [Zw c]=some (.int .i64 4):=by
 refine ZR ajC (by kernel_rfl) (by simp[ZU,Zt]) ?_;rw[ZV];simp +contextual only[go_sem,afP,Z5.cells]
def WQ (d:Kd)(c:Z5):Int:=match d with
 |.Vj|.gap=>IntKind.i64.wrap (c.ma+3)
 |.idle|.setup=>IntKind.i64.wrap (c.mi+2)
 |.Uf=>4
 |_=>1
def Kd.leaf:Kd->Bool
 |.QG|.EU|.OV|.other=>false
 |_=>true
theorem o6 (d:Kd)(h:d.leaf=true)(c:Z5)(s:St):GR U (Pk d) [Zw c] s=some (.int .i64 (WQ d c),s):=by
 cases d <;> first|cases h|skip
 all_goals simp only[Pk,NJ,amg,alZ,ajt,ajv,ajx,ajB,U8,WQ]
theorem NM (k:XV)(h:(ZF k).known=true):XD k=!(ZF k).leaf:=by
 obtain⟨h0,h1,h2,h3,h4,h5,h6,h7,h8,h9,h10,h11,h12,h13,h14⟩:=UN k;rw[XD,h12,h13,h14];generalize ZF k=d at *
 cases d <;> first|rfl|cases h
mutual
def Z5.allKnown:Z5->Bool
 |.mk k _ _ _ _ _ _ kids=>(ZF k).known&&((ZF k).leaf||Jz kids)
def Jz:List Z5->Bool
 |[]=>true
 |c::l=>c.allKnown&&Jz l
end
theorem FV:∀{l:List Z5},Jz l=true->∀c∈l,c.allKnown=true
 |c::l,h,x,hx=>by
  rw[Jz,agw] at h;rcases alL.1 hx with rfl|hx
  ·exact h.1
  ·exact FV h.2 x hx
mutual
def EC:Z5->Int
 |.mk k a b mi ma p nl kids=>bif (ZF k).leaf then WQ (ZF k) (.mk k a b mi ma p nl kids) else M8 kids 1
def M8:List Z5->Int->Int
 |[],x=>x
 |c::l,x=>M8 l (GG x (EC c))
end
theorem ajD:∀c:Z5,c.fits->c.allKnown=true->ZE U 171 [Zw c]=some (.int .i64 (EC c)):=by
 intro c
 induction c using Z5.ind with
 |h kind a b mi ma pat nl kids ih =>
 intro hf hk;rw[Z5.fits] at hf;obtain⟨f1,f2,f3⟩:=hf;rw[Z5.allKnown,agw] at hk;obtain⟨Jd,BW⟩:=hk;refine ZR ajE (by kernel_rfl) (by simp[ZU,Zt]) ?_;have h213:=aaV (.mk kind a b mi ma pat nl kids);have WE:(ZF kind).leaf=true->∀s,GR U (Pk (ZF kind)) [Zw (.mk kind a b mi ma pat nl kids)] s=some (.int .i64 (WQ (ZF kind) (.mk kind a b mi ma pat nl kids)),s):=fun h s=>o6 _ h _ s
 have pZ:=M1 kind;rw[show (Z5.mk kind a b mi ma pat nl kids).kind=kind from rfl,NM kind Jd] at h213;rw[EC];rw[Zw] at h213 WE ⊢;rw[Vz] at pZ;generalize WQ (ZF kind) (.mk kind a b mi ma pat nl kids)=ls at *
 cases Tk:(ZF kind).leaf
 ·rw[Tk] at h213 BW;simp (maxSteps:=2000000) +contextual only[go_sem,acw,h213,ZI,Yd];rw[amf] at BW;refine YH (σ:=Nat×Int) (fun x=>kids.length-x.1) (fun x=>some (AV.int .i64 (M8 (kids.drop x.1) x.2))) (fun x e s=>x.1<=kids.length/\Env.get e 3=.int .i64 x.2/\Env.get e 17=ZG nl (WW kids)/\Env.get e 18=.int .i64 kids.length/\Env.get e 19=.int .i64 x.1) (0,1) ?_ rfl ?_
  ·rintro L ⟨i,acc⟩ e s ⟨hi,h3,h17,h18,h19⟩ IH;simp only at hi h3 h17 h18 h19 IH ⊢;by_cases hd:i<kids.length
   ·have hx:(WW kids)[i]? = some (Zw kids[i]):=by rw[Vb,aaa hd];rfl
    have hw:=ZN hd (by omega);have hc:=ih kids[i] (adm hd) (f3 _ (adm hd)) (FV BW _ (adm hd));rw[ZV] at hx hc;simp only[Z5.cells] at hx hc;rw[YR (XL hd)] at h17;simp +contextual only[go_sem,By,h3,h17,h18,h19,Z8,hd,hx,hc,acv,ZL,hw];rw[abc hd,M8];refine IH (i+1,GG acc (EC kids[i])) _ _ (by simp only;omega) ⟨by simp only;omega,?_,?_,?_,?_⟩ <;> simp +contextual only[go_sem,h17,h18,YR (XL hd)]
   ·have:i=kids.length:=by omega
    subst this;simp +contextual only[go_sem,By,h3,h18,h19,Z8,alh];rw[alO,M8]
  ·refine⟨aic _,?_,?_,?_,?_⟩ <;> simp +contextual only[go_sem] <;> rfl
 ·rw[Tk] at h213;have WE:=WE Tk;simp (maxSteps:=2000000) +contextual only[go_sem,acw,h213,aaJ,pZ,WE]
end Go.Am
namespace Go.Am
open Go
variable [Z4]
set_option maxRecDepth 100000
set_option maxHeartbeats 8000000
def WL:List Step->Int->Int->Int×Int
 |[],n,x=>(n,x)
 |s::l,n,x=>WL l (GG n (EC s.cond)) (IntKind.i64.wrap (x+IntKind.i64.wrap (s.times*IntKind.i64.wrap (s.within+1))))
def Qp (p:Prog):Int:=GG (WL p.steps (IntKind.i64.wrap (2^p.lines.toNat+1)) 0).1 (WL p.steps (IntKind.i64.wrap (2^p.lines.toNat+1)) 0).2
theorem aem (p:Prog)(hf:p.fits)(hl:0<=p.lines/\p.lines<=16)(hk:∀s∈p.steps,s.cond.allKnown=true):ZE U 102 [Vw p]=some (.int .i64 (Qp p)):=by
 obtain⟨lines,nl,steps⟩:=p;obtain⟨f1,f2⟩:=hf;simp only at f1 f2 hl hk;refine ZR akT (by kernel_rfl) (by simp[ZU,X']) ?_;rw[X9,Qp];simp only[go_sem,ahe,ZI,YY,Tq U _ _ _ hl];refine YH (σ:=Nat×Int×Int) (fun x=>steps.length-x.1) (fun x=>some (AV.int .i64 (GG (WL (steps.drop x.1) x.2.1 x.2.2).1 (WL (steps.drop x.1) x.2.1 x.2.2).2))) (fun x e s=>x.1<=steps.length/\Env.get e 3=.int .i64 x.2.1/\Env.get e 4=.int .i64 x.2.2/\Env.get e 12=ZG nl (Zx steps)/\Env.get e 13=.int .i64 steps.length/\Env.get e 14=.int .i64 x.1) (0,IntKind.i64.wrap (2^lines.toNat+1),0) ?_ rfl ?_
 ·rintro L ⟨i,n,x⟩ e s ⟨hi,h3,h4,h12,h13,h14⟩ IH;simp only at hi h3 h4 h12 h13 h14 IH ⊢;by_cases hd:i<steps.length
  ·have hx:(Zx steps)[i]? = some (YL steps[i]):=by rw[Wu,aaa hd];rfl
   have hw:=ZN hd (by omega);have hc:=ajD steps[i].cond (f2 _ (adm hd)) (hk _ (adm hd));rw[ZV] at hc;simp only[Z5.cells,YL] at hx hc;rw[YR (X_ hd)] at h12;simp only[go_sem,Bm,h3,h4,h12,h13,h14,Z8,hd,hx,hc,acv,ZL,hw];rw[abc hd,WL];refine IH (i+1,GG n (EC steps[i].cond),IntKind.i64.wrap (x+IntKind.i64.wrap (steps[i].times*IntKind.i64.wrap (steps[i].within+1)))) _ _ (by simp only;omega) ⟨by simp only;omega,?_,?_,?_,?_,?_⟩ <;> simp only[go_sem,h12,h13,YR (X_ hd)]
  ·have:i=steps.length:=by omega
   subst this;simp only[go_sem,Bm,h3,h4,h13,h14,Z8,alh,acv];rw[alO,WL]
 ·refine⟨aic _,?_,?_,?_,?_,?_⟩ <;> simp only[go_sem] <;> rfl
theorem ND (lines:Int):∀(c:Z5) (d:Int),Mr lines c d=0->c.allKnown=true/\((ZF c.kind).leaf=true->c.kids=[]):=by
 intro c
 induction c using Z5.ind with
 |h kind a b mi ma pat nl kids ih =>
 intro d h;rw[Mr] at h;have ne:∀{p:Bool} {e x:Int},(e≠0)->br p e x=0->p=false/\x=0:=fun {p e x} he h=>by
  cases p
  ·exact⟨rfl,h⟩
  ·exact absurd h he
 obtain⟨_,h⟩:=ne (by omega) h;obtain⟨hk,h⟩:=ne (by omega) h;obtain⟨hu,h⟩:=ne (by omega) h;obtain⟨_,h⟩:=ne (by omega) h;obtain⟨_,h⟩:=ne (by omega) h;obtain⟨_,h⟩:=ne (by omega) h;obtain⟨_,h⟩:=ne (by omega) h;obtain⟨_,h⟩:=ne (by omega) h;obtain⟨_,h⟩:=ne (by omega) h;obtain⟨_,h⟩:=ne (by omega) h;obtain⟨_,h⟩:=ne (by omega) h;have hk:(ZF kind).known=true:=by simpa using hk
 have QJ:(ZF kind).leaf=true->kids=[]:=fun hl=>by
  have hun:(YQ (ZF kind)).kids=false:=by
   cases hd:ZF kind <;> rw[hd] at hl <;> first|rfl|cases hl
  simp only[ame,Bool.and_eq_false_iff,hun] at hu;have:=hu.2;simp only[amp,Bool.true_eq_false,decide_eq_false_iff_not,false_or] at this
  cases kids with
  |nil=>rfl
  |cons c l=>simp at this
 refine⟨?_,QJ⟩;rw[Z5.allKnown,hk,al9]
 cases hl:(ZF kind).leaf
 ·rw[amf];have:∀l:List Z5,(∀x∈l,x∈kids)->Pz lines l (IntKind.i64.wrap (d+1))=0->Jz l=true:=by
   intro l
   induction l with
   |nil=>intro _ _;rfl
   |cons c l EJ =>
    intro hl h;rw[Pz] at h
    cases hb:Mr lines c (IntKind.i64.wrap (d+1)) != 0
    ·rw[hb,Xv] at h;rw[Jz,EJ (fun x hx=>hl x (aab _ hx)) h,(ih c (hl c (aba ..)) _ (by simpa using hb)).1];rfl
    ·rw[hb,Xo] at h;rw[h] at hb;cases hb
  exact this kids (fun _ h=>h) h
 ·rfl
end Go.Am
