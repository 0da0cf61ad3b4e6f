/- A part of the proof of a statement of this seat: the machine on which the program is read, and what it computes; for every input. -/
import Derived.Test.YtkmaeondbkpajaaGreatDoorG05
import Derived.Test.YtkmaeondbkpajaaGreatDoorG12
import Derived.Test.YtkmaeondbkpajaaGreatDoorG03
set_option linter.all false
namespace Go.Am
open Go
variable [ZZ]
set_option maxRecDepth 100000
set_option maxHeartbeats 8000000
theorem l90 (lines depth:Int)(nl:Bool)(kids:List ZX)(f2:kids.length<2^30)(hc:∀x∈kids,Zw U 97 [.int .i64 lines,Zt x,.int .i64 (IntKind.i64.wrap (depth+1))]=some (.int .i64 (dH lines x (IntKind.i64.wrap (depth+1)))))
  (err:Int){e:Env}{s:St}(h0:Env.get e 0=.int .i64 lines)(h2:Env.get e 2=.int .i64 depth)(h10:Env.get e 10=.int .i64 err)(h141:Env.get e 141=ZG nl (VJ kids))(h142:Env.get e 142=.int .i64 kids.length)(h143:Env.get e 143=.int .i64 0){ks:List K}
  (hk:∀e' s' x,Env.get e' 10=.int .i64 x->jw U (Oe U [.tmp 6]) ks 0 e' s'=some (.int .i64 x)) :
  SC U (Oe U [.tmp 6]) ks DG e s=some (.int .i64 (NM lines kids (IntKind.i64.wrap (depth+1)) err)):=by
 refine Ym (σ:=Nat×Int) (fun x=>kids.length-x.1) (fun x=>some (AV.int .i64 (NM lines (kids.drop x.1) (IntKind.i64.wrap (depth+1)) x.2))) (fun x e s=>x.1<=kids.length/\Env.get e 0=.int .i64 lines/\Env.get e 2=.int .i64 depth/\Env.get e 10=.int .i64 x.2/\Env.get e 141=ZG nl (VJ kids)/\Env.get e 142=.int .i64 kids.length/\Env.get e 143=.int .i64 x.1) (0,err) ?_ rfl ⟨aji _,h0,h2,h10,h141,h142,h143⟩;clear h0 h2 h10 h141 h142 h143 err e s;rintro L ⟨i,err⟩ e s ⟨hi,h0,h2,h10,h141,h142,h143⟩ IH;simp only at hi h0 h2 h10 h141 h142 h143 IH ⊢;by_cases hd:i<kids.length
 ·have hx:(VJ kids)[i]? = some (Zt kids[i]):=by rw[UA,aaa hd];rfl
  have hw:=ZE hd (by omega);have hci:=hc kids[i] (ajc hd);rw[ZN] at hx hci;simp only[ZX.cells] at hx hci;rw[YF (WL hd)] at h141;simp +contextual only[go_sem,DG,h0,h2,h10,h141,h142,h143,Z9,hd,hx,hci,ZW];rw[abc hd,NM]
  cases hb:err==0
  ·simp only[go_sem,hw];refine IH (i+1,_) _ _ (by simp only;omega) ⟨by simp only;omega,?_,?_,?_,?_,?_,?_⟩ <;> simp +contextual only[go_sem,h0,h2,h10,h141,h142,h143,hw,YF (WL hd)]
  ·simp only[go_sem,hw];refine IH (i+1,_) _ _ (by simp only;omega) ⟨by simp only;omega,?_,?_,?_,?_,?_,?_⟩ <;> simp +contextual only[go_sem,h0,h2,h10,h141,h142,h143,hw,YF (WL hd)]
 ·have:i=kids.length:=by omega
  subst this;simp +contextual only[go_sem,DG,h142,h143,Z9,ajp];rw[ajy,NM];exact hk _ _ _ (by simp +contextual only[go_sem,h10])
theorem c90 (lines:Int):∀c:ZX,c.fits->∀depth:Int,Zw U 97 [.int .i64 lines,Zt c,.int .i64 depth]=some (.int .i64 (dH lines c depth)):=by
 intro c
 induction c using ZX.ind with
 |h kind a b mi ma pat nl kids ih =>
 intro hf depth;rw[ZX.fits] at hf;obtain⟨f1,f2,f3⟩:=hf;refine ZI k90 (by kernel_rfl) (vG _ _ _) ?_;have h157:=afY (Zy kind) kind a b mi ma pat nl kids;have hs:ZO [Qv (Zy kind),Ta (Zy kind),Qu (Zy kind)]=true:=by cases Zy kind <;> rfl
 have hn:Zx (Qv (Zy kind))=true/\Zx (Ta (Zy kind))=true/\Zx (Qu (Zy kind))=true:=by cases Zy kind <;> exact⟨rfl,rfl,rfl⟩
 obtain⟨n1,n2,n3⟩:=hn;have JJ:=Gq kind;rw[VX] at h157 JJ;rw[Zt] at h157 ⊢;rw[dH];generalize Qv (Zy kind)=A1 at *;generalize Ta (Zy kind)=A2 at *;generalize Qu (Zy kind)=A3 at *;generalize hu:YL (Zy kind)=u at *;generalize hk:(Zy kind).known=kn at *;simp (config:={ maxSteps:=4000000 }) +contextual only[go_sem,r90,bQ,JJ,h157,B9,iK,afV _ _ f1,z89,pq,bI,ZJ,Yt,n1,n2,n3,ZW,ZR];obtain⟨ua,ub,umi,uma,up,uk⟩:=u;simp only
 cases up
 ·simp only[Xt,YU,TX];refine Ug fun _=>Ug fun _=>?_
  cases aY:kind==[110,111,116]
  all_goals
   simp only[go_sem,Xt,YU];refine l90 lines depth nl kids f2 (fun x hx=>ih x hx (f3 x hx) _) _ ?_ ?_ ?_ ?_ ?_ ?_ ?_
   rotate_right 1
   ·intro e' s' x h;simp +contextual only[go_sem,h]
   all_goals simp +contextual only[go_sem,ZJ,Yt]
   all_goals try rfl
 ·simp only[Xt,YU,TX];refine Ug fun _=>Ug fun _=>?_
  cases aY:kind==[110,111,116]
  all_goals
   simp only[go_sem,Xt,YU];refine l90 lines depth nl kids f2 (fun x hx=>ih x hx (f3 x hx) _) _ ?_ ?_ ?_ ?_ ?_ ?_ ?_
   rotate_right 1
   ·intro e' s' x h;simp +contextual only[go_sem,h]
   all_goals simp +contextual only[go_sem,ZJ,Yt]
   all_goals try rfl
def xy (lines:Int):Nat->List Step->Int
 |_,[]=>0
 |i,s::l=>br (Yh [dH lines s.cond 1,within s.times 1 64,within s.within 0 255,br ((i:Int)==0&&s.within != 0) 3 0] != 0) (Yh [dH lines s.cond 1,within s.times 1 64,within s.within 0 255,br ((i:Int)==0&&s.within != 0) 3 0]) <| xy lines (i+1) l
def xW (p:Prog):Int :=
 br (Yh [within p.lines 1 16,br ((p.steps.length:Int)==0) 12 0,br (decide ((p.steps.length:Int)>8)) 5 0] != 0) (Yh [within p.lines 1 16,br ((p.steps.length:Int)==0) 12 0,br (decide ((p.steps.length:Int)>8)) 5 0]) <| xy p.lines 0 p.steps
theorem aiw {s:St}(h:8<s.next):(∀k,(s.next+k=8)=False)/\(s.next=8)=False:=⟨fun k=>by simp;omega,by simp;omega⟩
theorem c64 (p:Prog)(hf:p.fits):Zw U 47 [UU p]=some (.int .i64 (xW p)):=by
 obtain⟨lines,nl,steps⟩:=p;obtain⟨f1,f2⟩:=hf;simp only at f1 f2;refine ZI k64 (by kernel_rfl) (by simp[ZO,XX]) ?_;rw[Yg,xW];simp (maxSteps:=2000000) +contextual only[go_sem,r64,c88,B9,z89,bJ,ZJ,Y',ZR,ZW];simp only[TX];refine Ug fun _=>?_
 refine Ym (σ:=Nat) (fun i=>steps.length-i) (fun i=>some (AV.int .i64 (xy lines i (steps.drop i)))) (fun i e s=>i<=steps.length/\Env.get e 28=.int .i64 i/\Env.get e 1=.ptr 8 0/\Env.get e 26=ZG nl (Zr steps)/\Env.get e 27=.int .i64 steps.length/\8<s.next/\Fr s /\
  s.get 8=some (.cells [.int .i64 lines,ZG nl (Zr steps)] 25 false 0 0)) 0 ?_ rfl ?_
 ·rintro L i e s ⟨hi,h28,h1,h26,h27,hn,SA,hs⟩ IH;by_cases hd:i<steps.length
  ·have hx:(Zr steps)[i]? = some (YM steps[i]):=by rw[WI,aaa hd];rfl
   have hw:=ZE hd (by omega);obtain⟨g8,g8'⟩:=aiw hn;have hc:=c90 lines steps[i].cond (f2 _ (ajc hd)) 1;rw[YF (XQ hd)] at hs h26;rw[ZN] at hc;simp only[ZX.cells,YM] at hx hc;have LC:=SA.at;simp +contextual only[go_sem,xU,h28,h1,h26,h27,hs,Z9,hd,Y',hx,hc,g8,g8',ZW,iK,B9,z89,po,LC,ajf,Nat.left_eq_add];rw[abc hd,xy];simp only[TX];refine Ug fun _=>?_
   simp only[hw];refine IH (i+1) _ _ (by omega) ⟨by omega,?_,?_,?_,?_,?_,?_,?_⟩
   case refine_6 =>
    repeat first|exact SA|apply Fr.new|apply Fr.put|apply Fr.upto
    all_goals simp +contextual only[go_sem]
    all_goals omega
   all_goals simp +contextual only[go_sem,h28,h1,h26,h27,hs,hw,g8,g8',YF (XQ hd)]
   all_goals omega
  ·have:i=steps.length:=by omega
   subst this;simp +contextual only[go_sem,xU,h28,h27,Z9,ajp];rw[ajy,xy]
 ·refine⟨aji _,?_,?_,?_,?_,?_,?_,?_⟩
  case refine_6 =>
   repeat first|exact Fr.own|apply Fr.new|apply Fr.put|apply Fr.upto
   all_goals simp +contextual only[go_sem]
  all_goals simp +contextual only[go_sem]
  all_goals rfl
mutual
def ZX.norm:ZX->ZX
 |.mk k a b mi ma p _ kids=>.mk k a b mi ma p true (Wy kids)
def Wy:List ZX->List ZX
 |[]=>[]
 |c::l=>c.norm::Wy l
end
theorem Te:∀l,Wy l=l.map ZX.norm
 |[]=>by simp[Wy]
 |c::l=>by simp[Wy,Te l]
theorem RK (c:ZX):∃l,Zt c=.agg l/\l.length=7:=⟨_,ZN c,rfl⟩
theorem P5 (s:St)(d:Nat)(c:ZX):Yc U s (d+2) (Zt c)=some (Zt c):=by
 rw[ZN];simp only[ZX.cells,WK,Yf,Us,Dh,Ml,VW,Rn,Rm]
end Go.Am
namespace Go.Am
open Go
variable [ZZ]
set_option maxRecDepth 100000
set_option maxHeartbeats 8000000
def Step.norm (s:Step):Step:={ s with cond:=s.cond.norm }
def Prog.norm (p:Prog):Prog:={ p with nl:=true,steps:=p.steps.map Step.norm }
def Step.TD (s:Step):List AV:=[.str s.cond.kind,.int .i64 s.cond.a,.int .i64 s.cond.b,.int .i64 s.cond.mi,.int .i64 s.cond.ma,.str s.cond.pat,ZG s.cond.nl (VJ s.cond.kids),.int .i64 s.times,.int .i64 s.within]
theorem Bq (s:Step):∃l,YM s=.agg l/\l.length=9:=⟨_,rfl,rfl⟩
theorem Bp (s:St)(d:Nat)(c:Step):Yc U s (d+2) (YM c)=some (YM c):=by
 unfold YM;simp only[WK,Yf,Us,Dh,Ml,VW,Rn,Rm]
mutual
def sc:ZX->Int->Bool
 |.mk k _ _ _ _ p _ kids,d=>br (decide (d>6)||decide ((k.length:Int)>20)||decide ((p.length:Int)>40)||decide ((kids.length:Int)>10)) false (aB kids (IntKind.i64.wrap (d+1)))
def aB:List ZX->Int->Bool
 |[],_=>true
 |c::l,d=>br (!(sc c d)) false (aB l d)
end
mutual
def leaves:ZX->Nat
 |.mk _ _ _ _ _ _ _ kids=>Zs kids+1
def Zs:List ZX->Nat
 |[]=>0
 |c::l=>leaves c+Zs l
end
theorem E_ (p x y:Bool):some (AV.bool (br p x y))=br p (some (.bool x)) (some (.bool y)):=by cases p <;> rfl
theorem c86:∀c:ZX,∀depth:Int,Zw U 142 [Zt c,.int .i64 depth]=some (.bool (sc c depth)):=by
 intro c
 induction c using ZX.ind with
 |h kind a b mi ma pat nl kids ih =>
 intro depth;refine ZI k86 (by kernel_rfl) (by simp[ZO,Zf,still]) ?_;rw[Zt,sc];simp (maxSteps:=2000000) +contextual only[go_sem,r86,ZJ,Yt,ZR,ZW];simp only[E_];refine Ug fun SF=>?_
 have hlen:kids.length<=10:=by
  simp only[ajJ,decide_eq_false_iff_not] at SF;omega
 refine Ym (σ:=Nat) (fun i=>kids.length-i) (fun i=>some (AV.bool (aB (kids.drop i) (IntKind.i64.wrap (depth+1))))) (fun i e s=>i<=kids.length/\Env.get e 5=.int .i64 i/\Env.get e 1=.int .i64 depth/\Env.get e 2=.ptr 8 0 /\
  s.get 8=some (.cells [.str kind,.int .i64 a,.int .i64 b,.int .i64 mi,.int .i64 ma,.str pat,ZG nl (VJ kids)] 106 false 0 0)) 0 ?_ rfl ?_
 ·rintro L i e s ⟨hi,h5,h1,h2,hs⟩ IH;by_cases hd:i<kids.length
  ·have hx:(VJ kids)[i]? = some (Zt kids[i]):=by rw[UA,aaa hd];rfl
   have hw:=ZE hd (by omega);have hc:=ih kids[i] (ajc hd) (IntKind.i64.wrap (depth+1));rw[YF (WL hd)] at hs;rw[ZN] at hx hc;simp only[ZX.cells] at hx hc;simp +contextual only[go_sem,xT,h5,h1,h2,hs,Z9,hd,Yt,hx,hc];rw[abc hd,aB]
   cases hb:sc kids[i] (IntKind.i64.wrap (depth+1))
   ·simp only[go_sem]
   ·simp only[go_sem,hw];refine IH (i+1) _ _ (by omega) ⟨by omega,?_,?_,?_,?_⟩ <;> simp +contextual only[go_sem,h5,h1,h2,hs,hw,YF (WL hd)]
  ·have:i=kids.length:=by omega
   subst this;simp +contextual only[go_sem,xT,h5,h1,h2,hs,ZJ,Yt,Z9,ajp];rw[ajy,aB]
 ·refine⟨aji _,?_,?_,?_,?_⟩ <;> simp +contextual only[go_sem] <;> rfl
theorem wz (c:ZX):1<=leaves c:=by cases c;simp[leaves]
theorem Kj:∀l,l.length<=Zs l
 |[]=>aji _
 |c::l=>by have:=Kj l;have:=wz c;simp only[Zs,ajk];omega
theorem Ki:∀{l:List ZX} {c:ZX},c∈l->leaves c<=Zs l
 |c'::l,c,h=>by
  rw[Zs];rcases ajo.1 h with rfl|h
  ·omega
  ·have:=Ki h;omega
theorem Kh (l m:List ZX):Zs (l++m)=Zs l+Zs m:=by
 induction l with
 |nil=>simp[Zs]
 |cons c l ih=>simp only[ajz,Zs,ih];omega
theorem c87:∀c:ZX,leaves c<2^62->Zw U 143 [Zt c]=some (.int .i64 (leaves c)):=by
 intro c
 induction c using ZX.ind with
 |h kind a b mi ma pat nl kids ih =>
 intro hb;rw[leaves] at hb ⊢;have hlen:=Kj kids;refine ZI k87 (by kernel_rfl) (by simp[ZO,Zf,still]) ?_;rw[Zt];simp (maxSteps:=2000000) +contextual only[go_sem,r87,ZJ,Yt,ZR,ZW];refine Ym (σ:=Nat) (fun i=>kids.length-i) (fun i=>some (AV.int .i64 ((Zs kids+1:Nat):Int))) (fun i e s=>i<=kids.length/\Env.get e 4=.int .i64 i/\Env.get e 3=.int .i64 ((Zs (kids.take i)+1:Nat):Int)/\Env.get e 1=.ptr 8 0 /\
  s.get 8=some (.cells [.str kind,.int .i64 a,.int .i64 b,.int .i64 mi,.int .i64 ma,.str pat,ZG nl (VJ kids)] 106 false 0 0)) 0 ?_ rfl ?_
 ·rintro L i e s ⟨hi,h4,h3,h1,hs⟩ IH;by_cases hd:i<kids.length
  ·have hx:(VJ kids)[i]? = some (Zt kids[i]):=by rw[UA,aaa hd];rfl
   have hw:=ZE hd (by omega);have hc:=ih kids[i] (ajc hd) (by have:=Ki (ajc hd);omega);have KA:Zs (kids.take (i+1))=Zs (kids.take i)+leaves kids[i]:=by
    rw[ajC hd,Kh];simp[Zs]
   have hle:Zs (kids.take (i+1))<=Zs kids:=by
    have:=Kh (kids.take (i+1)) (kids.drop (i+1));rw[List.take_append_drop] at this;omega
   have Gx:IntKind.i64.wrap (((Zs (kids.take i)+1:Nat):Int)+(leaves kids[i]:Int))=((Zs (kids.take (i+1))+1:Nat):Int):=by rw[wrap_i64] <;> omega
   rw[YF (WL hd)] at hs;rw[ZN] at hx hc;simp only[ZX.cells] at hx hc;simp +contextual only[go_sem,xR,h4,h3,h1,hs,Z9,hd,Yt,hx,hc,hw,Gx];refine IH (i+1) _ _ (by omega) ⟨by omega,?_,?_,?_,?_⟩ <;> simp +contextual only[go_sem,h4,h3,h1,hs,hw,Gx,YF (WL hd)]
  ·have:i=kids.length:=by omega
   subst this;rw[List.take_length] at h3;simp +contextual only[go_sem,xR,h4,h3,h1,hs,ZJ,Yt,Z9,ajp]
 ·refine⟨aji _,?_,?_,?_,?_⟩ <;> simp +contextual only[go_sem] <;> rfl
end Go.Am
namespace Go.Am
open Go
variable [ZZ]
set_option maxRecDepth 100000
set_option maxHeartbeats 8000000
theorem vd {d:Int}:∀{l:List ZX},aB l d=true->∀c∈l,sc c d=true
 |c::l,h,x,hx=>by
  rw[aB] at h
  cases hc:sc c d
  ·rw[hc] at h;cases h
  ·rw[hc] at h;rcases ajo.1 hx with rfl|hx
   ·exact hc
   ·exact vd h x hx
theorem h_ {k:X6}{a b mi ma:Int}{p:X6}{nl:Bool}{kids:List ZX}{d:Int}(h:sc (.mk k a b mi ma p nl kids) d=true)(hd:1<=d):d<=6/\k.length<=20/\p.length<=40/\kids.length<=10/\∀c∈kids,sc c (d+1)=true:=by
 rw[sc] at h
 cases hb:(decide (d>6)||decide ((k.length:Int)>20)||decide ((p.length:Int)>40)||decide ((kids.length:Int)>10))
 ·rw[hb,YU] at h;simp only[ajJ,decide_eq_false_iff_not] at hb;obtain⟨⟨⟨h1,h2⟩,h3⟩,h4⟩:=hb;have hw:IntKind.i64.wrap (d+1)=d+1:=wrap_i64 (by omega) (by omega);rw[hw] at h;exact⟨by omega,by omega,by omega,by omega,vd h⟩
 ·rw[hb] at h;cases h
theorem vb:∀(c:ZX) (d:Int),1<=d->sc c d=true->c.fits/\leaves c<=11^(7-d.toNat):=by
 intro c
 induction c using ZX.ind with
 |h kind a b mi ma pat nl kids ih =>
 intro d hd h;obtain⟨h1,h2,h3,h4,h5⟩:=h_ h hd;have hk:∀x∈kids,x.fits/\leaves x<=11^(6-d.toNat):=fun x hx=>by
  have:=ih x hx (d+1) (by omega) (h5 x hx)
  rwa [show 7-(d+1).toNat=6-d.toNat from by omega] at this
 refine⟨?_,?_⟩
 ·rw[ZX.fits];exact⟨by omega,by omega,fun x hx=>(hk x hx).1⟩
 ·rw[leaves];have:∀l:List ZX,(∀x∈l,x∈kids)->Zs l<=l.length*11^(6-d.toNat):=by
   intro l
   induction l with
   |nil=>intro _;simp[Zs]
   |cons c l Gf =>
    intro hl;have:=Gf fun x hx=>hl x (aab _ hx)
    have:=(hk c (hl c (aba ..))).2;rw[Zs,ajk,akf];omega
  have h6:=this kids fun _ h=>h
  have h7:kids.length*11^(6-d.toNat)<=10*11^(6-d.toNat):=aj7 _ h4;have h8:11^(7-d.toNat)=11*11^(6-d.toNat):=by
   rw[show 7-d.toNat=(6-d.toNat)+1 from by omega,Nat.pow_succ,Nat.mul_comm]
  have h9:1<=11^(6-d.toNat):=Nat.one_le_pow _ _ (by omega);omega
theorem sD {c:ZX}(h:sc c 1=true):leaves c<2^62:=by
 have:=(vb c 1 (by omega) h).2;have e:11^(7-(1:Int).toNat)=1771561:=rfl;rw[e] at this;omega
def Io (c:ZX)(n:Int):Bool:=sc c 1&&decide ((leaves c:Int)<=n)
theorem c21 (c:ZX)(n:Int):Zw U 72 [Zt c,.int .i64 n]=some (.bool (Io c n)):=by
 refine ZI k21 (by kernel_rfl) (by simp[ZO,Zf,still]) ?_;have h86:=c86 c 1;have h87:sc c 1=true->Zw U 143 [Zt c]=some (.int .i64 (leaves c)):=fun h=>c87 c (sD h)
 rw[ZN] at h86 h87 ⊢;simp only[ZX.cells] at h86 h87 ⊢;simp (maxSteps:=2000000) +contextual only[go_sem,r21,h86,h87,ZW];rfl
def Nz (n:Int):List Step->Bool
 |[]=>true
 |s::l=>br (!(Io s.cond n)) false (Nz n l)
def short (p:Prog)(n:Int):Bool:=br (decide ((p.steps.length:Int)>10)) false (Nz n p.steps)
theorem c31 (p:Prog)(n:Int):Zw U 22 [UU p,.int .i64 n]=some (.bool (short p n)):=by
 obtain⟨lines,nl,steps⟩:=p;refine ZI k31 (by kernel_rfl) (by simp[ZO,XX,still]) ?_;rw[Yg,short];simp (maxSteps:=2000000) +contextual only[go_sem,r31,ZJ,Y',ZR,ZW];simp only[E_];refine Ug fun SF=>?_
 have hlen:steps.length<=10:=by
  simp only[decide_eq_false_iff_not] at SF;omega
 refine Ym (σ:=Nat) (fun i=>steps.length-i) (fun i=>some (AV.bool (Nz n (steps.drop i)))) (fun i e s=>i<=steps.length/\Env.get e 5=.int .i64 i/\Env.get e 1=.int .i64 n/\Env.get e 2=.ptr 8 0 /\
  s.get 8=some (.cells [.int .i64 lines,ZG nl (Zr steps)] 31 false 0 0)) 0 ?_ rfl ?_
 ·rintro L i e s ⟨hi,h5,h1,h2,hs⟩ IH;by_cases hd:i<steps.length
  ·have hx:(Zr steps)[i]? = some (YM steps[i]):=by rw[WI,aaa hd];rfl
   have hw:=ZE hd (by omega);have hc:=c21 steps[i].cond n;rw[YF (XQ hd)] at hs;rw[ZN] at hc;simp only[ZX.cells,YM] at hx hc;simp +contextual only[go_sem,yi,h5,h1,h2,hs,Z9,hd,Y',hx,hc];rw[abc hd,Nz]
   cases hb:Io steps[i].cond n
   ·simp only[go_sem]
   ·simp only[go_sem,hw];refine IH (i+1) _ _ (by omega) ⟨by omega,?_,?_,?_,?_⟩ <;> simp +contextual only[go_sem,h5,h1,h2,hs,hw,YF (XQ hd)]
  ·have:i=steps.length:=by omega
   subst this;simp +contextual only[go_sem,yi,h5,h1,h2,hs,ZJ,Y',Z9,ajp];rw[ajy,Nz]
 ·refine⟨aji _,?_,?_,?_,?_⟩ <;> simp +contextual only[go_sem] <;> rfl
theorem Im {p:Prog}{n:Int}(h:short p n=true):p.steps.length<=10/\∀s∈p.steps,sc s.cond 1=true/\(leaves s.cond:Int)<=n:=by
 unfold short at h
 cases hb:decide ((p.steps.length:Int)>10)
 ·rw[hb,YU] at h;refine⟨by simp only[decide_eq_false_iff_not] at hb;omega,?_⟩;have:∀l:List Step,Nz n l=true->∀s∈l,sc s.cond 1=true/\(leaves s.cond:Int)<=n:=by
   intro l
   induction l with
   |nil=>intro _ s hs;cases hs
   |cons x l ih =>
    intro h s hs;rw[Nz] at h
    cases hx:Io x.cond n
    ·rw[hx] at h;cases h
    ·rw[hx] at h;rcases ajo.1 hs with rfl|hs
     ·simpa[Io] using hx
     ·exact ih h s hs
  exact this _ h
 ·rw[hb] at h;cases h
theorem Ny {p:Prog}{n:Int}(h:short p n=true):p.fits:=by
 obtain⟨h1,h2⟩:=Im h;exact⟨by omega,fun s hs=>(vb _ 1 (by omega) (h2 s hs).1).1⟩
end Go.Am
namespace Go.Am
open Go
variable [ZZ]
set_option maxRecDepth 100000
def aen:RC:=(sO [Yy 1 78 0,XW 2] (sO [ZP 3 0 1,ZS 4 3,Pu 5 9 4 110 111 116,om 6 5,Vv 7 6 0 1,Xk 8 6 7,oF 9 6 (.bin .eql 9 true (.t 8) (.v (.str [97,108,108]))),Yj 10 6 9,om 11 10,Vv 12 11 0 1,Xk 13 11 12,oF 14 11 (.bin .eql 9 true (.t 13) (.v (.str [97,110,121]))),Yj 15 11 14,om 2 15] .ret))
theorem ahe:Zb 168=some ([.tmp 2],aen):=by kernel_rfl
def aem:RC:=(sO [Zz 4 0] (sO [om 5 0,om 6 1,EI 7 3 5 6,nK 8 7 65537 3 3,om 4 8] .ret))
theorem ahd:Zb 128=some ([.tmp 4],aem):=by kernel_rfl
def CQ:RC:=(sO [YQ 20 3 19 18] (sQ (cS 20 (.exit 0)) (sQ (.block 1 (sO [Y0 21 7 17 19,Zh 22 7 21,Qk 5 0 0 0 0 78,Yw 7 5 22] (oP [om 23 3,Zh 24 7 5,YO 25 129 24,YI 26 128 23 25,om 3 26]))) (oP [Yz 27 3 19 1,om 19 27]))))
def abq:RC:=(sO [Yy 1 78 0,Zz 2 0] (sQ (sO [Zh 6 7 1,YO 7 168 6,VO 8 7] (cT 8 (sQ (.Sf 8 [Ps 9 136,ZP 10 0 1,ZS 11 10,EJ 12 215 9 11,o 13 (.fd1 6 (.t 12)),Zh 14 7 1,⟨some 15,none,none,true,.Ks (.t 13) [(.t 14)]⟩,om 2 15]) .ret))) (sO [Zz 3 1] (sQ (sO [ZP 16 6 1,ZS 17 16,YS 18 17,Zz 19 0] (.block 0 (.loop CQ))) (sO [om 28 3,om 2 28] .ret)))))
theorem ahq:Zb 129=some ([.tmp 2],abq):=by kernel_rfl
def aeo:RC:=(sO [Yy 1 78 0,Zz 2 0] (sO [ZP 3 4 1,ZS 4 3,Yz 5 3 4 3,om 2 5] .ret))
theorem ahg:Zb 174=some ([.tmp 2],aeo):=by kernel_rfl
def aep:RC:=(sO [Yy 1 78 0,Zz 2 0] (sO [ZP 3 3 1,ZS 4 3,Yz 5 3 4 2,om 2 5] .ret))
theorem ahi:Zb 175=some ([.tmp 2],aep):=by kernel_rfl
def aeq:RC:=(sO [Yy 1 78 0,Zz 2 0] (sO [Zz 2 1] .ret))
theorem ahk:Zb 176=some ([.tmp 2],aeq):=by kernel_rfl
def aer:RC:=(sO [Yy 1 78 0,Zz 2 0] (sO [Zz 2 0] .ret))
theorem ahl:Zb 177=some ([.tmp 2],aer):=by kernel_rfl
def aes:RC:=(sO [Yy 1 78 0,Zz 2 0] (sO [ZP 3 3 1,ZS 4 3,om 2 4] .ret))
theorem ahm:Zb 190=some ([.tmp 2],aes):=by kernel_rfl
def aet:RC:=(sO [Yy 1 78 0,Zz 2 0] (sO [Zz 2 4] .ret))
theorem aho:Zb 192=some ([.tmp 2],aet):=by kernel_rfl
def CA:RC:=(sO [YQ 15 3 14 13] (sQ (cS 15 (.exit 0)) (sQ (.block 1 (sO [Y0 16 9 12 14,Zh 17 9 16,E1 6 0 0 0 0 0 0 113,Yw 9 6 17] (sO [om 18 3,ZP 19 0 6,Zh 20 7 19,YO 21 129 20,YI 22 128 18 21,om 3 22] (oP [om 23 4,ZP 24 7 6,ZS 25 24,ZP 26 8 6,ZS 27 26,Yz 28 3 27 1,EI 29 3 25 28,EZ 30 3 23 29,om 4 30])))) (oP [Yz 31 3 14 1,om 14 31]))))
def afH:RC:=(sO [Yy 1 25 0,Zz 2 0] (sO [ZP 7 0 1,ZS 8 7,MB 9 3 1 8,Yz 10 3 9 1,om 3 10,Zz 4 0] (sQ (sO [ZP 11 1 1,ZS 12 11,YS 13 12,Zz 14 0] (.block 0 (.loop CA))) (sO [om 32 3,om 33 4,YI 34 128 32 33,om 2 34] .ret))))
theorem aiq:Zb 61=some ([.tmp 2],afH):=by kernel_rfl
def ael:RC:=(sO [Zz 4 0] (sO [om 5 0,om 6 1,EI 7 3 5 6,nK 8 7 65537 3 3,om 4 8] .ret))
theorem ahc:Zb 116=some ([.tmp 4],ael):=by kernel_rfl
def Jw:RC:=(sQ (sO [om 21 4,ZP 22 6 1,ZS 23 22,YS 24 23,YQ 25 3 21 24] (cS 25 (.exit 1))) (sQ (.block 2 (oP [om 28 3,ZP 29 6 1,ZS 30 29,om 31 4,Y0 32 7 30 31,Zh 33 7 32,YO 34 117 33,YI 35 116 28 34,om 3 35])) (oP [om 26 4,Yz 27 3 26 1,om 4 27])))
def ad1:RC:=(sO [Yy 1 106 0,Zz 2 0] (sQ (sO [ZP 5 0 1,ZS 6 5] (.block 0 (sQ (sO [Bi 8 9 6 112 117 108 115 101,om 7 8] (cS 7 (oP [Pu 9 9 6 103 97 112,om 7 9]))) (cO 7 (sO [ZP 10 4 1,ZS 11 10,Yz 12 3 11 3,om 2 12] .ret) (sQ (sO [Ig 14 9 6 105 100 108 101,om 13 14] (cS 13 (oP [Bi 15 9 6 115 101 116 117 112,om 13 15]))) (cO 13 (sO [ZP 16 3 1,ZS 17 16,Yz 18 3 17 2,om 2 18] .ret) (sO [Ig 20 9 6 114 117 110 116,om 19 20] (cT 19 (sO [Zz 2 4] .ret))))))))) (sO [Zz 3 1] (sQ (sO [Zz 4 0] (.block 1 (.loop Jw))) (sO [om 36 3,om 2 36] .ret)))))
theorem agW:Zb 117=some ([.tmp 2],ad1):=by kernel_rfl
def yp:RC:=(sQ (sO [om 10 5,ZP 11 1 1,ZS 12 11,YS 13 12,YQ 14 3 10 13] (cS 14 (.exit 0))) (sQ (.block 1 (sO [om 17 3,ZP 18 1 1,ZS 19 18,om 20 5,Y0 21 9 19 20,ZP 22 0 21,Zh 23 7 22,YO 24 117 23,YI 25 116 17 24,om 3 25] (.Sf 17 [om 26 4,ZP 27 1 1,ZS 28 27,om 29 5,Y0 30 9 28 29,ZP 31 7 30,ZS 32 31,ZP 33 1 1,ZS 34 33,om 35 5,Y0 36 9 34 35,ZP 37 8 36,ZS 38 37,Yz 39 3 38 1,EI 40 3 32 39,EZ 41 3 26 40,om 4 41]))) (oP [om 15 5,Yz 16 3 15 1,om 5 16])))
def r38:RC:=(sO [Yy 1 31 0,Zz 2 0] (sO [ZP 6 0 1,ZS 7 6,MB 8 3 1 7,Yz 9 3 8 1,om 3 9] (sO [Zz 4 0] (sQ (sO [Zz 5 0] (.block 0 (.loop yp))) (sO [om 42 3,om 43 4,nK 44 43 65537 3 3,YI 45 116 42 44,om 2 45] .ret)))))
theorem k38:Zb 55=some ([.tmp 2],r38):=by kernel_rfl
end Go.Am
