/- A part of the proof of a statement of this seat: the machine on which the program is read, and what it computes; for every input. -/
import Derived.Test.YtkmaeondbkpajaaGreatDoorG06
import Derived.Test.YtkmaeondbkpajaaGreatDoorG17
import Derived.Test.YtkmaeondbkpajaaGreatDoorG13
import Derived.Test.YtkmaeondbkpajaaGreatDoorG05
import Derived.Test.YtkmaeondbkpajaaGreatDoorG11
set_option linter.all false
namespace Go.Am
open Go
variable [ZZ]
set_option maxRecDepth 100000
set_option maxHeartbeats 8000000
theorem dF (na nb:Bool)(a b:List Int)(ha:a.length<2^62):Zw U 21 [ZG na (ints a),ZG nb (ints b)]=some (.bool (MU a b)):=agl ac3 (by kernel_rfl) na nb a b ha
theorem ac4:∀c:ZX,c.fits->Zw U 60 [Zt c]=some (Zt c.norm):=by
 intro c
 induction c using ZX.ind with
 |h kind a b mi ma pat nl kids ih =>
 intro hf;rw[ZX.fits] at hf;obtain⟨f1,f2,f3⟩:=hf;refine ZI ac5 (by kernel_rfl) (by simp[ZO,Zf]) ?_;rw[Zt,ZX.norm];simp only[go_sem,dm,ZJ,Yt,ZR,ZW];refine Ym (σ:=Nat) (fun i=>kids.length-i) (fun i=>some (Zt (.mk kind a b mi ma pat true (Wy kids)))) (fun i e s=>i<=kids.length/\Env.get e 2=.ptr 9 0/\Env.get e 3=.ptr 10 0/\Env.get e 20=ZG nl (VJ kids)/\Env.get e 21=.int .i64 kids.length/\Env.get e 22=.int .i64 (i:Nat)/\10<s.next/\Fr s /\
  s.get 9=some (.cells [.str [],.int .i64 0,.int .i64 0,.int .i64 0,.int .i64 0,.str [],.ZM] 78 false 0 0) /\
  ∃v,s.get 10=some (.cells [.str kind,.int .i64 a,.int .i64 b,.int .i64 mi,.int .i64 ma,.str pat,v] 78 false 0 0)/\ZF s 11 78 7 i ((kids.take i).flatMap fun c=>(Zt c.norm).cells) v) 0 ?_ rfl ?_
 ·rintro L i e s ⟨hi,h2,h3,h20,h21,h22,hn,SA,af,v,ya,hv⟩ IH;have ne:∀a k,a<=10->(s.next+1+k=a)=False:=fun a k ha=>by simp;omega
  have ne':∀a,a<=10->(s.next=a)=False:=fun a ha=>by simp;omega
  have n5:(s.next=s.next+1+4)=False:=by simp;omega
  have n5':(s.next+1+4=s.next)=False:=by simp;omega
  have hf5:s.get (s.next+1+4)=none:=SA _ (by omega);by_cases hd:i<kids.length
  ·have hx:UC 7 (ZG nl (VJ kids)) (.int .i64 (i:Int))=some (.fp kids[i].cells 0):=by
    have:=VR 7 nl (VJ kids) .i64 i (Zt kids[i]) (by omega) (by rw[ajD,UA,aaa hd];rfl) (by rw[ZN];rfl) (by decide);rw[ZN] at this;exact this
   have hw:=ZE hd (by omega);have hc:=ih kids[i] (ajc hd) (f3 _ (ajc hd));rw[ZN,ZN] at hc;simp only[ZX.cells] at hx hc;have Un:(i+1)*88<=1099511627776:=by omega
   have VD:i+1<=1099511627776:=by omega
   have KA:(kids.take (i+1)).flatMap (fun c=>(Zt c.norm).cells)=(kids.take i).flatMap (fun c=>(Zt c.norm).cells)++kids[i].norm.cells:=by
    rw[ajC hd,List.flatMap_append,List.flatMap_singleton,ZN];rfl
   simp only[ZX.cells] at KA;have Qf:=hv.Xg;have Ub:=hv.Zx;simp only[go_sem,Ii,h2,h3,h20,h21,h22,af,ya,Z9,hd,Yt,hx,hc,ne,ne',n5,n5',hf5,ZW,ZD,Nat.reducePow,ajB,Qf,Ub,Un,VD];generalize hZ:Vr.cells [AV.str [],.int .i64 0,.int .i64 0,.int .i64 0,.int .i64 0,.str [],.ZM] 106 false 0 0=Z;generalize hC:Vr.cells [AV.str kids[i].kind,.int .i64 kids[i].a,.int .i64 kids[i].b,.int .i64 kids[i].mi,.int .i64 kids[i].ma,.str kids[i].pat,ZG kids[i].nl (VJ kids[i].kids)] 106 false 0 0=C;have hN:∀W,((((s.new Z).put s.next C).upto (s.next+1+8)).put (s.next+1+4) W).next=s.next+9:=fun W=>by rw[Z_,ZV]
   have hG:∀W j,j<s.next->((((s.new Z).put s.next C).upto (s.next+1+8)).put (s.next+1+4) W).get j=s.get j:=fun W j hj=>by rw[Z0,if_neg (by omega),ZH,Z0,if_neg (by omega),ZY,if_neg (by omega)]
   have hF:∀W,Fr ((((s.new Z).put s.next C).upto (s.next+1+8)).put (s.next+1+4) W):=fun W=>((((SA.new _).put (by rw[Z'];omega) _).upto (by rw[Z_,Z'];omega)).put (by rw[ZV];omega) _)
   have Cy:∀W,ZF ((((s.new Z).put s.next C).upto (s.next+1+8)).put (s.next+1+4) W) 11 78 7 i ((kids.take i).flatMap fun c=>(Zt c.norm).cells) v:=fun W=>hv.mono (by rw[hN];omega) fun j _ hj=>hG W j hj
   obtain⟨s1,e1,e2,e3,e4,e5⟩:=(Cy (.cells kids[i].norm.cells 78 false 0 0)).app (by rw[hN];omega) (m:=1) (new:=kids[i].norm.cells) (by omega) (by rfl) (by simp only[ZX.cells,go_sem,ZW]);have k9:=(e4 9 (by omega)).trans (hG _ 9 (by omega));have zn:=(e4 10 (by omega)).trans (hG _ 10 (by omega));have e5':=e5 (hF _);rw[hN] at e2 e3;simp only[ZX.cells] at e1 e3 e4 e5';rw[hN] at e1;rw[af] at k9;rw[ya] at zn;rw[e1];simp only[go_sem,h3,zn,ZW,hw,h22];refine IH (i+1) _ _ (by omega) ⟨by omega,?_,?_,?_,?_,?_,?_,?_,?_,.sl (s.next+9) 0 (i+1) none 7,?_,?_⟩
   case refine_10 =>
    rw[KA];exact e3.mono (by rw[Z_];omega) fun j hj _=>by rw[Z0,if_neg (by omega)]
   case refine_9=>rw[Z0,if_pos rfl]
   case refine_7=>exact e5'.put (by omega) _
   all_goals simp only[go_sem,h2,h3,h20,h21,k9,e2,hw,Nat.reduceEqDiff]
   all_goals omega
  ·have:i=kids.length:=by omega
   subst this;rw[List.take_length] at hv;have Qm:∀x,ZF (s.put 9 x) 11 78 7 (kids.map ZX.norm).length ((kids.map ZX.norm).flatMap fun c=>(Zt c).cells) v:=fun x=>by
    rw[aje,List.flatMap_map];exact hv.mono (by rw[Z_];omega) fun j hj _=>by rw[Z0,if_neg (by omega)]
   have NA:∀x d,Yc U (s.put 9 x) (d+3) v=some (ZG true (VJ (Wy kids))):=fun x d=>by
    rw[(Qm x).WK U IZ IY (by omega) RK (d:=d+2) (fun a=>P5 _ _ _),Px,Te]
   have Ub:=hv.Zx;simp only[go_sem,Ii,h2,h3,h21,h22,af,ya,Z9,ajp,ZJ,Yt,Ub,NA];rw[Zt]
 ·refine⟨aji _,?_,?_,?_,?_,?_,?_,?_,?_,.ZM,?_,ZF.nil _ _ _ _⟩
  case refine_7 =>
   repeat first|exact Fr.own|apply Fr.new|apply Fr.put|apply Fr.upto
   all_goals simp only[go_sem]
  all_goals simp only[go_sem]
  all_goals rfl
theorem ac6 (p:Prog)(hf:p.fits):Zw U 15 [UU p]=some (UU p.norm):=by
 obtain⟨lines,nl,steps⟩:=p;obtain⟨f1,f2⟩:=hf;simp only at f1 f2;refine ZI ac7 (by kernel_rfl) (by simp[ZO,XX]) ?_;rw[Yg,Prog.norm,Yg];simp only[go_sem,dk,ZJ,Y',ZR,ZW];refine Ym (σ:=Nat) (fun i=>steps.length-i) (fun i=>some (.agg [.int .i64 lines,ZG true (Zr (steps.map Step.norm))])) (fun i e s=>i<=steps.length/\Env.get e 2=.ptr 9 0/\Env.get e 3=.ptr 10 0/\Env.get e 10=ZG nl (Zr steps)/\Env.get e 11=.int .i64 steps.length/\Env.get e 12=.int .i64 (i:Nat)/\10<s.next/\Fr s /\
  s.get 9=some (.cells [.int .i64 0,.ZM] 25 false 0 0) /\
  ∃v,s.get 10=some (.cells [.int .i64 lines,v] 25 false 0 0)/\ZF s 11 113 9 i ((steps.take i).flatMap fun c=>(YM c.norm).cells) v) 0 ?_ rfl ?_
 ·rintro L i e s ⟨hi,h2,h3,h20,h21,h22,hn,SA,af,v,ya,hv⟩ IH;have ne:∀a k,a<=10->(s.next+1+k=a)=False:=fun a k ha=>by simp;omega
  have ne':∀a,a<=10->(s.next=a)=False:=fun a ha=>by simp;omega
  have n5:(s.next=s.next+1+10)=False:=by simp;omega
  have n5':(s.next+1+10=s.next)=False:=by simp;omega
  have hf5:s.get (s.next+1+10)=none:=SA _ (by omega);by_cases hd:i<steps.length
  ·have hx:UC 9 (ZG nl (Zr steps)) (.int .i64 (i:Int))=some (.fp steps[i].TD 0) :=
    VR 9 nl (Zr steps) .i64 i (YM steps[i]) (by omega) (by rw[ajD,WI,aaa hd];rfl) rfl (by decide)
   have hw:=ZE hd (by omega);have hc:=ac4 steps[i].cond (f2 _ (ajc hd));rw[ZN,ZN] at hc;simp only[ZX.cells,Step.TD] at hx hc;have Un:(i+1)*104<=1099511627776:=by omega
   have VD:i+1<=1099511627776:=by omega
   have KA:(steps.take (i+1)).flatMap (fun c=>(YM c.norm).cells)=(steps.take i).flatMap (fun c=>(YM c.norm).cells)++steps[i].norm.TD:=by
    rw[ajC hd,List.flatMap_append,List.flatMap_singleton];rfl
   have Qf:=hv.Xg;have Ub:=hv.Zx;simp only[go_sem,Ih,h2,h3,h20,h21,h22,af,ya,Z9,hd,Y',hx,hc,ne,ne',n5,n5',hf5,ZW,ZD,Nat.reducePow,ajB,Qf,Ub,Un,VD];generalize hZ:Vr.cells [AV.str [],.int .i64 0,.int .i64 0,.int .i64 0,.int .i64 0,.str [],.ZM,.int .i64 0,.int .i64 0] 109 false 0 0=Z;generalize hC:Vr.cells [AV.str steps[i].cond.kind,.int .i64 steps[i].cond.a,.int .i64 steps[i].cond.b,.int .i64 steps[i].cond.mi,.int .i64 steps[i].cond.ma,.str steps[i].cond.pat,ZG steps[i].cond.nl (VJ steps[i].cond.kids),.int .i64 steps[i].times,.int .i64 steps[i].within] 109 false 0 0=C;have hN:∀W,((((s.new Z).put s.next C).upto (s.next+1+14)).put (s.next+1+10) W).next=s.next+15:=fun W=>by rw[Z_,ZV]
   have hG:∀W j,j<s.next->((((s.new Z).put s.next C).upto (s.next+1+14)).put (s.next+1+10) W).get j=s.get j:=fun W j hj=>by rw[Z0,if_neg (by omega),ZH,Z0,if_neg (by omega),ZY,if_neg (by omega)]
   have hF:∀W,Fr ((((s.new Z).put s.next C).upto (s.next+1+14)).put (s.next+1+10) W):=fun W=>((((SA.new _).put (by rw[Z'];omega) _).upto (by rw[Z_,Z'];omega)).put (by rw[ZV];omega) _)
   have Cy:∀W,ZF ((((s.new Z).put s.next C).upto (s.next+1+14)).put (s.next+1+10) W) 11 113 9 i ((steps.take i).flatMap fun c=>(YM c.norm).cells) v:=fun W=>hv.mono (by rw[hN];omega) fun j _ hj=>hG W j hj
   obtain⟨s1,e1,e2,e3,e4,e5⟩:=(Cy (.cells steps[i].norm.TD 113 false 0 0)).app (by rw[hN];omega) (m:=1) (new:=steps[i].norm.TD) (by omega) (by rfl) (by simp only[Step.TD,go_sem,ZW]);have k9:=(e4 9 (by omega)).trans (hG _ 9 (by omega));have zn:=(e4 10 (by omega)).trans (hG _ 10 (by omega));have e5':=e5 (hF _);rw[hN] at e2 e3;simp only[Step.TD,Step.norm] at e1 e3 e4 e5';rw[hN] at e1;rw[af] at k9;rw[ya] at zn;rw[e1];simp only[go_sem,h3,zn,ZW,hw,h22];refine IH (i+1) _ _ (by omega) ⟨by omega,?_,?_,?_,?_,?_,?_,?_,?_,.sl (s.next+15) 0 (i+1) none 9,?_,?_⟩
   case refine_10 =>
    rw[KA];exact e3.mono (by rw[Z_];omega) fun j hj _=>by rw[Z0,if_neg (by omega)]
   case refine_9=>rw[Z0,if_pos rfl]
   case refine_7=>exact e5'.put (by omega) _
   all_goals simp only[go_sem,h2,h3,h20,h21,k9,e2,hw,Nat.reduceEqDiff]
   all_goals omega
  ·have:i=steps.length:=by omega
   subst this;rw[List.take_length] at hv;have Qm:∀x,ZF (s.put 9 x) 11 113 9 (steps.map Step.norm).length ((steps.map Step.norm).flatMap fun c=>(YM c).cells) v:=fun x=>by
    rw[aje,List.flatMap_map];exact hv.mono (by rw[Z_];omega) fun j hj _=>by rw[Z0,if_neg (by omega)]
   have NA:∀x d,Yc U (s.put 9 x) (d+3) v=some (ZG true (Zr (steps.map Step.norm))):=fun x d=>by
    rw[(Qm x).WK U oB oA (by omega) Bq (d:=d+2) (fun a=>Bp _ _ _)];rfl
   have Ub:=hv.Zx;simp only[go_sem,Ih,h2,h3,h21,h22,af,ya,Z9,ajp,ZJ,Y',Ub,NA]
 ·refine⟨aji _,?_,?_,?_,?_,?_,?_,?_,?_,.ZM,?_,ZF.nil _ _ _ _⟩
  case refine_7 =>
   repeat first|exact Fr.own|apply Fr.new|apply Fr.put|apply Fr.upto
   all_goals simp only[go_sem]
  all_goals simp only[go_sem]
  all_goals rfl
def Di (p:Prog)(n m:Int):Bool:=short p 6&&(vC p==0)&&decide (p.lines<=n)&&decide (BE p<=m)
theorem ac8 (p:Prog)(n m:Int):Zw U 13 [UU p,.int .i64 n,.int .i64 m]=some (.bool (Di p n m)):=by
 refine ZI ac9 (by kernel_rfl) (by simp[ZO,XX,still]) ?_;unfold Di;have jq:=c31 p 6
 cases hs:short p 6 with
 |false =>
  rw[hs] at jq;rw[Yg] at jq ⊢;simp only[go_sem,Bo,jq,ZW,ZR,Mr,Mq,Mp,ajZ]
 |true =>
  rw[hs] at jq;have q34:=c34 p (Ny hs)
  cases hb:vC p==0 with
  |false =>
   rw[Yg] at jq q34 ⊢;simp only[go_sem,Bo,jq,q34,hb,ZW,ZR,Mr,Mq,Mp,ajZ,ajF]
  |true =>
   have x9:vC p=0:=by simpa using hb
   have ok:=Mn x9;have q38:=c38 p (Ny hs) (by have:=ok.lines;omega)
   cases hl:decide (p.lines<=n) with
   |false =>
    rw[Yg] at jq q34 ⊢;simp only[go_sem,Bo,jq,q34,hb,hl,ZW,ZR,Mr,Mq,Mp,ajZ,ajF]
   |true =>
    rw[Yg] at jq q34 q38 ⊢;simp only[go_sem,Bo,jq,q34,q38,hb,hl,ZW,ZR,Mr,Mq,Mp,ajZ,ajF]
theorem zM {s:St}{b d n:Nat}{cap:Option Nat}{t:TypeId}{l r:List AV}(hn:n=l.length)(hg:s.get b=some (.cells l t false 0 0))(F1:YB U t=some false)(Wh:size U t=some 1)(Ub:l.all Zx=true)(hf:YT (Xy U s d) l=some r) :
  Xy U s (d+1) (.sl b 0 n cap 1)=some (.fz r):=by
 subst hn;simp only[Xy,hg,ajj,Wi,F1,Wh];rw[if_pos ⟨trivial,by omega,fun _=>⟨trivial,Ub⟩⟩,Vt,hf]
theorem Hl (s:St)(d:Nat)(l:List Int):YT (Xy U s (d+1)) (ints l)=some (ints l):=Vl fun x hx=>by
 obtain⟨b,_,rfl⟩:=ajs.1 hx;rfl
theorem zL (s:St)(d:Nat)(l:List Bool):YT (Xy U s (d+1)) (ZB l)=some (ZB l):=Vl fun x hx=>by
 obtain⟨b,_,rfl⟩:=ajs.1 hx;rfl
theorem TJ.Xy {s:St}{b d:Nat}{c:AV}{l:List AV}{t:TypeId}(h:TJ s b t c l)(F1:YB U t=some false)(Wh:size U t=some 1)(Ub:l.all Zx=true)(hf:YT (Go.Am.Xy U s d) l=some l):Go.Am.Xy U s (d+1) c=some (.fz l):=by
 obtain⟨j,cap,rfl,_,_,_,h5⟩:=h;exact zM rfl h5 F1 Wh Ub hf
theorem ZF.Hm {s:St}{B:Nat}{t:TypeId}{l:List AV}{v:AV}(h:ZF s B t 1 l.length l v)(F1:YB U t=some false)(Wh:size U t=some 1)(Ub:l.all Go.Am.Zx=true)
  {d:Nat}{r:List AV}(hf:YT (Go.Am.Xy U s d) l=some r):Go.Am.Xy U s (d+1) v=some (ZG true r):=by
 rcases h with⟨h0,rfl,_⟩|⟨h0,h1,b,_,_,rfl,hg⟩
 ·have:l=[]:=ajI.1 h0;subst this
  cases hf
  rfl
 ·rw[zM rfl hg F1 Wh Ub hf]
  cases r with
  |nil =>
   cases l with
   |nil=>simp at h0
   |cons x l =>
    rw[YT] at hf
    cases h1:Go.Am.Xy U s d x with
    |none=>rw[h1] at hf;cases hf
    |some y =>
     rw[h1] at hf
     cases h2:YT (Go.Am.Xy U s d) l with
     |none=>rw[h2] at hf;cases hf
     |some z=>rw[h2] at hf;cases hf
  |cons x r=>rfl
theorem T5.Xy {s:St}{b:Nat}{a:YY}{cN cF:List AV}{v w:AV}(h:T5 s b a cN cF v w)(d:Nat):Go.Am.Xy U s (d+3) v=some (ZG true ((NF a.fa (X7 a)).map fun x=>AV.fz (ZA x.2)))/\Go.Am.Xy U s (d+3) w=some (ZG true ((NF a.fa (X7 a)).map fun x=>AV.fz (ZB (Wg a.fa x.1)))) :=
 ⟨h.v.Hm vP vO h.na.1 (d:=d+2) (S9 h.ln fun j h1 h'=>(h.bn j h' h1).Xy DP DO (VB _) (Hl _ _ _)),h.w.Hm vM vL h.na.2 (d:=d+2) (S9 h.lf fun j h1 h'=>(h.bf j h' h1).Xy tg tf (T4 _) (zL _ _ _))⟩
end Go.Am
