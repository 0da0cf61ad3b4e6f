/- A part of the proof of a statement of this seat: the machine on which the program is read, and what it computes; for every input. -/
import Derived.Test.YtkmaeondbkpajaaGreatDoorG05
import Derived.Test.YtkmaeondbkpajaaGreatDoorG17
import Derived.Test.YtkmaeondbkpajaaGreatDoorG15
import Derived.Test.YtkmaeondbkpajaaGreatDoorG13
import Derived.Test.YtkmaeondbkpajaaGreatDoorG16
set_option linter.all false
namespace Go.Am
open Go
variable [ZZ]
set_option maxRecDepth 100000
set_option maxHeartbeats 4000000
theorem Prog.ok.wf {p:Prog}(h:p.ok):∀s∈p.steps,s.cond.wf:=fun s hs=>nG h.lines.1 h.lines.2 s.cond 1 (h.cond s hs)
theorem ux (s:St)(l:List ZX):CRow s (.fz (l.map Zt)) l:=by
 refine⟨by rw[<-QD,ZJ,aje],fun i h=>⟨.fp l[i].cells 0,?_,fun s' _=>?_⟩,rfl,rfl⟩
 ·have:=VR 7 false (l.map Zt) .i64 i (Zt l[i]) (by omega) (by rw[ajD,ajv,aaa h];rfl) (by rw[ZN];rfl) (by decide);rw[QD,ZN] at this;exact this
 ·rw[ZN];simp only[ZX.cells];simp only[go_sem]
theorem CZ {l:List ZX}(h:∀c∈l,c.wf)(Zv:l≠[]):ZQ l≠[]:=by
 cases l with
 |nil=>exact absurd rfl Zv
 |cons c l =>
  rw[ZQ];intro e;exact DX c (h c (aba ..)) (List.append_eq_nil_iff.1 e).1
theorem ZF.HF {s:St}{B:Nat}{t:TypeId}{n i:Nat}{cs:List AV}{v:AV}(h:ZF s B t n i cs v)(hi:i≠0):still v=false:=by
 rcases h with⟨h0,_,_⟩|⟨_,_,b,_,_,rfl,_⟩
 ·exact absurd h0 hi
 ·rfl
def aay (p:Prog)(l:List Int):AV :=
 bif xW p != 0 then .XF [.ZM,.int .i64 (xW p)] else bif U0 p.lines l != 0 then .XF [.ZM,.int .i64 (U0 p.lines l)] else .XF [ZG true (ints (UR l p.steps)),.int .i64 0]
theorem o32 {β:Type}{fin:Fl->β}{Zu:β->Prop}(p:Prog)(hf:p.fits)(hL:(ZQ (p.steps.map Step.cond)).length<=2^20)(nl:Bool)(l:List Int)(rT:xW p=0)(nF:U0 p.lines l=0)
  (hk:∀e s w B,Env.get e 4=w->Env.get e 5=.int .i64 0->ZF s B 3 1 (UR l p.steps).length (ints (UR l p.steps)) w->Zu (fin (some (.ret,e,s)))) :
  Zu (go U fin [] r32 (Zc 0 [UU p,ZG nl (ints l)] .nil) (Yl U)):=by
 have h64:=c64 p hf;have ok:=Mn ((Bk p).symm.trans rT);have LB:=ok.lines;have h91:=c91 nl l p.lines LB.1 LB.2;have h98:=c98 p hf.1;rw[rT] at h64;have agN:=nE LB.2 nF;have QZ:=ok.wf;have Zv:0<p.steps.length:=List.length_pos_iff.2 ok.ne;have jo:∀c∈p.steps.map Step.cond,c.wf:=fun c hc=>by
  obtain⟨s,hs,rfl⟩:=ajs.1 hc;exact QZ s hs
 have nD:p.steps.map Step.cond≠[]:=by simpa using ok.ne
 have AL:=CZ jo nD;rw[WC nD] at h98;rw[nF] at h91;rw[Yg] at h64 h98 ⊢;simp only[go_sem,r32,h64,h91,h98,ZW,ZR,acR];generalize hX:Vr.cells [.int .i64 p.lines,ZG p.nl (Zr p.steps)] 25 false 0 0=X;have hg8:((Yl U).new X).get 8=some X:=by simp only[go_sem]
 have agO:((Yl U).new X).next=9:=by simp only[go_sem]
 obtain⟨s',lv,sv,st,e1,e2,e3,e4,R1,R2,R3⟩:=c92 ((Yl U).new X) (.fz ((p.steps.map Step.cond).map Zt)) (p.steps.map Step.cond) jo (by rw[aje];have:=ok.few;omega) hL (ux _ _) (Fr.own.new _);rw[agO] at e3 e4 R1 R2 R3;rw[e1];have dw:=R1.Zx;have ia:=R2.Zx;have hc8:=(e4 8 (by omega)).trans hg8;simp only[go_sem,dw,ia,ZJ,Zl];have hsm:∀(z1 z2 z3:Vr) j,j<s'.next->(((s'.new z1).put s'.next z2).new z3).get j=s'.get j:=fun z1 z2 z3 j hj=>by rw[ZY,Z_,Z',if_neg (by omega),Z0,if_neg (by omega),ZY,if_neg (by omega)]
 have hlz:(ZQ (p.steps.map Step.cond)).length≠0:=fun e=>AL (ajI.1 e)
 refine l32 (Zu:=Zu) nl l agN p Zv ok.few QZ hL _ s'.next (by omega) ?Ca (.fz ((p.steps.map Step.cond).map Zt)) lv sv ?hm ?gp ?gm ?ga ?frm (R1.HF hlz) ?hk (pW:=st) ?gT ?_ ?_ ?_ ?_ ?_ ?_ ?_ ?_ ?_
 case Ca=>rw[Z',Z_,Z']
 case gp=>rw[hsm _ _ _ _ (by omega),hc8,<-hX]
 case gm=>rw[ZY,Z_,Z',if_neg (by omega),Z0,if_pos rfl]
 case ga=>rw[ZY,Z_,Z',if_pos rfl]
 case frm=>exact ((e2.new _).put (by rw[Z'];omega) _).new _
 case hm =>
  intro s2 Se qf;have K:∀{t:TypeId} {n k:Nat} {cs:List AV} {w:AV},ZF s' 11 t n k cs w->ZF s2 11 t n k cs w:=fun h=>h.mono (by omega) fun j _ hj=>by rw[Se j (by omega),hsm _ _ _ _ hj]
  have f2:=(K R1).WK U IZ IY (by omega) RK (d:=38) (fun a=>P5 _ _ _);have f3:=(K R2);have f3:ZF s2 11 218 1 ((ZQ (p.steps.map Step.cond)).map XD).length ((ZQ (p.steps.map Step.cond)).map XD) sv:=by rw[aje];exact f3
  have f3:=f3.Sz U oK oJ (by rw[ajq];intro x hx;obtain⟨y,_,rfl⟩:=ajs.1 hx;exact So y) (d:=38) (Fg s2 35 _);rw[WK,Yf,HD,Yf,f2,Yf,f3,Us,WC AL,WC AL];rfl
 case hk =>
  intro e s v h10 hv;simp only[go_sem,h10];refine hk _ _ v _ ?_ ?_ hv <;> simp only[go_sem,h10]
 case gT =>
  intro s2 Se qf;have K:ZF s2 11 3 1 ((ZQ (p.steps.map Step.cond)).map XI).length (ints ((ZQ (p.steps.map Step.cond)).map XI)) st:=by
   rw[aje];exact R3.mono (by omega) fun j _ hj=>by rw[Se j (by omega),hsm _ _ _ _ hj]
  have f:=K.U_ 38;rw[f,ints,WC (by simpa using AL)]
 all_goals simp only[go_sem,ZJ,Zl]
 all_goals rfl
theorem c32 (p:Prog)(hf:p.fits)(hL:(ZQ (p.steps.map Step.cond)).length<=2^20)(nl:Bool)(l:List Int):Zw U 18 [UU p,ZG nl (ints l)]=some (aay p l):=by
 refine ZI k32 (by kernel_rfl) (by simp[ZO,XX,YZ,still]) ?_;unfold aay;have h64:=c64 p hf
 cases hw:xW p != 0 with
 |true =>
  rw[Yg] at h64 ⊢;simp only[go_sem,r32,h64,hw,ZW,ZR]
 |false =>
  have rT:xW p=0:=by simpa using hw
  have ok:=Mn ((Bk p).symm.trans rT);have LB:=ok.lines;have h91:=c91 nl l p.lines LB.1 LB.2;rw[rT] at h64
  cases hg:U0 p.lines l != 0 with
  |true =>
   rw[Yg] at h64 ⊢;simp only[go_sem,r32,h64,h91,hg,ZW,ZR]
  |false =>
   have nF:U0 p.lines l=0:=by simpa using hg
   refine o32 (Zu:=fun x=>x=some (AV.XF [ZG true (ints (UR l p.steps)),.int .i64 0])) p hf hL nl l rT nF fun e s w B h4 h5 hv=>?_
   have NA:=hv.U_ 37;simp only[go_sem,h4,h5,NA]
theorem HC (lines:Int):∀(l:List Step) (i:Nat),MV lines i (l.map Step.norm)=MV lines i l
 |[],_=>rfl
 |s::l,i=>by
  rw[aju,MV,MV,HC lines l (i+1)];simp only[Step.norm,sB]
theorem EF (p:Prog):vC p.norm=vC p:=by
 rw[vC,vC,Prog.norm];simp only[aje,HC]
theorem HB {p:Prog}(h:p.fits):p.norm.fits:=by
 refine⟨by rw[Prog.norm];simp only[aje];exact h.1,fun s hs=>?_⟩;rw[Prog.norm] at hs;obtain⟨y,hy,rfl⟩:=ajs.1 hs;exact xX _ (h.2 y hy)
theorem HA {n:Nat}:∀(l:List ZX),(∀c∈l,(Wd c).length<=n)->(ZQ l).length<=l.length*n
 |[],_=>by simp[ZQ]
 |c::l,h=>by
  have h1:=h c (aba ..);have h2:=HA l fun x hx=>h x (aab _ hx)
  rw[ZQ,ajh,ajk,Nat.succ_mul];omega
theorem rS (l:List Int)(p:Prog)(h:p.ok):UR l p.norm.steps=xG l p.steps:=by
 have hw:∀s∈p.norm.steps,s.cond.wf:=fun s hs=>by
  rw[Prog.norm] at hs;obtain⟨y,hy,rfl⟩:=ajs.1 hs;exact vz _ (h.wf y hy)
 rw[EW l _ hw];rw[show p.norm.steps=p.steps.map Step.norm from rfl,AK];refine AJ l p.steps ?_ (List.length_pos_iff.2 h.ne);unfold Wn
 cases hs:p.steps[0]? with
 |none=>simp
 |some s =>
  have:=h.first s hs;simp only[this];omega
end Go.Am
