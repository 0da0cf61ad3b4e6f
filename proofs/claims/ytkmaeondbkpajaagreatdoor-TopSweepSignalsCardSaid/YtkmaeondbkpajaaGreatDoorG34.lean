/- A part of the proof of a statement of this seat: the machine on which the program is read, and what it computes; for every input. -/
import Derived.Test.YtkmaeondbkpajaaGreatDoorG32
import Derived.Test.YtkmaeondbkpajaaGreatDoorG33
import Derived.Test.YtkmaeondbkpajaaGreatDoorG20
set_option linter.all false
namespace Go.Am
open Go
variable [ZZ]
set_option maxRecDepth 100000
set_option maxHeartbeats 8000000
theorem kF:Zw U 14 []=some (.bool true):=I9 (by kernel_rfl) rfl (RQ U awG)
theorem ahY {p:Prog}{A:YY}{L:Nat}(hL:L=1\/L=2)(Tz:p.lines=(L:Nat))(pU:p.norm.fits)(vR:(ZQ (p.norm.steps.map Step.cond)).length<=2^20)(rT:xW p.norm=0)(hA:A.ok)(hAl:A.lines=p.lines)(ig:Jy A=0)
  (hT:∀l,DB L l->(Yb A.fa l l.length 0 0).1=UR l p.norm.steps):iF p A L:=by
 have hg:∀l,DB L l->U0 p.norm.lines l=0:=fun l hl=>by
  have:p.norm.lines=(L:Nat):=Tz;rw[this];exact wA (by omega) hl
 have hc:∀l,DB L l->VY A l=0:=fun l hl=>by
  unfold VY;have:=hg l hl;have e:A.lines=p.norm.lines:=hAl;rw[ig,e,this];rfl
 have hN:A.next.length<=2^40:=by have:=hA.few;omega
 have hr:∀r∈A.next,r.2.length<=2^40:=fun r hr=>by
  obtain⟨i,hi,rfl⟩:=ajw.1 hr;have h1:=(hA.row i hi).1;have h2:=Nat.pow_le_pow_right (n:=2) (by omega) (show A.lines.toNat<=4 by have:=hA.lines;omega);omega
 refine⟨hA,by rw[hAl,Tz],fun l s B v hl hv=>?_,fun l s B v hl hv=>?_,fun l s B v hl hv=>?_⟩
 ·have:=ahw pU vR rT (hg l hl) hv;rw[Yg,<-hT l hl] at this;exact this
 ·have:=ahx hN hr (hc l hl) hv;rw[WT] at this;exact this
 ·have:=ahy hN hr (hc l hl) hv;rw[WT] at this;exact this
theorem acY (p:Prog)(b:Nat)(hb:b<256):Zw U 4 [UU p,.int .u8 (b:Nat)]=some (.bool true):=by
 have aw:=kF;refine ZI aeg (by kernel_rfl) (by simp[ZO,XX,still]) ?_;have yw:=ac8 p 2 120
 cases hs:Di p 2 120 with
 |false =>
  rw[hs] at yw;rw[Yg] at yw ⊢;simp only[go_sem,mQ,aw,yw,ZW,ZR]
 |true =>
  rw[hs] at yw;unfold Di at hs;simp only[adm,decide_eq_true_iff,beq_iff_eq] at hs;obtain⟨⟨⟨SF,x9⟩,LB⟩,Wh⟩:=hs;have ok:=Mn x9;rw[size_eq ok] at Wh;have hf:=Ny SF;have pU:=HB hf;obtain⟨pn,_,vR⟩:=mS (by decide) SF;obtain⟨L,Tz,hL⟩:∃L:Nat,p.lines=(L:Nat)/\(L=1\/L=2):=⟨p.lines.toNat,by have:=ok.lines;omega,by have:=ok.lines;omega⟩;have hcp:xW p.norm=0:=by rw[Bk,EF,x9]
  have hS:=S4 ok;have hl:1<=p.lines/\p.lines<=4:=⟨ok.lines.1,by omega⟩;have hzn:=uy ok ok.wf hl.2 (n:=(Rt p).toNat) (by omega) (Int.self_le_toNat _);have hX:=il hS hl (by omega);have afa:=xt hX;have hAs:=qB ok hl (by omega);have hAt:=fun l (h:AI (2^p.lines.toNat) l)=>wK ok hl (by omega) h
  have q16:=mR hf x9 vR (by omega) (by omega);have hAl:(YW (PR p.lines (U7 p.steps) (PS p.steps (2^p.lines.toNat)))).lines=p.lines:=rfl;generalize hA:YW (PR p.lines (U7 p.steps) (PS p.steps (2^p.lines.toNat)))=A at *;have hle:A.next.length<=120:=by omega
  have ig:=f_ afa (by omega);have C:iF p A L:=ahY hL Tz pU vR hcp afa hAl ig fun l h=>by
   rw[rS l p ok];refine hAt l ⟨by have:=h.1;omega,fun x hx=>?_⟩;have:=h.2 x hx;rw[Tz,ajD];push_cast;exact this
  have q17:=c50 A;rw[ig] at q17;have q15:=ac6 p hf;rw[decide_eq_false (by omega),cond_false] at q16;have nn:Zx (U6 A)=true:=ZW A.TN (A.next.map Zi);have nf:Zx (Xd A)=true:=ZW A.Tc (A.ZC.map Zq);have cn:(U6 A).cells=[U6 A]:=ZR A.TN (A.next.map Zi);have cf:(Xd A).cells=[Xd A]:=ZR A.Tc (A.ZC.map Zq);have hpn:UU p.norm=.agg [.int .i64 p.lines,ZG true (Zr p.norm.steps)]:=Yg p.norm;rw[hpn] at q15 q16;rw[WT,hAl] at q16 q17;rw[Yg p] at yw q15 ⊢;have h00:((0:Int) != 0)=false:=rfl;have J8:(p.lines != p.lines)=false:=by simp
  have w0:IntKind.i64.wrap ((b:Nat):Int)=(b:Int):=by rw[wrap_i64] <;> omega
  have w1:IntKind.i64.wrap (2*p.lines)=2*p.lines:=by rw[wrap_i64] <;> omega
  have w2:IntKind.i64.wrap (7-2*p.lines)=7-2*p.lines:=by rw[wrap_i64] <;> omega
  have w3:IntKind.i64.wrap (7-2*p.lines+1)=((8-2*L:Nat):Int):=by rw[wrap_i64] <;> omega
  have ahZ:=kK U 3 false b (8-2*L) (by omega);have ai6:=Nat.mod_lt b (show 0<8-2*L by omega);have hn:L*(b%(8-2*L))<=6:=by
   rcases hL with rfl|rfl
   ·omega
   ·omega
  generalize b%(8-2*L)=n at *;simp only[go_sem,mQ,aw,yw,q15,q16,q17,hAl,h00,J8,w0,w1,w2,w3,ahZ,nn,nf,cn,cf,ZW,ZR];refine eD hL Tz hn (x2:=.ptr 8 0) (x5:=.ptr 9 0) (x6:=.ptr 10 0) (x8:=.int .i64 (n:Nat)) rfl ?_ ?_ ?_ ?_ ?_ ?_ ?_ ?_ ?_
  case refine_9 =>
   intro e' tt ht k2 k5 k6 k8 k9;simp only[go_sem,uh,k9];refine eu hL Tz hn C (tt:=tt) ht ⟨?_,?_,?_,?_,?_⟩ ?_ ?_ ?_ ?_ ?_ ?_ ?_ ?_ ?_
   case refine_14 =>
    intro e2 s2;simp only[go_sem,aw]
   case refine_5 =>
    repeat first|exact Fr.own|apply Fr.new|apply Fr.put|apply Fr.upto
    all_goals simp only[go_sem]
   all_goals simp only[go_sem,k2,k5,k6,k8,k9,hAl]
   all_goals first|rfl|omega
  all_goals simp only[go_sem]
  all_goals rfl
end Go.Am
