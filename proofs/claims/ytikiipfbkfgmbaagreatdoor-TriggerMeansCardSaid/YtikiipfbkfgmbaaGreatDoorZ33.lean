/- A part of the proof of a statement of this seat: the machine on which the program is read, and what it computes; for every input. -/
import Derived.Test.YtikiipfbkfgmbaaGreatDoorZ06
import Derived.Test.YtikiipfbkfgmbaaGreatDoorZ23
import Derived.Test.YtikiipfbkfgmbaaGreatDoorZ16
import Derived.Test.YtikiipfbkfgmbaaGreatDoorZ14
import Derived.Test.YtikiipfbkfgmbaaGreatDoorZ29
import Derived.Test.YtikiipfbkfgmbaaGreatDoorZ17
set_option linter.all false
namespace Go.Am
open Go
variable [Z4]
set_option maxRecDepth 100000
set_option maxHeartbeats 4000000
theorem anh {l:List Int}{S:List Step}{i a:Nat}(h:a<S.length):Ha l S i a=atR l i S[a].cond:=by unfold Ha;rw[aaa h]
theorem Prog.ok.wf {p:Prog}(h:p.ok):∀s∈p.steps,s.cond.wf:=fun s hs=>kR h.lines.1 h.lines.2 s.cond 1 (h.cond s hs)
theorem dU (s:St)(l:List Z5):CRow s (.fz (l.map Zw)) l:=by
 refine⟨by rw[<-WH,ZI,agC],fun i h=>⟨.fp l[i].cells 0,?_,fun s' _=>?_⟩,rfl,rfl⟩
 ·have:=Vr 7 false (l.map Zw) .i64 i (Zw l[i]) (by omega) (by rw[amn,alV,aaa h];rfl) (by rw[ZV];rfl) (by decide);rw[WH,ZV] at this;exact this
 ·rw[ZV];simp only[Z5.cells];simp only[go_sem]
theorem sB {l:List Z5}(h:∀c∈l,c.wf)(ZC:l≠[]):ZJ l≠[]:=by
 cases l with
 |nil=>exact absurd rfl ZC
 |cons c l =>
  rw[ZJ];intro e;exact CD c (h c (aba ..)) (List.append_eq_nil_iff.1 e).1
theorem ZK.kQ {s:St}{B:Nat}{t:TypeId}{n i:Nat}{cs:List AV}{v:AV}(h:ZK s B t n i cs v)(hi:i≠0):still v=false:=by
 rcases h with⟨h0,_,_⟩|⟨_,_,b,_,_,rfl,_⟩
 ·exact absurd h0 hi
 ·rfl
def amY (p:Prog)(l:List Int):AV :=
 bif lZ p != 0 then .XU [.ZW,.int .i64 (lZ p)] else bif aai p.lines l != 0 then .XU [.ZW,.int .i64 (aai p.lines l)] else .XU [ZG true (ints (vn l p.steps)),.int .i64 0]
theorem c32 (p:Prog)(hf:p.fits)(hL:(ZJ (p.steps.map Step.cond)).length<=2^20)(nl:Bool)(l:List Int):ZE U 32 [Vw p,ZG nl (ints l)]=some (amY p l):=by
 refine ZR k32 (by kernel_rfl) (by simp[ZU,X',X7]) ?_;unfold amY;have h64:=c64 p hf
 cases hw:lZ p != 0 with
 |true =>
  rw[X9] at h64 ⊢;simp only[go_sem,r32,h64,hw]
 |false =>
  have hw0:lZ p=0:=by simpa using hw
  have ok:=s9 ((s8 p).symm.trans hw0);have B_:=ok.lines;have h91:=c91 nl l p.lines B_.1 B_.2;have h98:=c98 p hf.1;rw[hw0] at h64
  cases hg:aai p.lines l != 0 with
  |true =>
   rw[X9] at h64 ⊢;simp only[go_sem,r32,h64,h91,hg]
  |false =>
   have hg0:aai p.lines l=0:=by simpa using hg
   have abD:=aoH B_.2 hg0;have S3:=ok.wf;have ZC:0<p.steps.length:=List.length_pos_iff.2 ok.ne;have hCw:∀c∈p.steps.map Step.cond,c.wf:=fun c hc=>by
    obtain⟨s,hs,rfl⟩:=alN.1 hc;exact S3 s hs
   have abp:p.steps.map Step.cond≠[]:=by simpa using ok.ne
   have abk:=sB hCw abp;rw[QM abp] at h98;rw[hg0] at h91;rw[X9] at h64 h98 ⊢;simp only[go_sem,r32,h64,h91,h98,ahY];generalize hX:Uy.cells [.int .i64 p.lines,ZG p.nl (Zx p.steps)] 25 false 0 0=X;have hg8:((X8 U).new X).get 8=some X:=by simp only[go_sem]
   have aej:((X8 U).new X).next=9:=by simp only[go_sem]
   obtain⟨s',lv,sv,st,e1,e2,e3,e4,R1,R2,R3⟩:=c92 ((X8 U).new X) (.fz ((p.steps.map Step.cond).map Zw)) (p.steps.map Step.cond) hCw (by rw[agC];have:=ok.few;omega) hL (dU _ _) (Fr.own.new _);rw[aej] at e3 e4 R1 R2 R3;rw[e1];have na1:=R1.Zz;have na2:=R2.Zz;have hc8:=(e4 8 (by omega)).trans hg8;simp only[go_sem,na1,na2,ZI,YK];have j9:∀(z1 z2 z3:Uy) j,j<s'.next->(((s'.new z1).put s'.next z2).new z3).get j=s'.get j:=fun z1 z2 z3 j hj=>by rw[Z7,Z',Z_,if_neg (by omega),Z9,if_neg (by omega),Z7,if_neg (by omega)]
   have hlz:(ZJ (p.steps.map Step.cond)).length≠0:=fun e=>abk (al6.1 e)
   refine l32 nl l abD p ZC ok.few S3 hL _ s'.next (by omega) ?tS (.fz ((p.steps.map Step.cond).map Zw)) lv sv ?hm ?gp ?gm ?ga ?frm (R1.kQ hlz) ?hk (stv:=st) ?amW ?_ ?_ ?_ ?_ ?_ ?_ ?_ ?_ ?_
   case tS=>rw[Z_,Z',Z_]
   case gp=>rw[j9 _ _ _ _ (by omega),hc8,<-hX]
   case gm=>rw[Z7,Z',Z_,if_neg (by omega),Z9,if_pos rfl]
   case ga=>rw[Z7,Z',Z_,if_pos rfl]
   case frm=>exact ((e2.new _).put (by rw[Z_];omega) _).new _
   case hm =>
    intro s2 S4 rD;have K:∀{t:TypeId} {n k:Nat} {cs:List AV} {w:AV},ZK s' 11 t n k cs w->ZK s2 11 t n k cs w:=fun h=>h.mono (by omega) fun j _ hj=>by rw[S4 j (by omega),j9 _ _ _ _ hj]
    have f2:=(K R1).Vi U Ej Ei (by omega) OS (d:=38) (fun a=>LG _ _ _);have f3:=(K R2);have f3:ZK s2 11 234 1 ((ZJ (p.steps.map Step.cond)).map WO).length ((ZJ (p.steps.map Step.cond)).map WO) sv:=by rw[agC];exact f3
    have f3:=f3.Ub U abd abe (by rw[alK];intro x hx;obtain⟨y,_,rfl⟩:=alN.1 hx;exact IP y) (d:=38) (qT s2 35 _);rw[Vi,Xn,Bz,Xn,f2,Xn,f3,RF,QM abk,QM abk];rfl
   case hk =>
    intro e s v h10 hv;have Rk:=hv.Ua 37;simp only[go_sem,h10,Rk]
   case amW =>
    intro s2 S4 rD;have K:ZK s2 11 3 1 ((ZJ (p.steps.map Step.cond)).map VW).length (ints ((ZJ (p.steps.map Step.cond)).map VW)) st:=by
     rw[agC];exact R3.mono (by omega) fun j _ hj=>by rw[S4 j (by omega),j9 _ _ _ _ hj]
    have f:=K.Ua 38;rw[f,ints,QM (by simpa using abk)]
   all_goals simp only[go_sem]
   all_goals rfl
theorem F9 (lines:Int):∀(l:List Step) (i:Nat),Ls lines i (l.map Step.norm)=Ls lines i l
 |[],_=>rfl
 |s::l,i=>by
  rw[alT,Ls,Ls,F9 lines l (i+1)];simp only[Step.norm,qL]
theorem Ds (p:Prog):At p.norm=At p:=by
 rw[At,At,Prog.norm];simp only[agC,F9]
theorem F8 {p:Prog}(h:p.fits):p.norm.fits:=by
 refine⟨by rw[Prog.norm];simp only[agC];exact h.1,fun s hs=>?_⟩;rw[Prog.norm] at hs;obtain⟨y,hy,rfl⟩:=alN.1 hs;exact wz _ (h.2 y hy)
theorem F7 {n:Nat}:∀(l:List Z5),(∀c∈l,(Ve c).length<=n)->(ZJ l).length<=l.length*n
 |[],_=>by simp[ZJ]
 |c::l,h=>by
  have h1:=h c (aba ..);have h2:=F7 l fun x hx=>h x (aab _ hx)
  rw[ZJ,agy,akd,Nat.succ_mul];omega
theorem al_ (W T:Nat->Int)(n:Nat)(H:Nat->Nat->Bool):∀(r t:Nat) (c:aD),(trR W T n H r t c).length<=r
 |0,_,_=>agB _
 |r+1,t,(a,k,g)=>by
  rw[trR];have:=al_ W T n H r (t+1) (rfP W T n (H t) t a k g).1
  cases (rfP W T n (H t) t a k g).2 with
  |true=>simp only[cond_true,akd];omega
  |false=>simp only[cond_false];omega
theorem aot (l:List Int)(p:Prog)(h:p.ok):vn l p.norm.steps=E9 l p.steps:=by
 have hw:∀s∈p.norm.steps,s.cond.wf:=fun s hs=>by
  rw[Prog.norm] at hs;obtain⟨y,hy,rfl⟩:=alN.1 hs;exact eN _ (h.wf y hy)
 rw[pc l _ hw];rw[show p.norm.steps=p.steps.map Step.norm from rfl,aoI];refine cr l p.steps ?_ (List.length_pos_iff.2 h.ne);unfold Wn
 cases hs:p.steps[0]? with
 |none=>simp
 |some s =>
  have:=h.first s hs;simp only[this];omega
end Go.Am
