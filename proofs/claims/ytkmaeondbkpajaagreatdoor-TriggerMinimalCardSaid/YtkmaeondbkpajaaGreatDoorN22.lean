/- A part of the proof of a statement of this seat: the machine on which the program is read, and what it computes; for every input. -/
import Derived.Test.YtkmaeondbkpajaaGreatDoorN19
import Derived.Test.YtkmaeondbkpajaaGreatDoorN21
import Derived.Test.YtkmaeondbkpajaaGreatDoorN18
set_option linter.all false
namespace Go.Am
open Go
variable [Z3]
set_option maxRecDepth 100000
set_option maxHeartbeats 8000000
theorem abO {a b:ZN}(ha:a.ok)(hb:b.ok)(VD:a.lines=b.lines){c x:Nat}(hc:c<(Zn a.fa b.fa).n)(hx:x<2^a.lines.toNat){A0 B0:Nat}{s:St}(Gl:A0<s.next)(hlB:B0<s.next)(gA:s.get A0=some (.cells [.int .i64 a.lines,ZP a.YC (a.next.map ZX),ZP a.Yx (a.Z4.map ZY)] 42 false 0 0))(gB:s.get B0=some (.cells [.int .i64 b.lines,ZP b.YC (b.next.map ZX),ZP b.Yx (b.Z4.map ZY)] 42 false 0 0))(fr:Fr s) :
  ∃s',WW U 148 [.agg (Zc b.fa.n c),.int .i64 (x:Nat),.ptr A0 0,.ptr B0 0] s=some (.bool (rC a b c x),s')/\(∀j,j<s.next->s'.get j=s.get j)/\s.next<=s'.next/\Fr s':=by
 suffices TK:∃o,go U (XZ U [.tmp 6]) [] lg (ZM 0 [.agg (Zc b.fa.n c),.int .i64 (x:Nat),.ptr A0 0,.ptr B0 0] .nil) s=some o/\o.1=.bool (rC a b c x)/\(∀j,j<s.next->o.2.get j=s.get j)/\s.next<=o.2.next/\Fr o.2 by
  obtain⟨⟨v,s'⟩,h1,h2,h3⟩:=TK;simp only at h2;subst h2;exact⟨s',Y3 abP (by kernel_rfl) h1,h3⟩
 have Bo:c / b.fa.n<a.next.length:=Nat.div_lt_of_lt_mul (by rw[Nat.mul_comm];exact hc);have P9:c%b.fa.n<b.next.length:=Nat.mod_lt _ hb.pos;have n3:=ha.qT Bo hx;have n4:=hb.qT P9 (by rw[<-VD];exact hx);have r3:=Xh (nl:=a.Yx) (l:=a.Z4) (i:=c / b.fa.n) (by rw[ha.fl];exact Bo);have r4:=Xh (nl:=b.Yx) (l:=b.Z4) (i:=c%b.fa.n) (by rw[hb.fl];exact P9);have f1:∀q,(s.next+q=A0)=False:=fun q=>by simp;omega
 have f2:∀q,(s.next+q=B0)=False:=fun q=>by simp;omega
 have f1':(s.next=A0)=False:=by simp;omega
 have f2':(s.next=B0)=False:=by simp;omega
 unfold Zc;simp only[go_sem,lg,gA,gB,n3,n4,r3,r4,Hb,f1,f2,f1',f2'];exact⟨_,rfl,rfl,fun j h=>by rw[Z0,ZZ,if_neg (by omega)],by rw[Z_];omega,(fr.new _).upto (by rw[Z'];omega)⟩
theorem ld {a b:ZN}(ha:a.ok)(hb:b.ok)(VD:a.lines=b.lines){A0 B0 N:Nat}(hA:A0<N)(hB:B0<N):dD (.fn (.func 148) [] [.ptr A0 0,.ptr B0 0]) b.fa.n N Unit (fun _ s=>A0<s.next/\B0<s.next/\s.get A0=some (.cells [.int .i64 a.lines,ZP a.YC (a.next.map ZX),ZP a.Yx (a.Z4.map ZY)] 42 false 0 0)/\s.get B0=some (.cells [.int .i64 b.lines,ZP b.YC (b.next.map ZX),ZP b.Yx (b.Z4.map ZY)] 42 false 0 0)) (fun _ _=>False) (fun c x=>c<(Zn a.fa b.fa).n/\x<2^a.lines.toNat) (rC a b) (fun _ _ _ _=>True):=by
 refine⟨fun g c x s hd DW hf=>?_,fun g s s' DW hn hs=>⟨by omega,by omega,(hs A0 DW.1 (.inr hA)).trans DW.2.2.1,(hs B0 DW.2.1 (.inr hB)).trans DW.2.2.2⟩,fun _ _ _ _ h=>h.elim⟩;obtain⟨h1,h2,h3,h4⟩:=DW;obtain⟨s',e,k1,k2,k3⟩:=abO ha hb VD hd.1 hd.2 h1 h2 h3 h4 hf;refine⟨(),s',?_,trivial,⟨by omega,by omega,(k1 A0 h1).trans h3,(k1 B0 h2).trans h4⟩,fun j hj=>hj.elim,fun j hj _=>k1 j hj,k2,k3⟩;rw[Lx,<-Zu];exact e
theorem dC {a b:ZN}(ha:a.ok)(hb:b.ok)(VD:a.lines=b.lines):Zv U 84 [YP a,YP b]=some (ZP true (ZO (TF (IJ a b)))):=by
 refine Za abQ (by kernel_rfl) (by simp[ZK,YF,still]) ?_;have nn:=ZT a.YC (a.next.map ZX);have nf:=ZT a.Yx (a.Z4.map ZY);have cn:=ZS a.YC (a.next.map ZX);have cf:=ZS a.Yx (a.Z4.map ZY);have HC:=ZT b.YC (b.next.map ZX);have HB:=ZT b.Yx (b.Z4.map ZY);have HA:=ZS b.YC (b.next.map ZX);have Hz:=ZS b.Yx (b.Z4.map ZY);obtain⟨S,hS⟩:∃S,S=((YH U).new (.cells [.int .i64 a.lines,ZP a.YC (a.next.map ZX),ZP a.Yx (a.Z4.map ZY)] 42 false 0 0)).new (.cells [.int .i64 b.lines,ZP b.YC (b.next.map ZX),ZP b.Yx (b.Z4.map ZY)] 42 false 0 0):=⟨_,rfl⟩;have rN:S.next=10:=by rw[hS];simp only[go_sem]
 have gA:S.get 8=some (.cells [.int .i64 a.lines,ZP a.YC (a.next.map ZX),ZP a.Yx (a.Z4.map ZY)] 42 false 0 0):=by rw[hS];simp only[go_sem]
 have gB:S.get 9=some (.cells [.int .i64 b.lines,ZP b.YC (b.next.map ZX),ZP b.Yx (b.Z4.map ZY)] 42 false 0 0):=by rw[hS];simp only[go_sem]
 have He:Fr S:=by rw[hS];exact (Fr.own.new _).new _
 obtain⟨pv,ev,s1,g',h114,VR⟩:=dB ha hb VD (s:=S) (ld ha hb VD (A0:=8) (B0:=9) (N:=S.next) (by omega) (by omega)) (fun c x hc hx=>⟨hc,hx⟩) (g:=()) ⟨by omega,by omega,gA,gB⟩ He;have hE:=VR.ends;have hEf:=hE.YG;have hEn:=hE.na;rw[ZB a,ZB b] at h114 ⊢;unfold XK YK at h114 ⊢;rw[hS] at h114;simp only[go_sem,dA,nn,nf,cn,cf,HC,HB,HA,Hz,nA,h114,hEn,hEf];rfl
def wM (a b:ZN):AV:=bif X5 a b != 0 then .X' [.ZR,.int .i64 (X5 a b)] else .X' [ZP true (ZO (TF (IJ a b))),.int .i64 (br ((TF (IJ a b)).length==0) 7 0)]
theorem c68 (a b:ZN)(ha:a.next.length<=2^40)(k_:∀r∈a.next,r.2.length<=2^40)(hb:b.next.length<=2^40)(kZ:∀r∈b.next,r.2.length<=2^40):Zv U 27 [YP a,YP b]=some (wM a b):=by
 refine Za k68 (by kernel_rfl) (by simp[ZK,YF,still]) ?_;have h136:=kY a b ha k_ hb kZ;unfold wM;have nn:=ZT a.YC (a.next.map ZX);have nf:=ZT a.Yx (a.Z4.map ZY);have cn:=ZS a.YC (a.next.map ZX);have cf:=ZS a.Yx (a.Z4.map ZY);have HC:=ZT b.YC (b.next.map ZX);have HB:=ZT b.Yx (b.Z4.map ZY);have HA:=ZS b.YC (b.next.map ZX);have Hz:=ZS b.Yx (b.Z4.map ZY)
 cases hc:X5 a b != 0 with
 |true =>
  rw[ZB a,ZB b] at h136 ⊢;unfold XK YK at h136 ⊢;simp only[go_sem,r68,nn,nf,cn,cf,HC,HB,HA,Hz,h136,hc,cond_true]
 |false =>
  have h0:X5 a b=0:=by simpa using hc
  obtain⟨oa,ob,VD⟩:=Ni h0;rw[h0] at h136;have h137:=dC oa ob VD;have ls:=ZL true (ZO (TF (IJ a b)));rw[Xb] at ls;have c6:=Jx ((TF (IJ a b)).length==0) 7;have hq:(((TF (IJ a b)).length:Int)==0)=((TF (IJ a b)).length==0):=by rw[Bool.eq_iff_iff];simp
  rw[ZB a,ZB b] at h136 h137 ⊢;unfold XK YK at h136 h137 ⊢;simp only[go_sem,r68,nn,nf,cn,cf,HC,HB,HA,Hz,h136,h137,cond_false,ls,hq,c6,KD,Bf]
def F9 (k:Nat)(L:List Nat):List AV:=L.map fun c=>.agg (Zc k c)
theorem F8 (k:Nat):∀L:List Nat,Ys true 2 L.length (WT k L)=F9 k L
 |[]=>rfl
 |c::L=>by
  have e:WT k (c::L)=.int .i64 ((c / k:Nat):Int)::.int .i64 ((c%k:Nat):Int)::WT k L:=rfl;rw[afc,PR,e];simp only[List.take_succ_cons,List.take_zero,List.drop_succ_cons,afJ];rw[F8 k L];rfl
theorem rK:YZ U 55=some true:=by kernel_rfl
theorem rJ:size U 55=some 2:=by kernel_rfl
theorem rI {s:St}{b k d:Nat}{cap:Option Nat}{L:List Nat}(h:s.get b=some (.cells (WT k L) 55 false 0 0)):YG U s (d+3) (.sl b 0 L.length cap 2)=some (.fz (F9 k L)):=by
 rw[WQ,h,YI,<-BK k L,XG,rK,rJ];have e:=K4 (X:=U) s (d+2) L.length 1 (WT k L);rw[show (1:Nat)+1=2 from rfl] at e;rw[e,F8];have hm:Zg (YG U s (d+2)) (F9 k L)=some (F9 k L):=by
  refine Vv fun x hx=>?_
  obtain⟨c,_,rfl⟩:=afe.1 hx;unfold Zc;rw[HD];rfl
 rw[hm,VT]
theorem Ju {L L':List Nat}(hp:L'.Perm L)(hs:L'.Pairwise (·<=·)):L'=S4 L:=by
 obtain⟨p,s⟩:=Wp L;exact (hp.trans p.symm).eq_of_pairwise (fun a b _ _ h1 h2=>Nat.le_antisymm h1 h2) hs s
theorem aag (args:List AV)(s:St):YX U (Zv U 88 args) 88 args s=WW U 88 args s:=(Zu ..).symm
theorem aah (args:List AV)(s:St):YX U (Zv U 90 args) 90 args s=WW U 90 args s:=(Zu ..).symm
theorem adh {k c x:Nat}{s:St}:WW U 87 [.agg (Zc k c),.int .i64 (x:Int)] s=some (.bool true,s.new (.cells (Zc k c) 164 false 0 0)):=by
 refine Y3 adi (by kernel_rfl) ?_;unfold Zc;simp only[go_sem,aai]
theorem iV (k N:Nat)(Tv:Nat->Nat->Prop):dD (.fn (.func 87) [] []) k N Unit (fun _ _=>True) (fun _ _=>False) Tv (fun _ _=>true) (fun _ _ _ _=>True):=by
 refine⟨fun g c x s hd DW hf=>⟨(),s.new (.cells (Zc k c) 164 false 0 0),?_,trivial,trivial,fun j hj=>hj.elim,fun j hj _=>by rw[ZZ,if_neg (by omega)],by rw[Z'];omega,hf.new _⟩,fun g s s' DW hn hs=>trivial,fun _ _ _ _ h=>h.elim⟩;rw[Lx,<-Zu];exact adh
def kN (a b:ZN):AV:=bif X5 a b != 0 then .X' [.ZR,.int .i64 (X5 a b)] else bif decide ((TF (IJ a b)).length=0) then .X' [.fz (F9 b.fa.n (S4 (Rf a b))),.int .i64 0] else .X' [.ZR,.int .i64 29]
theorem c69 (a b:ZN)(ha:a.next.length<=2^40)(k_:∀r∈a.next,r.2.length<=2^40)(hb:b.next.length<=2^40)(kZ:∀r∈b.next,r.2.length<=2^40)(hn:X5 a b=0->a.fa.n*b.fa.n<=64):Zv U 28 [YP a,YP b]=some (kN a b):=by
 refine Za k69 (by kernel_rfl) (by simp[ZK,YF,still]) ?_;have h136:=kY a b ha k_ hb kZ;unfold kN;have nn:=ZT a.YC (a.next.map ZX);have nf:=ZT a.Yx (a.Z4.map ZY);have cn:=ZS a.YC (a.next.map ZX);have cf:=ZS a.Yx (a.Z4.map ZY);have HC:=ZT b.YC (b.next.map ZX);have HB:=ZT b.Yx (b.Z4.map ZY);have HA:=ZS b.YC (b.next.map ZX);have Hz:=ZS b.Yx (b.Z4.map ZY)
 cases hc:X5 a b != 0 with
 |true =>
  rw[ZB a,ZB b] at h136 ⊢;unfold XK YK at h136 ⊢;simp only[go_sem,r69,nn,nf,cn,cf,HC,HB,HA,Hz,h136,hc,cond_true]
 |false =>
  have h0:X5 a b=0:=by simpa using hc
  obtain⟨oa,ob,VD⟩:=Ni h0;rw[h0] at h136;have h137:=dC oa ob VD;have ls:=ZL true (ZO (TF (IJ a b)));rw[Xb] at ls;by_cases hz:(TF (IJ a b)).length=0
  ·have Jy:decide ((((TF (IJ a b)).length:Nat):Int)>0)=false:=decide_eq_false (by omega);obtain⟨S,hS⟩:∃S,S=((YH U).new (.cells [.int .i64 a.lines,ZP a.YC (a.next.map ZX),ZP a.Yx (a.Z4.map ZY)] 42 false 0 0)).new (.cells [.int .i64 b.lines,ZP b.YC (b.next.map ZX),ZP b.Yx (b.Z4.map ZY)] 42 false 0 0):=⟨_,rfl⟩;have He:Fr S:=by rw[hS];exact (Fr.own.new _).new _
   obtain⟨pv,ev,s1,g',h114,VR⟩:=dB oa ob VD (s:=S) (iV b.fa.n S.next (fun _ _=>True)) (fun _ _ _ _=>trivial) (g:=()) trivial He;have hP:=KC oa ob VD;have iU:=VR.c_;rw[<-Vo] at iU;have iU:Nx s1 S.next 164 (Rf a b).length (WT b.fa.n (Rf a b)) pv:=iU;have hle:=hP.len;have h64:=hn h0;obtain⟨s2,bb,h139,gbb,b1,b2,k2,n2,TC⟩:=acE (by omega) (fun e=>by have:=hP.pos;rw[e] at this;simp at this) iU VR.fr;obtain⟨v3,s3,L',h141,JC,Bh,LI⟩:=acU (cap:=none) (k:=b.fa.n) ob.pos rfl (by omega) hP.nd gbb b2 TC;have Hy:=Ju Bh LI;subst Hy;have LY:=rI (d:=36) (cap:=none) JC.1;rw[Bh.length_eq] at LY;rw[ZB a,ZB b] at h136 h137 h114 ⊢;unfold XK YK at h136 h137 h114 ⊢;rw[hS] at h114;simp only[go_sem,r69,nn,nf,cn,cf,HC,HB,HA,Hz,h136,h137,cond_false,ls,Jy,nA,h114,aag,h139,aah,h141];rw[decide_eq_true hz,cond_true];rw[WQ] at LY;rw[LY];rfl
  ·have Jy:decide ((((TF (IJ a b)).length:Nat):Int)>0)=true:=decide_eq_true (by omega);rw[decide_eq_false hz];rw[ZB a,ZB b] at h136 h137 ⊢;unfold XK YK at h136 h137 ⊢;simp only[go_sem,r69,nn,nf,cn,cf,HC,HB,HA,Hz,h136,h137,cond_false,ls,Jy]
end Go.Am
