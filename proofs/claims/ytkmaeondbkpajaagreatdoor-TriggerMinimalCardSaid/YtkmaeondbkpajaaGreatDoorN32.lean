/- A part of the proof of a statement of this seat: the machine on which the program is read, and what it computes; for every input. -/
import Derived.Test.YtkmaeondbkpajaaGreatDoorN26
import Derived.Test.YtkmaeondbkpajaaGreatDoorN31
import Derived.Test.YtkmaeondbkpajaaGreatDoorN22
import Derived.Test.YtkmaeondbkpajaaGreatDoorN12
import Derived.Test.YtkmaeondbkpajaaGreatDoorN06
set_option linter.all false
namespace Go.Am
open Go
variable [Z3]
set_option maxRecDepth 100000
set_option maxHeartbeats 8000000
theorem OC (b:Bool):OB undef b=false:=rfl
theorem OA (x:Option AV)(s:St):Ug false x s=some (undef,s):=rfl
theorem Oz (x:Option AV)(f:FuncId)(args:List AV)(s:St):S1 U false x f args s=some (undef,s):=rfl
theorem qP (k:Nat)(L:List Nat):(F9 k L).length=L.length:=by simp[F9]
theorem wJ (k:Nat)(L:List Nat):U7 (.fz (F9 k L))=some (.int .i64 (L.length:Nat)):=by rw[<-qP k L];rfl
theorem wI (a:ZN):AV.fz (F9 (Z2 a).fa.n (SL a))=ZP false ((Jg a).map PV):=by
 rw[Sl];unfold F9 Jg;rw[List.map_map];rfl
structure abV (a m:ZN)(L:List Nat):Prop where
 ok:m.ok
 le:m.next.length<=a.next.length
 fT:Zv U 35 [YP a]=some (.X' [YP m,.int .i64 0])
 kO:Zv U 35 [YP m]=some (.X' [YP m,.int .i64 0])
 Ag:Zv U 28 [YP a,YP m]=some (.X' [.fz (F9 m.fa.n L),.int .i64 0])
 xM:Zv U 17 [YP m]=some (.int .i64 0)
 B1:Zv U 29 [YP m,YP m]=some (.bool true)
 wH:Zv U 30 [YP a,YP m,.fz (F9 m.fa.n L)]=some (.int .i64 0)
 few:L.length<=64
 all:∀q,q<m.next.length->∃c∈L,c%m.fa.n=q
 dis:∀q o,q<m.next.length->o<q->∃v,Zv U 27 [YP (Zs m q),YP (Zs m o)]=some (.X' [v,.int .i64 0])
theorem Lw {a:ZN}(ha:a.ok):a.next.length<=2^40/\∀r∈a.next,r.2.length<=2^40:=by
 have hf:=ha.few;refine⟨by omega,fun r hr=>?_⟩;obtain⟨i,hi,rfl⟩:=ae8.1 hr;have h1:=(ha.row i hi).1;have h2:=Nat.pow_le_pow_right (n:=2) (by omega) (show a.lines.toNat<=4 by have:=ha.lines;omega);omega
theorem abW {a:ZN}(h0:Jf a=0)(h8:a.next.length<=8):abV a (Z2 a) (SL a):=by
 have ha:=ZN.Bl h0;have hm:=XO ha;have hle:=Bd ha;have hc:=Bb ha (by omega);have P9:X5 a (Z2 a)=0:=Rg h0 hc rfl;obtain⟨a1,a2⟩:=Lw ha;obtain⟨m1,m2⟩:=Lw hm;obtain⟨fin,hS⟩:=zQ ha;have VP:=wQ ha hS;have hlen:(SL a).length<=64:=by
  have h1:=(KC ha hm rfl).len;have h2:(SL a).length=(Rf a (Z2 a)).length:=(Wp _).1.length_eq;have h3:a.fa.n*(Z2 a).fa.n<=8*8:=Nat.mul_le_mul h8 (afG hle h8);omega
 refine⟨hm,hle,?_,?_,?_,?_,qO ha,?_,hlen,fun q hq=>zH ha hq,fun q o hq ho=>?_⟩
 ·rw[c59 a a1 a2];unfold Ba;rw[h0];rfl
 ·rw[c59 _ m1 m2];unfold Ba;rw[hc,qZ ha];rfl
 ·rw[c69 a _ a1 a2 m1 m2 (fun _=>Nat.mul_le_mul h8 (afG hle h8))];unfold kN;have he:TF (IJ a (Z2 a))=[]:=by unfold TF;rw[VP]
  rw[P9,he];rfl
 ·rw[c50,hc]
 ·rw[wI,c70 a _ a1 a2 m1 m2 (by rw[Jg,ae7];omega),qN ha (by omega) h0]
 ·have os:=Oy hm hq;have oo:=Oy hm (S:=o) (by omega);obtain⟨s1,s2⟩:=Lw os;obtain⟨o1,o2⟩:=Lw oo;have Sx:∀S,(Zs (Z2 a) S).next.length<=256:=fun S=>by simp only[Zs,ae7,afN];omega
  have hd:=wG ha (s:=q) (o:=o) hq (by show o<(Z2 a).next.length;omega) (by omega);refine⟨ZP true (ZO (TF (IJ (Zs (Z2 a) q) (Zs (Z2 a) o)))),(c68 _ _ s1 s2 o1 o2).trans ?_⟩;unfold wM;rw[Rg (G' os (Sx q)) (G' oo (Sx o)) rfl];have hz:((TF (IJ (Zs (Z2 a) q) (Zs (Z2 a) o))).length==0)=false:=by simpa using hd
  rw[hz];rfl
theorem aE (a:ZN):Zv U 7 [YP a]=some (.bool true):=by
 have aw:=vU;have rV:=c44 a 8;have xM:=c50 a;refine Za e9 (by kernel_rfl) (by simp[ZK,YF,still]) ?_;have nn:Zw (XK a)=true:=ZT ..;have nf:Zw (YK a)=true:=ZT ..;have cn:(XK a).cells=[XK a]:=ZS ..;have cf:(YK a).cells=[YK a]:=ZS ..;have ll:U7 (XK a)=some (.int .i64 a.next.length):=by
  have:=ZL a.YC (a.next.map ZX);rw[ae7] at this;exact this
 cases hs:DC a 8 with
 |false =>
  rw[hs] at rV;rw[ZB] at rV xM ⊢;simp only[go_sem,Gk,aw,rV,nn,nf,cn,cf,OC,OA,Oz]
 |true =>
  rw[hs] at rV
  cases hc:(Jf a != 0) with
  |true =>
   rw[ZB] at rV xM ⊢;simp only[go_sem,Gk,aw,rV,xM,hc,nn,nf,cn,cf,OC,OA,Oz]
  |false =>
   have h0:Jf a=0:=by simpa using hc
   rw[h0] at xM;have h00:((0:Int) != 0)=false:=rfl
   cases hd:decide ((a.next.length:Int)>8) with
   |true =>
    rw[ZB] at rV xM ⊢;simp only[go_sem,Gk,aw,rV,xM,h00,ll,hd,nn,nf,cn,cf,OC,OA,Oz]
   |false =>
    have h8:a.next.length<=8:=by simp at hd;omega
    have C:=abW h0 h8;generalize Z2 a=m at *;generalize SL a=L at *;obtain⟨hm,hle,fT,kO,Ag,aaB,B1,wH,few,all,dis⟩:=C;have mn:Zw (XK m)=true:=ZT ..;have mf:Zw (YK m)=true:=ZT ..;have dn:(XK m).cells=[XK m]:=ZS ..;have df:(YK m).cells=[YK m]:=ZS ..;have lm:U7 (XK m)=some (.int .i64 m.next.length):=by
     have:=ZL m.YC (m.next.map ZX);rw[ae7] at this;exact this
    have w0:IntKind.i64.wrap 0=0:=wrap_zero;have Jy:decide ((m.next.length:Int)>(a.next.length:Int))=false:=decide_eq_false (by omega);have lp:=wJ m.fa.n L;have np:Zw (.fz (F9 m.fa.n L))=true:=rfl;have mk:=fun (ex:Ex) (t:Nat) (e:Env) (S:St) (h:Env.get e t=.int .i64 (m.next.length:Int))=>yl (ex:=ex) (s:=S) h (by omega)
    rw[ZB a] at rV xM fT Ag wH ⊢;rw[ZB m] at fT kO Ag aaB B1 wH;simp only[go_sem,Gk,BX,BY,aw,rV,xM,h00,ll,hd,nn,nf,cn,cf,mn,mf,dn,df,lm,fT,kO,Ag,aaB,B1,wH,w0,Jy,lp,np,mk,OC,OA,Oz];refine ij (ZV:=fun (o:Option AV)=>o=some (.bool true)) (k:=m.fa.n) (jb:=12) (L:=L) hm.pos (by show m.next.length<=64;omega) (by omega) ?_ ?_ ?_ ?_ ?_ ?_ ?_ ?_
    case refine_8 =>
     intro e' s' F h1 hF fC uj hs hn fr;have p4:Env.get e' 4=.ptr 10 0:=by rw[h1 4 (by omega)];simp only[go_sem]
     have G5:Env.get e' 10=.sl 12 0 m.next.length (some m.next.length) 1:=by rw[h1 10 (by omega)];simp only[go_sem]
     have fy:=hs 10 (by simp only[go_sem]) (by decide);simp only[go_sem] at fy hn;simp only[go_sem,BZ,p4,fy,lm];refine iF (ZV:=fun (o:Option AV)=>o=some (.bool true)) hm (by omega) (mb:=10) (jb:=12) (F:=F) hF (fun q hq=>?_) dis ?_ ?_ ?_ ?_ fy uj (by omega) fr ?_
     case refine_6 =>
      intro e2 s2;simp only[go_sem]
     ·obtain⟨c,hc,rfl⟩:=all q hq;exact fC c hc
     all_goals simp only[go_sem,p4,G5]
     all_goals rfl
    case refine_7 =>
     repeat first|exact Fr.own|apply Fr.new|apply Fr.put|apply Fr.upto
     all_goals simp only[go_sem]
    all_goals simp only[go_sem]
    all_goals first|rfl|omega
end Go.Am
