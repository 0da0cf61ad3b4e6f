/- A part of the proof of a statement of this seat: the machine on which the program is read, and what it computes; for every input. -/
import Derived.Test.YtkmaeondbkpajaaGreatDoorN17
import Derived.Test.YtkmaeondbkpajaaGreatDoorN25
set_option linter.all false
namespace Go.Am
open Go
variable [Z3]
set_option maxRecDepth 100000
set_option maxHeartbeats 8000000
theorem yl {ex:Ex}{a:Nat}{e:Env}{s:St}{n:Nat}(h:Env.get e a=.int .i64 (n:Int))(hn:n<=2^20) :
  Zb U ex e (.makeSlice 72 (.tmp a) (.tmp a)) s=some (.sl s.next 0 n (some n) 1,s.new (.cells (ZH (List.replicate n false)) 4 false 0 0)):=by
 have h40:U.Zt 72=some (.slice 4):=by kernel_rfl
 have hz:zero U 4=some (.bool false):=by kernel_rfl
 have hi:(U.inf 4).map (fun i=>(i.bytes,i.size))=some (1,1):=by kernel_rfl
 have e1:ZH (List.replicate n false)=List.replicate n (.bool false):=by simp[ZH]
 cases hj:U.inf 4 with
 |none=>rw[hj] at hi;cases hi
 |some j =>
  rw[hj] at hi;simp only[afF,Option.some.injEq,Prod.mk.injEq] at hi;obtain⟨h1,h2⟩:=hi;rw[e1,<-UZ];simp only[Zb,eval,h,h40,hj,hz];rw[if_pos ⟨by omega,by omega,by rw[h1];omega,by omega,by rw[h2];rfl,by omega⟩,h2];rfl
theorem ye (F:List Bool)(z:Nat)(x:Bool):(ZH F).set z (.bool x)=ZH (F.set z x):=by
 unfold ZH;rw[List.map_set]
theorem oH {k:Nat}{L:List Nat}{i:Nat}(h:i<L.length):UT 2 (.fz (F9 k L)) (.int .i64 (i:Int))=some (.fp [.int .i64 ((L[i] / k:Nat):Int),.int .i64 ((L[i]%k:Nat):Int)] 0):=by
 have:=Ve 2 false (F9 k L) .i64 (i:Int) (.agg (Zc k L[i])) (by omega) (by simp[F9,h]) rfl (by omega);rw[Sl] at this;exact this
theorem ij {ks:List K}{ZV:Option AV->Prop}{k jb:Nat}{L:List Nat}(WX:0<k)(aeQ:k<=64)(hL:L.length<=65536)
  {e:Env}{s:St}(Gp:Env.get e 10=.sl jb 0 k (some k) 1)(g90:Env.get e 90=.fz (F9 k L))(g91:Env.get e 91=.int .i64 (L.length:Nat))(g92:Env.get e 92=.int .i64 (0:Nat))
  (gj:s.get jb=some (.cells (ZH (List.replicate k false)) 4 false 0 0))(hj:jb<s.next)(fr:Fr s)
  (hk:∀e' s' F,(∀t:Nat,t<12\/12<t/\t<92->Env.get e' t=Env.get e t)->F.length=k->(∀c∈L,F[c%k]? = some true)->s'.get jb=some (.cells (ZH F) 4 false 0 0)->(∀j,j<s.next->j≠jb->s'.get j=s.get j)->s.next<=s'.next->Fr s'->ZV (goN U (VZ U [.tmp 2]) ks e' s')) :
  ZV (Vx U (VZ U [.tmp 2]) (.bk 0::ks) Pk e s):=by
 refine ZC (σ:=Nat) (fun i=>L.length-i) (fun i e' s'=>i<=L.length/\(∀t:Nat,t<12\/12<t/\t<92->Env.get e' t=Env.get e t)/\Env.get e' 92=.int .i64 (i:Nat)/\(∀j,j<s.next->j≠jb->s'.get j=s.get j)/\s.next<=s'.next/\Fr s' /\
   ∃F:List Bool,F.length=k/\s'.get jb=some (.cells (ZH F) 4 false 0 0)/\∀j (h:j<L.length),j<i->F[L[j]%k]? = some true) 0 ?_
  ⟨ae5 _,fun _ _=>rfl,g92,fun _ _ _=>rfl,aba _,fr,_,List.length_replicate ..,gj,fun j _ h=>by omega⟩
 rintro Lp i e' s' ⟨hi,hold,q92,hs,XY,YM,F,hF,uj,fC⟩ IH;have Um:=(hold 10 (by omega)).trans Gp;have q90:=(hold 90 (by omega)).trans g90;have q91:=(hold 91 (by omega)).trans g91;by_cases hd:i<L.length
 ·have S6:=ZI hd (by omega);have ix:=oH (k:=k) hd;have hm:=Nat.mod_lt L[i] WX;have cM:L[i]%k<F.length:=by omega
  generalize hc:L[i]=c at *;have d1:decide (((c%k:Nat):Int)<0)=false:=decide_eq_false (by have:=Int.natCast_nonneg (c%k);omega);have d2:decide (((c%k:Nat):Int)>=((k:Nat):Int))=false:=decide_eq_false (by have:=Int.ofNat_lt.2 hm;omega);generalize hz:c%k=z at *;have f1:(s'.next=jb)=False:=by simp;omega
  have ON:lay z [AV.bool true] (ZH F)=some (ZH (F.set z true)):=by
   rw[LA (ZH F) z _ (by rw[Ym];exact cM),ye]
  simp only[go_sem,Pk,Um,q90,q91,q92,Z8,hd,ix,d1,d2,uj,f1,hm,ae3,ON,S6];refine IH (i+1) _ _ (by omega) ⟨by omega,fun t ht=>?_,?_,fun j h1 h2=>?_,by simp only[Z9,Z'];omega,?_,F.set z true,by rw[afi,hF],?_,fun j h h'=>?_⟩
  ·have ZQ:∀k:Nat,92<=k->(k=t)=False:=fun k hk=>by simp;omega
   have h12:(12=t)=False:=by simp;omega
   simp only[go_sem,ZQ,h12];exact hold t ht
  ·simp only[go_sem]
  ·rw[Z7,if_neg (fun e=>h2 e.symm),Z7,if_neg (by omega),ZZ,if_neg (by omega),hs j h1 h2]
  ·exact ((YM.new _).put (by rw[Z'];omega) _).put (by rw[Z9,Z'];omega) _
  ·rw[Z7,if_pos rfl]
  ·rw[List.getElem?_set];by_cases hji:j=i
   ·subst hji;rw[hc,hz,if_pos rfl,if_pos cM]
   ·have:=fC j h (by omega)
    split
    ·rfl
    ·exact this
 ·have DX:i=L.length:=by omega
  subst DX;simp only[go_sem,Pk,q91,q92,Z8,afg];refine hk _ _ F (fun t ht=>?_) hF (fun c hc=>?_) uj hs XY YM
  ·have ZQ:∀k:Nat,92<=k->(k=t)=False:=fun k hk=>by simp;omega
   simp only[go_sem,ZQ];exact hold t ht
  ·obtain⟨j,hj,rfl⟩:=ae8.1 hc;exact fC j hj hj
theorem iH {ks:List K}{ZV:Option AV->Prop}{m:ZN}(hm:m.ok){q mb:Nat}(hq:q<m.next.length)(hD:∀o,o<q->∃v,Zv U 27 [YP (Zs m q),YP (Zs m o)]=some (.X' [v,.int .i64 0]))
  {e:Env}{s:St}(g4:Env.get e 4=.ptr mb 0)(LV:Env.get e 13=.int .i64 (q:Nat))(adx:Env.get e 122=.int .i64 (q:Nat))(iG:Env.get e 123=.int .i64 (0:Nat))
  (gm:s.get mb=some (.cells [.int .i64 m.lines,XK m,YK m] 42 false 0 0))(hmb:mb<s.next)(fr:Fr s)
  (hk:∀e' s',(∀t:Nat,t<14\/16<t/\t<123->Env.get e' t=Env.get e t)->(∀j,j<s.next->s'.get j=s.get j)->s.next<=s'.next->Fr s'->ZV (goN U (VZ U [.tmp 2]) ks e' s')) :
  ZV (Vx U (VZ U [.tmp 2]) (.bk 4::ks) Pj e s):=by
 have Te:=hm.few;refine ZC (σ:=Nat) (fun i=>q-i) (fun i e' s'=>i<=q/\(∀t:Nat,t<14\/16<t/\t<123->Env.get e' t=Env.get e t)/\Env.get e' 123=.int .i64 (i:Nat)/\(∀j,j<s.next->s'.get j=s.get j)/\s.next<=s'.next/\Fr s') 0 ?_
  ⟨ae5 _,fun _ _=>rfl,iG,fun _ _=>rfl,aba _,fr⟩
 rintro Lp i e' s' ⟨hi,hold,oW,hs,XY,YM⟩ IH;have q4:=(hold 4 (by omega)).trans g4;have U6:=(hold 13 (by omega)).trans LV;have aaq:=(hold 122 (by omega)).trans adx;by_cases hd:i<q
 ·have S6:=ZI hd (by omega);obtain⟨v,hv⟩:=hD i hd;have f1:=mL hm hq;have f2:=mL hm (S:=i) (by omega);have um:=(hs mb hmb).trans gm;have ady:mb<s'.next:=by omega
  have R_:=YM.at;have h00:((0:Int) != 0)=false:=rfl;rw[ZB m,ZB (Zs m q)] at f1;rw[ZB m,ZB (Zs m i)] at f2;rw[ZB (Zs m q),ZB (Zs m i)] at hv;have nn1:Zw (XK (Zs m q))=true:=ZT ..;have nf1:Zw (YK (Zs m q))=true:=ZT ..;have nn2:Zw (XK (Zs m i))=true:=ZT ..;have nf2:Zw (YK (Zs m i))=true:=ZT ..;simp only[go_sem,Pj,q4,U6,aaq,oW,Z8,hd,um,ady,f1,f2,hv,h00,R_,S6,nn1,nf1,nn2,nf2];refine IH (i+1) _ _ (by omega) ⟨by omega,fun t ht=>?_,?_,fun j h1=>?_,?_,?_⟩
  ·have ZQ:∀k:Nat,123<=k->(k=t)=False:=fun k hk=>by simp;omega
   have h14:(14=t)=False:=by simp;omega
   have h15:(15=t)=False:=by simp;omega
   have h16:(16=t)=False:=by simp;omega
   simp only[go_sem,ZQ,h14,h15,h16];exact hold t ht
  ·simp only[go_sem]
  ·rw[Z0,hs j h1]
  ·rw[Z_];omega
  ·exact YM.upto (by omega)
 ·have DX:i=q:=by omega
  subst DX;simp only[go_sem,Pj,aaq,oW,Z8,afg];refine hk _ _ (fun t ht=>?_) hs XY YM;have ZQ:∀k:Nat,123<=k->(k=t)=False:=fun k hk=>by simp;omega
  simp only[go_sem,ZQ];exact hold t ht
theorem iF {ks:List K}{ZV:Option AV->Prop}{m:ZN}(hm:m.ok)(hn:m.next.length<=64){mb jb:Nat}{F:List Bool}(hF:F.length=m.next.length)(fC:∀q,q<m.next.length->F[q]? = some true)(hD:∀q o,q<m.next.length->o<q->∃v,Zv U 27 [YP (Zs m q),YP (Zs m o)]=some (.X' [v,.int .i64 0]))
  {e:Env}{s:St}(g4:Env.get e 4=.ptr mb 0)(Gp:Env.get e 10=.sl jb 0 m.next.length (some m.next.length) 1)(adz:Env.get e 113=.int .i64 (m.next.length:Nat))(adA:Env.get e 114=.int .i64 (0:Nat))
  (gm:s.get mb=some (.cells [.int .i64 m.lines,XK m,YK m] 42 false 0 0))(gj:s.get jb=some (.cells (ZH F) 4 false 0 0))(Zm:mb<s.next/\jb<s.next)(fr:Fr s)
  (hk:∀e' s',ZV (goN U (VZ U [.tmp 2]) ks e' s')) :
  ZV (Vx U (VZ U [.tmp 2]) (.bk 2::ks) Ph e s):=by
 obtain⟨l1,l2⟩:=Zm;refine ZC (σ:=Nat) (fun i=>m.next.length-i) (fun i e' s'=>i<=m.next.length/\(∀t:Nat,t=4\/t=10\/t=113->Env.get e' t=Env.get e t)/\Env.get e' 114=.int .i64 (i:Nat)/\(∀j,j<s.next->s'.get j=s.get j)/\s.next<=s'.next/\Fr s') 0 ?_
  ⟨ae5 _,fun _ _=>rfl,adA,fun _ _=>rfl,aba _,fr⟩
 rintro Lp i e' s' ⟨hi,hold,iE,hs,XY,YM⟩ IH;have q4:=(hold 4 (by omega)).trans g4;have Um:=(hold 10 (by omega)).trans Gp;have aar:=(hold 113 (by omega)).trans adz;by_cases hd:i<m.next.length
 ·have S6:=ZI hd (by omega);have uj:=(hs jb l2).trans gj;have um:=(hs mb l1).trans gm;have hb:(ZH F)[i]? = some (.bool true):=by
   unfold ZH;rw[afs,fC i hd];rfl
  simp only[go_sem,Ph,Um,aar,iE,Z8,hd,uj,hb,ae3];refine iH (ZV:=ZV) hm (q:=i) (mb:=mb) hd (fun o ho=>hD i o hd ho) ?_ ?_ ?_ ?_ um (by omega) YM ?_
  case refine_5 =>
   intro e2 s2 Vy WC NA TC;have adB:Env.get e2 114=.int .i64 (i:Nat):=by
    rw[Vy 114 (by omega)];simp only[go_sem,iE]
   simp only[go_sem,adB,S6];refine IH (i+1) _ _ (by omega) ⟨by omega,fun t ht=>?_,?_,fun j h1=>?_,by omega,TC⟩
   ·have ZQ:∀k:Nat,114<=k->(k=t)=False:=fun k hk=>by simp;omega
    have h13:(13=t)=False:=by simp;omega
    simp only[go_sem,ZQ];rw[Vy t (by omega)];simp only[go_sem,ZQ,h13];exact hold t ht
   ·simp only[go_sem]
   ·rw[WC j (by omega),hs j h1]
  all_goals simp only[go_sem,q4]
  all_goals rfl
 ·have DX:i=m.next.length:=by omega
  subst DX;simp only[go_sem,Ph,aar,iE,Z8,afg];exact hk _ _
end Go.Am
