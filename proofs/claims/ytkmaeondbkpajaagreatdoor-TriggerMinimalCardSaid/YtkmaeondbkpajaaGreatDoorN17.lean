/- A part of the proof of a statement of this seat: the machine on which the program is read, and what it computes; for every input. -/
import Derived.Test.YtkmaeondbkpajaaGreatDoorN07
import Derived.Test.YtkmaeondbkpajaaGreatDoorN08
import Derived.Test.YtkmaeondbkpajaaGreatDoorN12
import Derived.Test.YtkmaeondbkpajaaGreatDoorN16
import Derived.Test.YtkmaeondbkpajaaGreatDoorN06
set_option linter.all false
namespace Go.Am
open Go
variable [Z3]
set_option maxRecDepth 100000
set_option maxHeartbeats 8000000
theorem cX (S n:Nat):Zv U 95 [.int .i64 (n:Nat),.fp [.int .i64 (S:Nat)] 0]=some (.int .i64 ((S5 S n:Nat):Int)):=by
 refine Za eZ (by kernel_rfl) rfl ?_;unfold S5;by_cases h0:n=0
 ·subst h0;have e:(((0:Nat):Int)==0)=true:=rfl;simp only[go_sem,BU,e]
 ·have e:((n:Int)==0)=false:=by simp;omega
  by_cases h1:n=S
  ·subst h1;have e2:((n:Int)==(n:Int))=true:=by simp
   simp only[go_sem,BU,e,e2,h0];rfl
  ·have e2:((n:Int)==(S:Int))=false:=by simp;omega
   simp only[go_sem,BU,e,e2,h0,h1]
noncomputable def swK (c:Call)(f x:AV)(s:St):Option (AV×St):=To U (Y0 U) c f [x] s
theorem zx (t u:Tmp)(Qf:Array TypeId)(e:Env)(s:St):Zb U (Y0 U) e (.call { callee:=.value (.tmp t),args:=#[.tmp u],argTypes:=Qf }) s=swK { callee:=.value (.tmp t),args:=#[.tmp u],argTypes:=Qf } (Env.get e t) (Env.get e u) s:=rfl
theorem Dg (c:Call)(n S b:Nat)(s:St)(h:s.get b=some (.cells [.int .i64 (S:Nat)] 3 false 0 0)):swK c (.fn (.func 95) [] [.ptr b 0]) (.int .i64 (n:Nat)) s=some (.int .i64 ((S5 S n:Nat):Int),s):=by
 have hp:Rn U (.fn (.func 95) [] [.ptr b 0])=true:=by
  obtain⟨p1,p2⟩:=Ui (f:=95) (by kernel_rfl);simp only[Rn,p1,p2];rfl
 have h1:To U (Y0 U) c (.fn (.func 95) [] [.ptr b 0]) [.int .i64 (n:Nat)] s=WW U 95 [.int .i64 (n:Nat),.ptr b 0] s:=by
  unfold To;rw[hp,Bool.not_true,Bool.and_false,if_neg (by decide)];rfl
 unfold swK;rw[h1,Zu,Jv (by kernel_rfl) s rfl];have hm:Zg (YG U s 40) [.int .i64 (n:Nat),.ptr b 0]=some [.int .i64 (n:Nat),.fp [.int .i64 (S:Nat)] 0]:=by
  simp only[go_sem,h]
 rw[hm];exact xn (cX S n) (by kernel_rfl) rfl rfl s
theorem xG (n S b:Nat)(s:St)(h:s.get b=some (.cells [.int .i64 (S:Nat)] 3 false 0 0)):G4 U (.fn (.func 95) [] [.ptr b 0]) [.int .i64 (n:Nat)] s=some (.int .i64 ((S5 S n:Nat):Int),s):=by
 have:=Dg { callee:=.value (.tmp 0),args:=#[],argTypes:=#[] } n S b s h;unfold swK To at this;have hq:xN U { callee:=.value (.tmp 0),args:=#[],argTypes:=#[] }=false:=by kernel_rfl
 rw[hq,Bool.false_and,if_neg (by decide)] at this;exact this
noncomputable def qzK (f x:AV)(s:St):Option (List AV):=Yb U s (Ha f [x])
theorem vY (t u:Tmp)(Qf:Array TypeId)(e:Env)(s:St):G3 U e { callee:=.value (.tmp t),args:=#[.tmp u],argTypes:=Qf } s=qzK (Env.get e t) (Env.get e u) s:=rfl
theorem vX (n S b:Nat)(s:St)(h:s.get b=some (.cells [.int .i64 (S:Nat)] 3 false 0 0)):qzK (.fn (.func 95) [] [.ptr b 0]) (.int .i64 (n:Nat)) s=some [.int .i64 (n:Nat),.fp [.int .i64 (S:Nat)] 0]:=by
 unfold qzK Ha Yb;have hm:Zg (YG U s 40) [.int .i64 (n:Nat),.ptr b 0]=some [.int .i64 (n:Nat),.fp [.int .i64 (S:Nat)] 0]:=by
  simp only[go_sem,h]
 exact hm
attribute [go_sem ↓] zx vY
theorem mq {β:Type}{fin:Fl->β}{ks:List K}{ZV:β->Prop}{m:ZN}(hm:m.ok){S b k:Nat}(hkn:k<m.next.length)
  {e:Env}{s:St}(g6:Env.get e 6=.fn (.func 95) [] [.ptr b 0])(g8:Env.get e 8=.ZR)(g27:Env.get e 27=ZP m.next[k].1 (ints m.next[k].2))(ff:Env.get e 28=.int .i64 ((2^m.lines.toNat:Nat):Int))(fe:Env.get e 29=.int .i64 (0:Nat))
  (gb:s.get b=some (.cells [.int .i64 (S:Nat)] 3 false 0 0))(hb:b<s.next)(fr:Fr s)
  (hk:∀e' s' rv,(∀t:Nat,t<8\/10<t/\t<29->Env.get e' t=Env.get e t)->Env.get e' 8=rv->Zi s' s.next 3 1 (2^m.lines.toNat) (ZO (DS m S k (2^m.lines.toNat))) rv ->
   (∀j,j<s.next->s'.get j=s.get j)->s.next<=s'.next->Fr s'->ZV (goN U fin ks e' s')) :
  ZV (Vx U fin (.bk 2::ks) Pm e s):=by
 have Nv:2^m.lines.toNat<=65536:=by have:=Uh m.lines (by have:=hm.lines;omega);have:=TE m.lines;unfold I6 at this;omega
 refine ZC (σ:=Nat) (fun x=>2^m.lines.toNat-x) (fun x e' s'=>x<=2^m.lines.toNat/\(∀t:Nat,t<8\/10<t/\t<29->Env.get e' t=Env.get e t)/\Env.get e' 29=.int .i64 (x:Nat)/\(∀j,j<s.next->s'.get j=s.get j)/\s.next<=s'.next/\Fr s' /\
   ∃rv,Env.get e' 8=rv/\Zi s' s.next 3 1 x (ZO (DS m S k x)) rv) 0 ?_
  ⟨ae5 _,fun _ _=>rfl,fe,fun _ _=>rfl,aba _,fr,.ZR,g8,Zi.nil _ _ _ _⟩
 rintro Lp x e' s' ⟨hx0,hold,B1,hs,XY,YM,rv,q8,hr⟩ IH;have q6:=(hold 6 (by omega)).trans g6;have q27:=(hold 27 (by omega)).trans g27;have Ag:=(hold 28 (by omega)).trans ff;by_cases hd:x<2^m.lines.toNat
 ·have hw:=ZI hd (by omega);have n1:=hm.DR hkn hd;have ub:=(hs _ hb).trans gb;have TD:=xG (m.fa.nx k x) S b s' ub;have L6:=xF m S k x;generalize hv:S5 S (m.fa.nx k x)=v at *;have R_:=YM.at;have Gl:=hr.WK;have sy:Zi (s'.new (.cells [.int .i64 (v:Int)] 3 false 0 0)) s.next 3 1 x (ZO (DS m S k x)) rv:=hr.R9 (by rw[Z'];omega) fun j c' h1 h2 h3=>by rw[ZZ,if_neg (by omega)];exact h1
  obtain⟨s1,a1,a2,a3,a4,a5⟩:=sy.app (by rw[Z'];omega) (m:=1) (new:=[.int .i64 (v:Int)]) (by omega) rfl rfl;have fc:HQ 3 1 8 rv (some (1,[.int .i64 (v:Int)])) (s'.new (.cells [.int .i64 (v:Int)] 3 false 0 0))=some (.sl (s'.next+1) 0 (x+1) none 1,s1):=by
   rw[ZD (by rfl) (by rw[Gl];omega) (by rw[Gl];omega) (by omega),a1];rfl
  simp only[go_sem,Pm,q6,q8,q27,Ag,B1,Z8,hd,n1,TD,ae3,afu,ad4,fc,hw];have ZQ:∀t:Nat,t<8\/10<t/\t<29->(8=t)=False/\(10=t)=False/\∀k:Nat,29<=k->(k=t)=False:=fun t ht=>⟨by simp;omega,by simp;omega,fun k hk=>by simp;omega⟩
  refine IH (x+1) _ _ (by omega) ⟨by omega,fun t ht=>?_,?_,fun j h1=>?_,by rw[a2,Z'];omega,a5 (YM.new _),.sl (s'.next+1) 0 (x+1) none 1,?_,?_⟩
  ·obtain⟨n8,HP,ZQ⟩:=ZQ t ht;simp only[go_sem,n8,HP,ZQ];exact hold t ht
  ·simp only[go_sem]
  ·rw[a4 j h1,ZZ,if_neg (by omega),hs j h1]
  ·simp only[go_sem]
  ·rw[Z'] at a3;rw[<-L6];exact a3
 ·have rT:x=2^m.lines.toNat:=by omega
  subst rT;simp only[go_sem,Pm,Ag,B1,Z8,afg];refine hk _ _ rv (fun t h1=>?_) ?_ hr hs XY YM
  ·have ZQ:∀k:Nat,29<=k->(k=t)=False:=fun k hk=>by simp;omega
   simp only[go_sem,ZQ];exact hold t h1
  ·simp only[go_sem,q8]
theorem Cf {nl:Bool}{l:List Bool}(h:l≠[]):ZP nl (ZH l)=.fz (ZH l):=by
 cases l with
 |nil=>exact absurd rfl h
 |cons x l=>exact Ic ..
theorem ia {β:Type}{fin:Fl->β}{ks:List K}{ZV:β->Prop}{S b i W ob N:Nat}{ln la:Int}{cF:List AV}{v w NX FS:AV}{R:List Bool}(hi:i<=2^20)(hW:0<W/\W<=65536)(h_:R.length=W)
  (r1:UT 1 FS (.int .i64 ((S5 S i:Nat):Int))=some (.fp [.fz (ZH R)] 0))
  {e:Env}{s:St}(g2:Env.get e 2=.ptr 8 0)(g5:Env.get e 5=.ptr ob 0)(g6:Env.get e 6=.fn (.func 95) [] [.ptr b 0])(g7:Env.get e 7=.int .i64 (i:Nat))
  (gs:s.get 8=some (.cells [.int .i64 la,NX,FS] 42 false 0 0))(gb:s.get b=some (.cells [.int .i64 (S:Nat)] 3 false 0 0))(Up:s.get ob=some (.cells [.int .i64 ln,v,w] 42 false 0 0))
  (Zm:8<s.next/\b<s.next/\ob<s.next/\N<=s.next)(qk:8≠ob)(hw:Zi s N 72 1 i cF w)(fr:Fr s)
  (hk:∀e' s' w' jc,(∀t:Nat,t<46->Env.get e' t=Env.get e t)->s'.get ob=some (.cells [.int .i64 ln,v,w'] 42 false 0 0)->Zi s' N 72 1 (i+1) (cF++[.sl jc 0 W none 1]) w' ->
   s.next<=jc->jc<s'.next->s'.get jc=some (.cells (ZH R) 4 false 0 0)->(∀j,j<s.next->j≠ob->¬Yn w j->s'.get j=s.get j)->s.next<=s'.next->Fr s'->ZV (goN U fin ks e' s')) :
  ZV (go U fin ks (.raw HO) e s):=by
 have L6:=Si R;rw[h_] at L6;have LK:(ZH R).length=W:=by rw[Ym,h_]
 obtain⟨l1,l2,l3,l4⟩:=Zm;rw[Tp rS];have R_:=fr.at;have Nz:∀t:Nat,t<46->(∀k:Nat,46<=k->(k=t)=False):=fun t ht=>fun k hk=>by simp;omega
 have TJ:∀j q,j<s.next->(j=s.next+q)=False:=fun j q hj=>by simp;omega
 have SN:∀j q,j<s.next->(s.next+q=j)=False:=fun j q hj=>by simp;omega
 have E5:∀q,q≠0->(s.next+q=s.next)=False:=fun q hq=>by simp;omega
 have E0:∀q,q≠0->(s.next=s.next+q)=False:=fun q hq=>by simp;omega
 have RQ:(i+1)*24<=1099511627776:=by omega
 have TG:i+1<=1099511627776:=by omega
 have xl:=fun (t:St) (h:t.get b=some (.cells [.int .i64 (S:Nat)] 3 false 0 0)) (c:Call)=>Dg c i S b t h
 have fH:=fun (t:St) (h:t.get b=some (.cells [.int .i64 (S:Nat)] 3 false 0 0))=>vX i S b t h
 have ap:∀(t:St) (q:Nat),t.get q=some (.cells [] 4 false 0 0)->HQ 4 1 1 (.sl q 0 0 (some 0) 1) (some (W,ZH R)) t=some (.sl t.next 0 W none 1,t.new (.cells (ZH R) 4 false 0 0)):=fun t q h=>by
  have hz:WK (.sl q 0 0 (some 0) 1)=0:=rfl;rw[ZD (by rw[LK];omega) (by rw[hz];omega) (by rw[hz];omega) (by omega),SE h rfl (by omega),ad4];rfl
 have key:∀(E:Env) (T:St),(∀t:Nat,t<46->Env.get E t=Env.get e t) ->
   T.get ob=some (.cells [.int .i64 ln,v,.sl (s.next+16) 0 (i+1) none 1] 42 false 0 0) ->
   T.get (s.next+16)=some (.cells (cF++[.sl (s.next+15) 0 W none 1]) 72 false 0 0)->T.get (s.next+15)=some (.cells (ZH R) 4 false 0 0) ->
   (∀j,j<s.next->j≠ob->¬Yn w j->T.get j=s.get j)->s.next+16<T.next->Fr T->cF.length=i->ZV (goN U fin ks E T):=by
  intro E T k1 k2 k3 k4 k6 k7 k8 k9;exact hk E T (.sl (s.next+16) 0 (i+1) none 1) (s.next+15) k1 k2 (.inr ⟨by omega,by simp[k9],s.next+16,by omega,by omega,rfl,k3⟩) (by omega) (by omega) k4 k6 (by omega) k8
 rcases hw with⟨i0,rfl,rfl⟩|⟨i0,AK,bw,w1,w2,rfl,w4⟩
 ·subst i0;simp only[go_sem,g2,g5,g6,g7,gs,gb,Up,r1,xl,fH,L6,ap,Xy,ZD,ae3,afu,Nat.reducePow,ad4,aeX,R_,l1,l2,l3,TJ,SN,E5,E0,RQ,TG];refine key _ _ (fun t ht=>?_) ?_ ?_ ?_ (fun j h1 h2 _=>?_) ?_ ?_ rfl
  ·have ZQ:=Nz t ht;simp only[go_sem,ZQ]
  ·simp only[go_sem,ad4]
  ·simp[go_sem,TJ,SN,l3,aeX]
  ·simp[go_sem,TJ,SN,l3,aeX]
  ·have e0:∀q,(s.next+q=j)=False:=fun q=>by simp;omega
   simp only[Z7,ZZ,Z9,Z',Z_,Z0,aeX,Nat.reduceAdd,e0,eq_false h2.symm,if_false]
  ·simp only[Z9,Z',Z_];omega
  ·repeat first|exact fr|apply Fr.new|apply Fr.put|apply Fr.upto
   all_goals try simp only[Z9,Z',Z_]
   all_goals omega
 ·rw[ae3] at AK;have n2:=YY w4 Up (by decide);have n3:=YY w4 gs (by decide);have n4:=YY w4 gb (by decide);have y1:(bw=ob)=False:=eq_false n2;have y2:(ob=bw)=False:=eq_false n2.symm;have y3:(bw=8)=False:=eq_false n3;have y4:(bw=b)=False:=eq_false n4;have a2:=fun (T:St) (c:AV) (hc:Zw c=true) (h:T.get bw=some (.cells cF 72 false 0 0))=>vf AK h c hc
  have nsl:∀q,Zw (.sl q 0 W none 1)=true:=fun _=>rfl
  simp only[go_sem,g2,g5,g6,g7,gs,gb,Up,r1,xl,fH,L6,ap,ZD,ae3,afu,Nat.reducePow,ad4,aeX,R_,l1,l2,l3,TJ,SN,E5,E0,RQ,TG,w2,w4,y1,y2,y3,y4,a2,nsl];refine key _ _ (fun t ht=>?_) ?_ ?_ ?_ (fun j h1 h2 h3=>?_) ?_ ?_ AK
  ·have ZQ:=Nz t ht;simp only[go_sem,ZQ]
  ·simp only[go_sem]
  ·simp[go_sem,TJ,SN,l3,w2,aeX]
  ·simp[go_sem,TJ,SN,l3,w2,aeX]
  ·have e0:∀q,(s.next+q=j)=False:=fun q=>by simp;omega
   rw[Y6] at h3;simp only[Z7,ZZ,Z9,Z',Z_,Z0,aeX,Nat.reduceAdd,e0,eq_false h2.symm,eq_false h3,if_false]
  ·simp only[Z9,Z',Z_];omega
  ·repeat first|exact fr|apply Fr.new|apply Fr.put|apply Fr.upto
   all_goals try simp only[Z9,Z',Z_]
   all_goals omega
theorem jJ {β:Type}{fin:Fl->β}{ks:List K}{ZV:β->Prop}{m:ZN}(hm:m.ok){S b i ob N jr:Nat}{ln:Int}{cN cF:List AV}{v w:AV}(hS:S<m.next.length)(hi:i<m.next.length)
  {e:Env}{s:St}(g2:Env.get e 2=.ptr 8 0)(g5:Env.get e 5=.ptr ob 0)(g6:Env.get e 6=.fn (.func 95) [] [.ptr b 0])(g7:Env.get e 7=.int .i64 (i:Nat))(g8:Env.get e 8=.sl jr 0 (2^m.lines.toNat) none 1)
  (gs:s.get 8=some (.cells [.int .i64 m.lines,ZP m.YC (m.next.map ZX),ZP m.Yx (m.Z4.map ZY)] 42 false 0 0))(gb:s.get b=some (.cells [.int .i64 (S:Nat)] 3 false 0 0))(Up:s.get ob=some (.cells [.int .i64 ln,v,w] 42 false 0 0))
  (Zm:8<s.next/\b<s.next/\ob<s.next/\N<=s.next)(qk:8≠ob)(hv:Zi s N 48 1 i cN v)(hw:Zi s N 72 1 i cF w)(fr:Fr s)
  (hk:∀e' s' v' w' jc,(∀t:Nat,t<40->Env.get e' t=Env.get e t)->s'.get ob=some (.cells [.int .i64 ln,v',w'] 42 false 0 0)->Zi s' N 48 1 (i+1) (cN++[.sl jr 0 (2^m.lines.toNat) none 1]) v'->Zi s' N 72 1 (i+1) (cF++[.sl jc 0 (2^m.lines.toNat) none 1]) w' ->
   s.next<=jc->jc<s'.next->s'.get jc=some (.cells (ZH (MY m S i)) 4 false 0 0)->(∀j,j<s.next->j≠ob->¬Yn v j->¬Yn w j->s'.get j=s.get j)->s.next<=s'.next->Fr s'->ZV (goN U fin ks e' s')) :
  ZV (go U fin ks HN e s):=by
 have Te:=hm.few;have hsi:S5 S i<m.next.length:=Se hS hi;have xP:S5 S i<m.Z4.length:=by rw[hm.fl];exact hsi
 have KP:0<2^m.lines.toNat:=Nat.two_pow_pos _;have Nv:2^m.lines.toNat<=65536:=by have:=Uh m.lines (by have:=hm.lines;omega);have:=TE m.lines;unfold I6 at this;omega
 have r1:=Xh (nl:=m.Yx) xP;have Sx:=hm.XJ _ xP;have MZ:MY m S i=m.Z4[S5 S i].2:=by
  unfold MY;rw[ae4,aaa xP];rfl
 have hfe:ZP m.Z4[S5 S i].1 (ZH m.Z4[S5 S i].2)=.fz (ZH (MY m S i)):=by
  rw[MZ];exact Cf fun h=>by rw[h] at Sx;simp at Sx;omega
 rw[hfe] at r1;rw[<-MZ] at Sx;have L6:=Si (MY m S i);rw[Sx] at L6;have LK:(ZH (MY m S i)).length=2^m.lines.toNat:=by rw[Ym,Sx]
 generalize hR:MY m S i=R at *;generalize hW:2^m.lines.toNat=W at *;generalize hNX:ZP m.YC (m.next.map ZX)=NX at *;generalize hFS:ZP m.Yx (m.Z4.map ZY)=FS at *;obtain⟨l1,l2,l3,l4⟩:=Zm;have dY:b≠ob:=YY gb Up (by decide);have hb8:b≠8:=YY gb gs (by decide);unfold HN;have hlv:=hv.WK;have frA:Fr (s.new (.cells [.sl jr 0 W none 1] 48 false 0 0)):=fr.new _;have gA:∀j,j<s.next->(s.new (.cells [.sl jr 0 W none 1] 48 false 0 0)).get j=s.get j:=fun j hj=>by rw[ZZ,if_neg (by omega)]
 have Ix:Zi (s.new (.cells [.sl jr 0 W none 1] 48 false 0 0)) N 48 1 i cN v:=hv.R9 (by rw[Z'];omega) fun j c' h1 h2 h3=>by rw[gA j h2];exact h1
 obtain⟨s1,a1,a2,a3,a4,a5⟩:=Ix.kd (by rw[Z'];omega) (m:=1) (new:=[.sl jr 0 W none 1]) (by omega) rfl rfl;rw[Z'] at a1 a2 a3 a4;have fc:HQ 48 1 24 v (some (1,[.sl jr 0 W none 1])) (s.new (.cells [.sl jr 0 W none 1] 48 false 0 0))=some (.sl (s.next+1) 0 (i+1) none 1,s1):=by
  rw[ZD (by rfl) (by rw[hlv];omega) (by rw[hlv];omega) (by omega),a1]
 have h1:∀j,j<s.next->¬Yn v j->s1.get j=s.get j:=fun j h1 h2=>by
  rw[a4 j (by omega) (fun h=>h2 ⟨i,h⟩),gA j h1]
 have nv:∀j c t,s.get j=some (.cells c t false 0 0)->t≠48->¬Yn v j:=fun j c t h1 h2 h3=>YY h1 (hv.RW h3).2.2 h2 rfl
 have u8:=(h1 8 l1 (nv _ _ _ gs (by decide))).trans gs;have ub:=(h1 b l2 (nv _ _ _ gb (by decide))).trans gb;have uo:=(h1 ob l3 (nv _ _ _ Up (by decide))).trans Up;have Kr:=a5 frA;simp only[go_sem,g5,g8,Up,gA _ l3,l3,ae3,afu,ad4,fc,uo];obtain⟨S2,r5⟩:∃S2,S2=s1.put ob (.cells [.int .i64 ln,.sl (s.next+1) 0 (i+1) none 1,w] 42 false 0 0):=⟨_,rfl⟩;rw[<-r5];have rN:S2.next=s.next+2:=by rw[r5,Z9,a2]
 have kS:∀j,j≠ob->S2.get j=s1.get j:=fun j h=>by rw[r5,Z7,if_neg (fun e=>h e.symm)]
 have uo2:S2.get ob=some (.cells [.int .i64 ln,.sl (s.next+1) 0 (i+1) none 1,w] 42 false 0 0):=by rw[r5,Z7,if_pos rfl]
 have He:Fr S2:=by rw[r5];exact Kr.put (by rw[a2];omega) _
 have nw:∀j,Yn w j->j<s.next/\j≠ob/\¬Yn v j:=fun j hj=>by
  have q:=hw.RW hj;exact⟨q.2.1,YY q.2.2 Up (by decide),fun h=>YY q.2.2 (hv.RW h).2.2 (by decide) rfl⟩
 have I1:Zi S2 N 72 1 i cF w:=by
  rcases hw with⟨q0,q1,q2⟩|⟨q0,q1,bw,q2,q3,rfl,q5⟩
  ·exact .inl ⟨q0,q1,q2⟩
  ·obtain⟨_,n1,n2⟩:=nw bw ((Y6 _ _ _).2 rfl);exact .inr ⟨q0,q1,bw,q2,by omega,rfl,by rw[kS bw n1,h1 bw q3 n2];exact q5⟩
 refine ia (ZV:=ZV) (S:=S) (b:=b) (i:=i) (W:=W) (ob:=ob) (N:=N) (ln:=ln) (la:=m.lines) (NX:=NX) (FS:=FS) (R:=R) (by omega) ⟨KP,Nv⟩ Sx r1 ?_ ?_ ?_ ?_ ((kS 8 qk).trans u8) ((kS b dY).trans ub) uo2 (by omega) qk I1 He ?_
 case refine_5 =>
  intro e3 s3 w' jc QG uo3 qC j1 j2 j3 LI BL HF;have LR:Zi S2 N 48 1 (i+1) (cN++[.sl jr 0 W none 1]) (.sl (s.next+1) 0 (i+1) none 1):=by
   rcases a3 with⟨q0,_⟩|⟨q0,q1,bv,q2,q3,q4,q5⟩
   ·omega
   ·cases q4
    exact .inr ⟨q0,q1,s.next+1,q2,by omega,rfl,by rw[kS _ (by omega)];exact q5⟩
  have qM:Zi s3 N 48 1 (i+1) (cN++[.sl jr 0 W none 1]) (.sl (s.next+1) 0 (i+1) none 1):=by
   rcases LR with⟨q0,_⟩|⟨q0,q1,bv,q2,q3,q4,q5⟩
   ·omega
   ·cases q4
    exact .inr ⟨q0,q1,s.next+1,q2,by omega,rfl,by rw[LI _ (by omega) (by omega) (fun h=>by have:=(nw _ h).1;omega)];exact q5⟩
  refine hk e3 s3 _ w' jc (fun t ht=>?_) uo3 qM qC (by omega) j2 j3 (fun j q1 q2 q3 q4=>?_) (by omega) HF
  ·rw[QG t (by omega)];have ZQ:∀k:Nat,40<=k->(k=t)=False:=fun k hk=>by simp;omega
   simp only[go_sem,ZQ]
  ·rw[LI j (by omega) q2 q4,kS j q2,h1 j q1 q3]
 all_goals simp only[go_sem,g2,g5,g6,g7]
def GQ (s:St)(B:Nat)(t:TypeId)(c:AV)(l:List AV):Prop:=∃j,c=.sl j 0 l.length none 1/\B<=j/\j<s.next/\s.get j=some (.cells l t false 0 0)
theorem GQ.mono {s s':St}{B:Nat}{t:TypeId}{c:AV}{l:List AV}(h:GQ s B t c l)(hn:s.next<=s'.next)(hg:∀j,B<=j->j<s.next->s.get j=some (.cells l t false 0 0)->s'.get j=some (.cells l t false 0 0)):GQ s' B t c l:=by
 obtain⟨j,h1,h2,h3,h4⟩:=h;exact⟨j,h1,h2,by omega,hg j h2 h3 h4⟩
theorem GQ.YG {s:St}{B d:Nat}{c:AV}{l:List AV}{t:TypeId}(h:GQ s B t c l)(Jc:YZ U t=some false)(WU:size U t=some 1)(LP:l.all Zw=true)(hf:Zg (Go.Am.YG U s d) l=some l):Go.Am.YG U s (d+1) c=some (.fz l):=by
 obtain⟨j,rfl,_,_,h5⟩:=h;rw[WQ,h5,YI,ae3,XG,Jc,WU,Xj,if_pos LP,Yw,hf,VT]
theorem jK {m:ZN}(hm:m.ok){S b ob:Nat}(hS:S<m.next.length){β:Type}{fin:Fl->β}{ks:List K}{ZV:β->Prop}
  {e:Env}{s:St}(g2:Env.get e 2=.ptr 8 0)(g5:Env.get e 5=.ptr ob 0)(g6:Env.get e 6=.fn (.func 95) [] [.ptr b 0])(g17:Env.get e 17=.int .i64 (m.next.length:Nat))(g18:Env.get e 18=.int .i64 (0:Nat))
  (gs:s.get 8=some (.cells [.int .i64 m.lines,ZP m.YC (m.next.map ZX),ZP m.Yx (m.Z4.map ZY)] 42 false 0 0))(gb:s.get b=some (.cells [.int .i64 (S:Nat)] 3 false 0 0))(Up:s.get ob=some (.cells [.int .i64 m.lines,.ZR,.ZR] 42 false 0 0))
  (Zm:13<=s.next+1/\b<s.next/\ob<s.next)(qk:8≠ob)(fr:Fr s)
  (hk:∀e' s' v w,(∀t:Nat,t<7->Env.get e' t=Env.get e t)->s'.get ob=some (.cells [.int .i64 m.lines,v,w] 42 false 0 0)->Zw v=true->Zw w=true ->
   (∀d s2,s'.next<=s2.next->(∀j,s.next<=j->s2.get j=s'.get j)->YG U s2 (d+3) v=some (ZP true ((Zs m S).next.map ZX)))->(∀d s2,s'.next<=s2.next->(∀j,s.next<=j->s2.get j=s'.get j)->YG U s2 (d+3) w=some (ZP true ((Zs m S).Z4.map ZY))) ->
   (∀j,j<s.next->j≠ob->s'.get j=s.get j)->s.next<=s'.next->Fr s'->ZV (goN U fin ks e' s')) :
  ZV (Vx U fin (.bk 0::ks) Pe e s):=by
 have Te:=hm.few;have hW0:0<2^m.lines.toNat:=Nat.two_pow_pos _;have Nv:2^m.lines.toNat<=65536:=by have:=Uh m.lines (by have:=hm.lines;omega);have:=TE m.lines;unfold I6 at this;omega
 obtain⟨l0,l2,l3⟩:=Zm;have dY:b≠ob:=YY gb Up (by decide);refine ZC (σ:=Nat) (fun i=>m.next.length-i) (fun i e' s'=>i<=m.next.length/\(∀t:Nat,t<7\/t=17->Env.get e' t=Env.get e t)/\Env.get e' 18=.int .i64 (i:Nat)/\(∀j,j<s.next->j≠ob->s'.get j=s.get j)/\s.next<=s'.next/\Fr s' /\
   ∃(v w:AV) (cN cF:List AV),s'.get ob=some (.cells [.int .i64 m.lines,v,w] 42 false 0 0)/\Zi s' s.next 48 1 i cN v/\Zi s' s.next 72 1 i cF w/\cN.length=i/\cF.length=i /\
    (∀j (h:j<m.next.length) (h':j<cN.length),GQ s' s.next 3 cN[j] (ZO (DS m S (S5 S j) (2^m.lines.toNat))))/\(∀j (h:j<m.next.length) (h':j<cF.length),GQ s' s.next 4 cF[j] (ZH (MY m S j)))) 0 ?_
  ⟨ae5 _,fun _ _=>rfl,g18,fun _ _ _=>rfl,aba _,fr,.ZR,.ZR,[],[],Up,Zi.nil _ _ _ _,Zi.nil _ _ _ _,rfl,rfl,fun j _ h=>by simp at h,fun j _ h=>by simp at h⟩
 rintro Lp i e' s' ⟨hi,hold,q18,hs,XY,YM,v,w,cN,cF,aI,hv,hw,rZ,AK,fJ,fI⟩ IH;have q2:=(hold 2 (by omega)).trans g2;have q5:=(hold 5 (by omega)).trans g5;have q6:=(hold 6 (by omega)).trans g6;have xM:=(hold 17 (by omega)).trans g17;by_cases hd:i<m.next.length
 ·have S6:=ZI hd (by omega);have NZ:S5 S i<m.next.length:=Se hS hd;have u8:=(hs 8 (by omega) qk).trans gs;have ub:=(hs b l2 dY).trans gb;have r1:=Xi (nl:=m.YC) NZ;have ll:=ZL m.next[S5 S i].1 (ints m.next[S5 S i].2);rw[Xz,(hm.row _ NZ).1] at ll;have xl:=fun (t:St) (h:t.get b=some (.cells [.int .i64 (S:Nat)] 3 false 0 0)) (c:Call)=>Dg c i S b t h
  have fH:=fun (t:St) (h:t.get b=some (.cells [.int .i64 (S:Nat)] 3 false 0 0))=>vX i S b t h
  have l2':b<s'.next:=by omega
  have l8':8<s'.next:=by omega
  have R_:=YM.at;simp only[go_sem,Pe,q2,q6,xM,q18,Z8,hd,u8,ub,r1,ll,xl,fH,R_,l2',l8'];obtain⟨A,hA⟩:∃A,A=s'.upto (s'.next+9):=⟨_,rfl⟩;rw[<-hA];have hAn:A.next=s'.next+9:=by rw[hA,Z_]
  have kA:∀j,A.get j=s'.get j:=fun j=>by rw[hA,Z0]
  have frA:Fr A:=by rw[hA];exact YM.upto (by omega)
  refine mq (ZV:=ZV) hm (S:=S) (b:=b) (k:=S5 S i) NZ ?_ ?_ ?_ ?_ ?_ ((kA b).trans ub) (by omega) frA ?_
  case refine_6 =>
   intro e2 s2 rv Vy p8 hr WC NA TC;obtain⟨jr,rfl,hjr,jr1,jr2⟩:∃jr,rv=.sl jr 0 (2^m.lines.toNat) none 1/\s2.get jr=some (.cells (ZO (DS m S (S5 S i) (2^m.lines.toNat))) 3 false 0 0)/\A.next<=jr/\jr<s2.next:=by
    rcases hr with⟨h,_⟩|⟨_,_,j,h1,h2,h3,h4⟩
    ·omega
    ·exact⟨j,h3,h4,h1,h2⟩
   have E2:∀t:Nat,t<7\/t=17\/t=18->Env.get e2 t=Env.get e' t:=fun t ht=>by
    have ZQ:∀k:Nat,19<=k->(k=t)=False:=fun k hk=>by simp;omega
    have h7:(7=t)=False:=by simp;omega
    have h8:(8=t)=False:=by simp;omega
    rw[Vy t (by omega)];simp only[go_sem,ZQ,h7,h8]
   have p7:Env.get e2 7=.int .i64 (i:Nat):=by
    rw[Vy 7 (by omega)];simp only[go_sem]
   have k2:∀j,j<s'.next->s2.get j=s'.get j:=fun j h1=>by rw[WC j (by omega),kA j]
   have LR:Zi s2 s.next 48 1 i cN v:=hv.R9 (by omega) fun j c' h1 h2 h3=>by rw[k2 j h2];exact h1
   have I1:Zi s2 s.next 72 1 i cF w:=hw.R9 (by omega) fun j c' h1 h2 h3=>by rw[k2 j h2];exact h1
   have uo:=(k2 ob (by omega)).trans aI;simp only[go_sem];refine jJ (ZV:=ZV) hm (S:=S) (b:=b) (i:=i) (ob:=ob) (N:=s.next) hS hd ((E2 2 (by omega)).trans q2) ((E2 5 (by omega)).trans q5) ((E2 6 (by omega)).trans q6) p7 p8 ((k2 8 (by omega)).trans u8) ((k2 b (by omega)).trans ub) uo (by omega) qk LR I1 TC ?_;intro e3 s3 v' w' jc QG uo3 qM qC j1 j2 j3 LI BL HF;have E3:∀t:Nat,t<7\/t=17\/t=18->Env.get e3 t=Env.get e' t:=fun t ht=>(QG t (by omega)).trans (E2 t ht)
   have p18:=(E3 18 (by omega)).trans q18;simp only[go_sem,p18,S6];have nv:∀j c t,s2.get j=some (.cells c t false 0 0)->t≠48->¬Yn v j:=fun j c t h1 h2 h3=>YY h1 (LR.RW h3).2.2 h2 rfl
   have nw:∀j c t,s2.get j=some (.cells c t false 0 0)->t≠72->¬Yn w j:=fun j c t h1 h2 h3=>YY h1 (I1.RW h3).2.2 h2 rfl
   have pr:∀j c t,j<s2.next->s.next<=j->s2.get j=some (.cells c t false 0 0)->t≠48->t≠72->s3.get j=some (.cells c t false 0 0):=fun j c t h1 h2 h3 h4 h5=>by
    rw[LI j h1 (by omega) (nv j c t h3 h4) (nw j c t h3 h5)];exact h3
   have bj:∀c l t,t=3\/t=4->GQ s' s.next t c l->GQ s3 s.next t c l:=fun c l t ht h=>(h.mono (s':=s2) (by omega) fun j h1 h2 h3=>by rw[k2 j h2];exact h3).mono BL fun j h1 h2 h3=>pr j _ _ h2 h1 h3 (by rcases ht with rfl|rfl <;> decide) (by rcases ht with rfl|rfl <;> decide)
   refine IH (i+1) _ _ (by omega) ⟨by omega,fun t ht=>?_,?_,fun j h1 h2=>?_,by omega,HF,v',w',cN++[.sl jr 0 (2^m.lines.toNat) none 1],cF++[.sl jc 0 (2^m.lines.toNat) none 1],uo3,qM,qC,by simp[rZ],by simp[AK],fun j h h'=>?_,fun j h h'=>?_⟩
   ·have ZQ:∀k:Nat,18<=k->(k=t)=False:=fun k hk=>by simp;omega
    simp only[go_sem,ZQ];exact (E3 t (by omega)).trans (hold t ht)
   ·simp only[go_sem]
   ·rw[LI j (by omega) h2 (fun h=>by have:=(LR.RW h).1;omega) fun h=>by have:=(I1.RW h).1;omega,k2 j (by omega),hs j h1 h2]
   ·by_cases hj:j<cN.length
    ·rw[afv hj];exact bj _ _ _ (.inl rfl) (fJ j h hj)
    ·have hj:j=i:=by rw[aeW,aff] at h';omega
     subst hj;rw[afy (by omega)];simp only[List.getElem_singleton];exact⟨jr,by rw[Xb,AJ],by omega,by omega,pr jr _ _ jr2 (by omega) hjr (by decide) (by decide)⟩
   ·by_cases hj:j<cF.length
    ·rw[afv hj];exact bj _ _ _ (.inr rfl) (fI j h hj)
    ·have hj:j=i:=by rw[aeW,aff] at h';omega
     subst hj;rw[afy (by omega)];simp only[List.getElem_singleton];exact⟨jc,by rw[Ym,EY hm hS hd],by omega,j2,j3⟩
  all_goals simp only[go_sem,q6]
  all_goals rfl
 ·have DX:i=m.next.length:=by omega
  have hle:decide ((i:Int)<(m.next.length:Int))=false:=by rw[Z8];simp;omega
  simp only[go_sem,Pe,xM,q18,hle];have nj:(Zs m S).next.map ZX=(List.range m.next.length).map fun j=>AV.fz (ZO (DS m S (S5 S j) (2^m.lines.toNat))):=by
   simp only[Zs,List.map_map];refine afx fun x _=>?_
   simp only[Function.comp,ZX,Sl];rfl
  have hf1:(Zs m S).Z4.map ZY=(List.range m.next.length).map fun j=>AV.fz (ZH (MY m S j)):=by
   simp only[Zs,List.map_map];refine afx fun x _=>?_
   simp only[Function.comp,ZY,Sl]
  refine hk _ _ v w (fun t ht=>?_) aI hv.Zw hw.Zw (fun d s2 NA WC=>?_) (fun d s2 NA WC=>?_) hs XY YM
  ·have ZQ:∀k:Nat,18<=k->(k=t)=False:=fun k hk=>by simp;omega
   simp only[go_sem,ZQ];exact hold t (by omega)
  ·have k1:Zi s2 s.next 48 1 cN.length cN v:=by rw[rZ];exact hv.mono NA fun j h _=>WC j h
   have LP:cN.all Zw=true:=by
    rw[ae9];intro x hx;obtain⟨j,hj,rfl⟩:=ae8.1 hx;obtain⟨_,e,_⟩:=fJ j (by omega) hj;rw[e];rfl
   rw[nj];refine k1.Qp U AZ AY LP (d:=d+2) ?_;rw[<-DX,<-rZ];refine (TS (by rw[afN]) fun j h h'=>?_:Zg _ cN=some ((List.range cN.length).map _));rw[List.getElem_range];exact ((fJ j (by omega) h).mono NA fun k q1 _ q3=>(WC k q1).trans q3).YG De Dd (Vr _) (SH _ _ _)
  ·have k2:Zi s2 s.next 72 1 cF.length cF w:=by rw[AK];exact hw.mono NA fun j h _=>WC j h
   have LP:cF.all Zw=true:=by
    rw[ae9];intro x hx;obtain⟨j,hj,rfl⟩:=ae8.1 hx;obtain⟨_,e,_⟩:=fI j (by omega) hj;rw[e];rfl
   rw[hf1];refine k2.Qp U AX AW LP (d:=d+2) ?_;rw[<-DX,<-AK];refine (TS (by rw[afN]) fun j h h'=>?_:Zg _ cF=some ((List.range cF.length).map _));rw[List.getElem_range];exact ((fI j (by omega) h).mono NA fun k q1 _ q3=>(WC k q1).trans q3).YG vR vQ (Tl _) (Qq _ _ _)
theorem L_ {v:AV}(h:Zw v=true):v.cells=[v]:=by
 cases v <;> first|rfl|(simp[Zw] at h)
theorem mL {m:ZN}(hm:m.ok){S:Nat}(hS:S<m.next.length):Zv U 36 [YP m,.int .i64 (S:Nat)]=some (YP (Zs m S)):=by
 refine Za e7 (by kernel_rfl) (by simp[ZK,YF,still]) ?_;have nn:=ZT m.YC (m.next.map ZX);have nf:=ZT m.Yx (m.Z4.map ZY);have cn:=ZS m.YC (m.next.map ZX);have cf:=ZS m.Yx (m.Z4.map ZY);have ll:=ZL m.YC (m.next.map ZX);rw[ae7] at ll;rw[ZB m];unfold XK YK;simp only[go_sem,nV,nn,nf,cn,cf,ll];refine jK (ZV:=fun (o:Option AV)=>o=some (YP (Zs m S))) hm (S:=S) (b:=9) (ob:=11) hS ?_ ?_ ?_ ?_ ?_ ?_ ?_ ?_ ?_ (by decide) ?_ ?_
 case refine_11 =>
  intro e' s' v w h1 uo nv nw fv fw hs hn fr;have p4:Env.get e' 4=.ptr 10 0:=by rw[h1 4 (by omega)];simp only[go_sem]
  have p5:Env.get e' 5=.ptr 11 0:=by rw[h1 5 (by omega)];simp only[go_sem]
  have fy:=hs 10 (by simp only[go_sem]) (by decide);simp only[go_sem] at fy;have cv':v.cells=[v]:=L_ nv;have cw':w.cells=[w]:=L_ nw;have HP:(10:Nat)<s'.next:=by simp only[go_sem] at hn;omega
  have hq:∀c,∀j,((((((YH U).new (.cells [.int .i64 m.lines,ZP m.YC (m.next.map ZX),ZP m.Yx (m.Z4.map ZY)] 42 false 0 0)).new (.cells [.int .i64 (S:Nat)] 3 false 0 0)).new (.cells [.int .i64 0,.ZR,.ZR] 42 false 0 0)).new (.cells [.int .i64 0,.ZR,.ZR] 42 false 0 0)).put 11 (.cells [.int .i64 m.lines,.ZR,.ZR] 42 false 0 0)).next<=j->(s'.put 10 c).get j=s'.get j:=fun c j hj=>by
   simp only[go_sem] at hj;rw[Z7,if_neg (by omega)]
  have fv':=fv 36 (s'.put 10 (.cells [.int .i64 m.lines,v,w] 42 false 0 0)) (by rw[Z9];omega) (hq _);have fw':=fw 36 (s'.put 10 (.cells [.int .i64 m.lines,v,w] 42 false 0 0)) (by rw[Z9];omega) (hq _);simp only[go_sem,p4,p5,uo,fy,nv,nw,cv',cw',HP];rw[fv',fw'];rw[ZB (Zs m S)];rfl
 case refine_10 =>
  repeat first|exact Fr.own|apply Fr.new|apply Fr.put|apply Fr.upto
  all_goals simp only[go_sem]
 all_goals simp only[go_sem]
 all_goals first|rfl|omega|decide
end Go.Am
