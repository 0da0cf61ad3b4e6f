/- A part of the proof of a statement of this seat: the machine on which the program is read, and what it computes; for every input. -/
import Derived.Test.YtkmaeondbkpajaaGreatDoorN24
import Derived.Test.YtkmaeondbkpajaaGreatDoorN18
import Derived.Test.YtkmaeondbkpajaaGreatDoorN07
import Derived.Test.YtkmaeondbkpajaaGreatDoorN19
set_option linter.all false
namespace Go.Am
open Go
variable [Z3]
set_option maxRecDepth 100000
set_option maxHeartbeats 8000000
def Hf (a b:ZN)(C:List Nat)(c:Nat):Bool:=se a b C c (2^a.lines.toNat)
theorem abI {ks:List K}{ZV:Option AV->Prop}{a b:ZN}(ha:a.ok)(hb:b.ok)(VD:a.lines=b.lines){nl:Bool}{l:List Pr}(hl:l.length<=65536)(hg:∀p∈l,Sn a.fa.n b.fa.n p=false){A B mp:Nat}{C:List Nat}{p0:Bool}
  {e:Env}{s:St}(h3:Env.get e 3=.ptr A 0)(h4:Env.get e 4=.ptr B 0)(h8:Env.get e 8=.map mp)(h13:Env.get e 13=.bool p0)(h95:Env.get e 95=ZP nl (l.map PV))(h96:Env.get e 96=.int .i64 (l.length:Nat))(h97:Env.get e 97=.int .i64 (0:Nat))
  (gA:s.get A=some (.cells [.int .i64 a.lines,ZP a.YC (a.next.map ZX),ZP a.Yx (a.Z4.map ZY)] 42 false 0 0))(gB:s.get B=some (.cells [.int .i64 b.lines,ZP b.YC (b.next.map ZX),ZP b.Yx (b.Z4.map ZY)] 42 false 0 0))
  (gm:s.get mp=some (.map (VA b.fa.n (fun _=>.bool true) C 0) false))
  (hA:A<s.next)(hB:B<s.next)(hm:mp<s.next)(fr:Fr s)
  (hk:∀e' s',Env.get e' 13=.bool (p0&&(l.map (Ny b.fa.n)).all (Hf a b C))->Fr s'->ZV (goN U (VZ U [.tmp 6]) ks e' s')) :
  ZV (Vx U (VZ U [.tmp 6]) (.bk 2::ks) Nj e s):=by
 have Qy:=Rq U 3 true .i64 (n:=a.lines) (by have:=ha.lines;omega);have sw:((2:Int)^a.lines.toNat)=((2^a.lines.toNat:Nat):Int):=by simp
 rw[sw] at Qy;refine ZC (σ:=Nat) (fun i=>l.length-i) (fun i e' s'=>i<=l.length/\(∀t:Nat,t<97->t≠13->t≠15->t≠16->Env.get e' t=Env.get e t)/\Env.get e' 97=.int .i64 (i:Nat)/\Env.get e' 13=.bool (p0&&((l.take i).map (Ny b.fa.n)).all (Hf a b C))/\(∀j,j<s.next->s'.get j=s.get j)/\s.next<=s'.next/\Fr s') 0 ?_
  ⟨ae5 _,fun _ _ _ _ _=>rfl,h97,by rw[h13];simp,fun _ _=>rfl,aba _,fr⟩
 rintro Lp i e' s' ⟨hi0,hold,lr,U6,hs,XY,YM⟩ IH;have q3:=(hold 3 (by omega) (by omega) (by omega) (by omega)).trans h3;have q4:=(hold 4 (by omega) (by omega) (by omega) (by omega)).trans h4;have q8:=(hold 8 (by omega) (by omega) (by omega) (by omega)).trans h8;have q95:=(hold 95 (by omega) (by omega) (by omega) (by omega)).trans h95;have dP:=(hold 96 (by omega) (by omega) (by omega) (by omega)).trans h96;have uA:=(hs A hA).trans gA;have uB:=(hs B hB).trans gB;have um:=(hs mp hm).trans gm;by_cases hd:i<l.length
 ·have hw:=ZI hd (by omega);have ix:=Pd (nl:=nl) hd;have hgi:=hg l[i] (ae2 hd);have hc:=dO hgi;have T8:=Bm hgi;have f1:(s'.next=A)=False:=by simp;omega
  have nD:((l.take (i+1)).map (Ny b.fa.n)).all (Hf a b C)=(((l.take i).map (Ny b.fa.n)).all (Hf a b C)&&Hf a b C (Ny b.fa.n l[i])):=by
   rw[afC hd,afX,List.all_append];simp
  simp only[go_sem,Nj,q3,q95,dP,lr,uA,f1,Z8,hd,ix,Qy];obtain⟨S,hS⟩:∃S,S=(s'.new (.cells [.int .i64 0,.int .i64 0] 55 false 0 0)).put s'.next (.cells [.int .i64 l[i].1,.int .i64 l[i].2] 55 false 0 0):=⟨_,rfl⟩;rw[<-hS];have rN:S.next=s'.next+1:=by rw[hS,Z9,Z']
  have kS:∀j,j<s'.next->S.get j=s'.get j:=fun j h1=>by rw[hS,Z7,if_neg (by omega),ZZ,if_neg (by omega)]
  have uS:S.get s'.next=some (.cells [.int .i64 l[i].1,.int .i64 l[i].2] 55 false 0 0):=by rw[hS,Z7,if_pos rfl]
  have He:Fr S:=by rw[hS];exact (YM.new _).put (by rw[Z'];omega) _
  rw[<-T8] at uS;refine abJ (ZV:=ZV) ha hb VD (A:=A) (B:=B) (mp:=mp) (P:=s'.next) (C:=C) (p0:=(p0&&((l.take i).map (Ny b.fa.n)).all (Hf a b C))) hc ?_ ?_ ?_ ?_ ?_ ?_ ?_ ((kS A (by omega)).trans uA) ((kS B (by omega)).trans uB) ((kS mp (by omega)).trans um) uS (by omega) (by omega) (by omega) (by omega) He ?_
  case refine_8 =>
   intro e2 s2 E2 e13 WC NA TC;have E97:Env.get e2 97=.int .i64 (i:Nat):=by
    rw[E2 97 (by omega) (by omega) (by omega)];simp only[go_sem,lr]
   simp only[go_sem,E97,hw];refine IH (i+1) _ _ (by omega) ⟨by omega,fun t h1 h2 h3 h4=>?_,?_,?_,fun j h1=>?_,by omega,TC⟩
   ·have ZQ:∀k:Nat,97<=k->(k=t)=False:=fun k hk=>by simp;omega
    have Gq:(15=t)=False:=by simp;omega
    simp only[go_sem,ZQ];rw[E2 t (by omega) h2 h4];simp only[go_sem,ZQ,Gq];exact hold t h1 h2 h3 h4
   ·simp only[go_sem]
   ·simp only[go_sem,e13,nD];rw[Bool.and_assoc];rfl
   ·rw[WC j (by omega),kS j (by omega),hs j h1]
  all_goals simp only[go_sem,q3,q4,q8,U6]
  all_goals rfl
 ·have DX:i=l.length:=by omega
  subst DX;rw[List.take_length] at U6;simp only[go_sem,Nj,dP,lr,Z8,afg];exact hk _ _ (by simp only[go_sem,U6]) YM
theorem qp (a b c d:Int):X_ U .eql 55 false (.agg [.int .i64 a,.int .i64 b]) (.agg [.int .i64 c,.int .i64 d])=some (.bool (a==c&&b==d)):=by
 have hk:U.Ho 55=true:=by kernel_rfl
 have hu:U.Zt 55=some (.array 2 3):=by kernel_rfl
 have h3:U.Zt 3=some (.int .i64):=by kernel_rfl
 have hs:size U 3=some 1:=by kernel_rfl
 have ha:YZ U 3=some false:=by kernel_rfl
 simp only[X_,Kz,hk,if_true];rw[show (20:Nat)=18+1+1 from rfl];simp only[F0,hu,hs];simp[Ty,T_,ha,hs,F0,h3,YB]
 cases a==c <;> cases b==d <;> rfl
def sm:List Pr->Bool|[]=>false|p::_=>p.1==0&&p.2==0
def a_ (a b:ZN)(l:List Pr):Bool:=sm l&&(l.map (Ny b.fa.n)).all (Hf a b (l.map (Ny b.fa.n)))
def fL (a b:ZN)(l:List Pr):Int:=bif U2 a.fa.n b.fa.n none l != 0 then U2 a.fa.n b.fa.n none l else br (!a_ a b l) 21 0
def AS (a b:ZN)(l:List Pr):Int:=bif X5 a b != 0 then X5 a b else fL a b l
theorem acC {ks:List K}{ZV:Option AV->Prop}{a b:ZN}(ha:a.ok)(hb:b.ok)(VD:a.lines=b.lines){nl:Bool}{l:List Pr}(hl:l.length<=65536)(hg:∀p∈l,Sn a.fa.n b.fa.n p=false){A B mp:Nat}
  {e:Env}{s:St}(h2:Env.get e 2=ZP nl (l.map PV))(h3:Env.get e 3=.ptr A 0)(h4:Env.get e 4=.ptr B 0)(h8:Env.get e 8=.map mp)
  (gA:s.get A=some (.cells [.int .i64 a.lines,ZP a.YC (a.next.map ZX),ZP a.Yx (a.Z4.map ZY)] 42 false 0 0))(gB:s.get B=some (.cells [.int .i64 b.lines,ZP b.YC (b.next.map ZX),ZP b.Yx (b.Z4.map ZY)] 42 false 0 0))
  (gm:s.get mp=some (.map (VA b.fa.n (fun _=>.bool true) (l.map (Ny b.fa.n)) 0) false))
  (hA:A<s.next)(hB:B<s.next)(hm:mp<s.next)(fr:Fr s)
  (hk:ZV (some (.int .i64 (br (!a_ a b l) 21 0)))) :
  ZV (go U (VZ U [.tmp 6]) ks AQ e s):=by
 have ll:=ZL nl (l.map PV);rw[ae7] at ll;have c1:=Jx (!a_ a b l) 21;have key:∀(e1:Env),(∀t:Nat,t<9->Env.get e1 t=Env.get e t)->Env.get e1 95=ZP nl (l.map PV)->Env.get e1 96=.int .i64 (l.length:Nat)->Env.get e1 97=.int .i64 (0:Nat)->Env.get e1 13=.bool (sm l)->ZV (Vx U (VZ U [.tmp 6]) (.bk 2::.sq (.seq (.ops [o 154 (.Z1 (.t 13)),o 155 (.un .not (.t 154)),o 156 (.call 85 [(.t 155),(.v (.int .i64 21))]),o 6 (.Z1 (.t 156))]) .ret)::ks) Nj e1 s):=by
  intro e1 k1 k95 k96 k97 j9;refine abI (ZV:=ZV) ha hb VD hl hg (A:=A) (B:=B) (mp:=mp) (C:=l.map (Ny b.fa.n)) (p0:=sm l) ((k1 3 (by omega)).trans h3) ((k1 4 (by omega)).trans h4) ((k1 8 (by omega)).trans h8) j9 k95 k96 k97 gA gB gm hA hB hm fr ?_;intro e2 s2 zV TC;have zV:Env.get e2 13=.bool (a_ a b l):=zV;simp only[go_sem,zV,c1];exact hk
 cases l with
 |nil =>
  have d0:decide (((0:Nat):Int)>0)=false:=rfl;rw[List.length_nil] at ll;simp only[go_sem,AQ,h2,ll,d0];refine key _ (fun t ht=>?_) ?_ ?_ ?_ ?_
  ·have ZQ:∀k:Nat,9<=k->(k=t)=False:=fun k hk=>by simp;omega
   simp only[go_sem,ZQ]
  all_goals simp only[go_sem]
  all_goals rfl
 |cons p l =>
  have d0:decide ((((l.length+1:Nat)):Int)>0)=true:=decide_eq_true (by omega);rw[afc] at ll;have ix:UT 2 (ZP nl ((p::l).map PV)) (.int .i64 0)=some (.fp [.int .i64 p.1,.int .i64 p.2] 0):=Pd (nl:=nl) (l:=p::l) (i:=0) (by simp);have e0:=qp p.1 p.2 0 0;simp only[go_sem,AQ,h2,ll,d0,ix,e0];refine key _ (fun t ht=>?_) ?_ ?_ ?_ ?_
  ·have ZQ:∀k:Nat,9<=k->(k=t)=False:=fun k hk=>by simp;omega
   simp only[go_sem,ZQ]
  all_goals simp only[go_sem]
  all_goals rfl
theorem c70 (a b:ZN)(ha:a.next.length<=2^40)(k_:∀r∈a.next,r.2.length<=2^40)(hb:b.next.length<=2^40)(kZ:∀r∈b.next,r.2.length<=2^40){nl:Bool}{l:List Pr}(hl:l.length<=65536):Zv U 30 [YP a,YP b,ZP nl (l.map PV)]=some (.int .i64 (AS a b l)):=by
 refine Za k70 (by kernel_rfl) (by simp[ZK,YF,Wk,still]) ?_;have h136:=kY a b ha k_ hb kZ;unfold AS;have nn:=ZT a.YC (a.next.map ZX);have nf:=ZT a.Yx (a.Z4.map ZY);have cn:=ZS a.YC (a.next.map ZX);have cf:=ZS a.Yx (a.Z4.map ZY);have HC:=ZT b.YC (b.next.map ZX);have HB:=ZT b.Yx (b.Z4.map ZY);have HA:=ZS b.YC (b.next.map ZX);have Hz:=ZS b.Yx (b.Z4.map ZY);have ll:=ZL nl (l.map PV);rw[ae7] at ll;have hz:=fun (S:St) (j:Nat)=>eY (args:=[AV.sl j 0 2 (some 2) 1]) (s:=S) rfl
 have d5:decide (((l.length:Nat):Int)>65536)=false:=decide_eq_false (by omega);have c1:=Jx false 5;have hv:X0 [X5 a b,0]=X5 a b:=by
  rw[X0]
  cases hq:X5 a b != 0 with
  |true=>rfl
  |false =>
   have h0:X5 a b=0:=by simpa using hq
   rw[h0];rfl
 rw[jT]
 cases hc:X5 a b != 0 with
 |true =>
  rw[ZB a,ZB b] at h136 ⊢;unfold XK YK at h136 ⊢;simp only[go_sem,nn,nf,cn,cf,HC,HB,HA,Hz,h136,hc,cond_true,ll,d5,c1,hz,WQ,YI,Wi,Wh,afF,K_,Xj,Yw,hv]
 |false =>
  have h0:X5 a b=0:=by simpa using hc
  obtain⟨oa,ob,VD⟩:=Ni h0;rw[ZB a,ZB b] at h136 ⊢;unfold XK YK at h136 ⊢;simp only[go_sem,nn,nf,cn,cf,HC,HB,HA,Hz,h136,hc,cond_false,ll,d5,c1,hz,WQ,YI,Wi,Wh,afF,K_,Xj,Yw,hv];refine adl (ZV:=fun (o:Option AV)=>o=some (.int .i64 (fL a b l))) (nl:=nl) (l:=l) (na:=a.fa.n) (k:=b.fa.n) (A:=8) (B:=9) (mp:=11) (la:=a.lines) (lb:=b.lines) (cJ:=a.YC) (cI:=b.YC) (ra:=a.next.map ZX) (rb:=b.next.map ZX) (fa:=ZP a.Yx (a.Z4.map ZY)) (fb:=ZP b.Yx (b.Z4.map ZY)) hl ?_ ?_ ?_ ?_ ?_ ?_ ?_ ?_ ?_ ?_ ?_ ?_ ?_ ?_ ?_ ?_ ?_ ?_ ?_ ?_
  case refine_19 =>
   intro hs;have:U2 a.fa.n b.fa.n none l != 0:=by simpa using hs
   rw[fL,this,cond_true]
  case refine_20 =>
   intro hs FJ e' s' E cM Hc yq YM;have hs0:(U2 a.fa.n b.fa.n none l != 0)=false:=by simpa using hs
   have e2:Env.get e' 2=ZP nl (l.map PV):=by rw[E 2 (by omega) (by omega)];simp only[go_sem]
   have e3:Env.get e' 3=.ptr 8 0:=by rw[E 3 (by omega) (by omega)];simp only[go_sem]
   have e4:Env.get e' 4=.ptr 9 0:=by rw[E 4 (by omega) (by omega)];simp only[go_sem]
   have e8:Env.get e' 8=.map 11:=by rw[E 8 (by omega) (by omega)];simp only[go_sem]
   have vy:∀p∈l,Sn a.fa.n b.fa.n p=false:=by have:=FJ.good;rwa [List.take_length] at this
   have uA:=Hc 8 (by simp only[go_sem]) (by decide);have uB:=Hc 9 (by simp only[go_sem]) (by decide);simp only[go_sem] at yq;refine acC (ZV:=fun (o:Option AV)=>o=some (.int .i64 (fL a b l))) oa ob VD (nl:=nl) hl vy (A:=8) (B:=9) (mp:=11) e2 e3 e4 e8 (uA.trans ?_) (uB.trans ?_) cM (by omega) (by omega) (by omega) YM ?_
   case refine_3=>rw[fL,hs0,cond_false]
   all_goals simp only[go_sem]
  case refine_10=>rw[ae7];rfl
  case refine_11=>rw[ae7];rfl
  case refine_18 =>
   repeat first|exact Fr.own|apply Fr.new|apply Fr.put|apply Fr.upto
   all_goals simp only[go_sem]
  all_goals simp only[go_sem]
  all_goals first|rfl|omega|decide
end Go.Am
namespace Go.Am
open Go
variable [Z3]
theorem JN {m:Nat}{n:Int}:∀(l:List (Bool×List Int)) (f:List (Bool×List Bool)),l.length=f.length->(∀r∈l,r.2.length=m/\∀x∈r.2,0<=x/\x<n)->(∀r∈f,r.2.length=m)->Vq (m:Nat) n l f=0
 |[],_,_,_,_=>rfl
 |r::l,[],h,_,_=>by simp at h
 |r::l,g::f,h,h1,h2=>by
  obtain⟨e1,e2⟩:=h1 r (aeZ ..);have e3:=h2 g (aeZ ..);have b1:((r.2.length:Int) != (m:Nat)||((((g::f).headD (true,[])).2.length:Int) != (m:Nat)))=false:=by simp[e1,e3]
  have b2:(r.2.any fun x=>outside x 0 (n-1))=false:=by
   rw[List.any_eq_false];intro x hx;have:=e2 x hx;simp[outside];omega
  rw[Vq,b1,b2,Zh,Zh];exact JN l f (by simpa using h) (fun r hr=>h1 r (abc _ hr)) fun r hr=>h2 r (abc _ hr)
theorem G' {a:ZN}(h:a.ok)(h256:a.next.length<=256):Jf a=0:=by
 have hl:=h.lines;have hp:=h.pos;have b1:outside a.lines 1 4=false:=by simp[outside];omega
 have b2:((a.next.length:Int)==0)=false:=by simp;intro e;rw[e] at hp;simp at hp
 have b3:decide ((a.next.length:Int)>256)=false:=by simp;omega
 have b4:((a.Z4.length:Int) != a.next.length)=false:=by simp[h.fl]
 rw[Jf,b1,b2,b3,b4,Zh,Zh,Zh,Zh,TE];refine JN _ _ h.fl.symm (fun r hr=>?_) fun r hr=>?_
 ·obtain⟨i,hi,rfl⟩:=ae8.1 hr;exact h.row i hi
 ·obtain⟨i,hi,rfl⟩:=ae8.1 hr;exact h.XJ i hi
theorem Rg {a b:ZN}(ha:Jf a=0)(hb:Jf b=0)(hl:a.lines=b.lines):X5 a b=0:=by
 have e:(a.lines != b.lines)=false:=by simp[hl]
 unfold X5;rw[ha,hb,e,Zh];rfl
theorem Bd {a:ZN}(ha:a.ok):(Z2 a).next.length<=a.next.length:=by
 obtain⟨fin,h⟩:=zQ ha;have:=h.le;have e:=h.n;have e1:(Z2 a).fa.n=(Z2 a).next.length:=rfl;have e2:a.fa.n=a.next.length:=rfl;omega
theorem Bb {a:ZN}(ha:a.ok)(h256:a.next.length<=256):Jf (Z2 a)=0:=G' (XO ha) (by have:=Bd ha;omega)
def SL (a:ZN):List Nat:=S4 (Rf a (Z2 a))
def Jg (a:ZN):List Pr:=(SL a).map fun c=>(((c / (Z2 a).fa.n:Nat):Int),((c%(Z2 a).fa.n:Nat):Int))
section
variable {a:ZN}(ha:a.ok)
include ha
theorem TM (c:Nat):c∈SL a<->c∈Rf a (Z2 a):=(Wp _).1.mem_iff
theorem hY:∀c∈SL a,c / (Z2 a).fa.n<a.fa.n/\c%(Z2 a).fa.n<(Z2 a).fa.n:=fun c hc=>by
 have hm:=XO ha;have:=(KC ha hm rfl).lt c ((TM ha c).1 hc);exact⟨Nat.div_lt_of_lt_mul (by rw[Nat.mul_comm];exact this),Nat.mod_lt _ hm.pos⟩
theorem oG:(Jg a).map (Ny (Z2 a).fa.n)=SL a:=by
 unfold Jg;rw[List.map_map];refine (afx fun c _=>?_).trans (List.map_id _);simp only[Function.comp,Ny,id];have:=Nat.div_add_mod c (Z2 a).fa.n;have e:((c / (Z2 a).fa.n:Nat):Int)*((Z2 a).fa.n:Nat)+((c%(Z2 a).fa.n:Nat):Int)=(c:Nat):=by
  rw[<-Int.natCast_mul,<-Int.natCast_add,Nat.mul_comm];exact congrArg _ this
 rw[e];rfl
theorem yd:U2 a.fa.n (Z2 a).fa.n none (Jg a)=0:=by
 have hm:=XO ha;have hI:=KC ha hm rfl;obtain⟨hp,hs⟩:=Wp (Rf a (Z2 a));have LX:(SL a).Nodup:=hp.symm.nodup hI.nd;have Zm:=hY ha;have Hc:(SL a).Pairwise (·<·):=by
  refine (hs.and LX).imp fun ⟨h1,h2⟩=>?_
  exact Nat.lt_of_le_of_ne h1 h2
 generalize hn:(Z2 a).fa.n=n at *;have K1:0<n:=by rw[<-hn];exact hm.pos
 have key:∀(L:List Nat) (q:Option Pr),(∀c∈L,c / n<a.fa.n/\c%n<n)->L.Pairwise (·<·)->(∀p,q=some p->∃d:Nat,p=(((d / n:Nat):Int),((d%n:Nat):Int))/\∀c∈L,d<c)->U2 a.fa.n n q (L.map fun c=>(((c / n:Nat):Int),((c%n:Nat):Int)))=0:=by
  intro L
  induction L with
  |nil=>intro q _ _ _;rfl
  |cons c L ih =>
   intro q h1 h2 h3;rw[afm,U2];have hc:=h1 c (aeZ ..);have b1:Sn a.fa.n n (((c / n:Nat):Int),((c%n:Nat):Int))=false:=AA.2 ⟨Int.natCast_nonneg _,Int.ofNat_lt.2 hc.1,Int.natCast_nonneg _,Int.ofNat_lt.2 hc.2⟩;have b2:xE q (((c / n:Nat):Int),((c%n:Nat):Int))=false:=by
    cases q with
    |none=>rfl
    |some p =>
     obtain⟨d,rfl,hd⟩:=h3 p rfl;have hd:=hd c (aeZ ..);simp only[xE,Gj,Bool.not_eq_false'];have e1:=Nat.div_add_mod c n;have e2:=Nat.div_add_mod d n;have e3:d / n<=c / n:=Nat.div_le_div_right (by omega);rcases Nat.lt_or_ge (d / n) (c / n) with h|h
     ·have:decide (((c / n:Nat):Int)>((d / n:Nat):Int))=true:=decide_eq_true (by omega);rw[this];rfl
     ·have e4:c / n=d / n:=by omega
      rw[e4] at e1 ⊢;have:decide (((c%n:Nat):Int)>((d%n:Nat):Int))=true:=decide_eq_true (by omega);rw[this];simp
   rw[b1,b2,Zh,Zh];rw[List.pairwise_cons] at h2;refine ih _ (fun x hx=>h1 x (abc _ hx)) h2.2 fun p hp=>?_
   cases hp
   exact⟨c,rfl,h2.1⟩
 have:=key (SL a) none Zm Hc (fun p hp=>by cases hp);unfold Jg;rw[hn];exact this
theorem oE:sm (Jg a)=true:=by
 have hm:=XO ha;have hI:=KC ha hm rfl;obtain⟨hp,hs⟩:=Wp (Rf a (Z2 a));have h0:0∈SL a:=(TM ha 0).2 (afl hI.hd);have hs:(SL a).Pairwise (·<=·):=hs;unfold Jg
 cases hL:SL a with
 |nil=>rw[hL] at h0;cases h0
 |cons c L =>
  rw[hL] at h0 hs;rw[List.pairwise_cons] at hs;have:c=0:=by
   rcases afa.1 h0 with h|h
   ·exact h.symm
   ·have:=hs.1 0 h;omega
  subst this;simp[sm]
theorem Ar {fin:List Nat}(h:Qe a fin):∀c∈SL a,Jm a fin (c / (Z2 a).fa.n) (c%(Z2 a).fa.n):=fun c hc=>by
 have hc:=(TM ha c).1 hc;obtain⟨t,ht,rfl⟩:=afe.1 hc;exact FG ha h t ht
theorem oD:(SL a).all (Hf a (Z2 a) (SL a))=true:=by
 have hm:=XO ha;have hI:=KC ha hm rfl;obtain⟨fin,h⟩:=zQ ha;rw[ae9];intro c hc;unfold Hf se;rw[ae9];intro x hx;have hx:=afh.1 hx;have zO:=Ar ha h c hc;have h1:=(h.qY ha zO hx).1;unfold okx;rw[h1];have h2:(Zn a.fa (Z2 a).fa).nx c x∈SL a:=(TM ha _).2 (hI.cl c ((TM ha c).1 hc) x hx);rw[decide_eq_true ((Tt _ _).2 h2)];simp
theorem qN (h256:a.next.length<=256)(h0:Jf a=0):AS a (Z2 a) (Jg a)=0:=by
 have hc:X5 a (Z2 a)=0:=Rg h0 (Bb ha h256) rfl;unfold AS fL a_;rw[hc,yd ha,oG ha,oE ha,oD ha];rfl
theorem zH {t:Nat}(ht:t<(Z2 a).fa.n):∃c∈SL a,c%(Z2 a).fa.n=t:=by
 have hm:=XO ha;have hI:=KC ha hm rfl;obtain⟨fin,h⟩:=dR ha;have rE:t<fin.length:=by rw[<-h.n];exact ht
 obtain⟨w,s,⟨nC,I1⟩,hs⟩:=h.rch fin[t] (ae2 rE);have K1:0<(Z2 a).fa.n:=hm.pos;have key:∀(w:List Nat) (c:Nat),c∈Rf a (Z2 a)->(∀z∈w,z<a.fa.m)->∃d∈Rf a (Z2 a),d / (Z2 a).fa.n=w.foldl a.fa.nx (c / (Z2 a).fa.n):=by
  intro w
  induction w with
  |nil=>intro c hc _;exact⟨c,hc,rfl⟩
  |cons z w ih =>
   intro c hc hz;have di:=hz z (aeZ ..);obtain⟨d,hd,e⟩:=ih _ (hI.cl c hc z di) fun y hy=>hz y (abc _ hy)
   refine⟨d,hd,?_⟩;rw[e,List.foldl_cons]
   congr 1
   exact Rr (hm.VK.lt _ z (Nat.mod_lt _ K1) di)
 obtain⟨d,hd,e⟩:=key w 0 (afl hI.hd) nC;rw[Nat.zero_div,I1] at e;have zO:=Ar ha h.toQe d ((TM ha d).2 hd);rw[e] at zO;obtain⟨_,h2,h3⟩:=zO;refine⟨d,(TM ha d).2 hd,?_⟩;rw[hs] at h3;exact wS h.nd h2 rE h3
theorem wG {s o:Nat}(hs:s<(Z2 a).fa.n)(ho:o<(Z2 a).fa.n)(ZQ:s≠o):(TF (IJ (Zs (Z2 a) s) (Zs (Z2 a) o))).length≠0:=by
 have hm:=XO ha;have os:=Oy hm hs;have oo:=Oy hm ho;have hn:∀S,(Zs (Z2 a) S).fa.n=(Z2 a).fa.n:=fun S=>by show (Zs (Z2 a) S).next.length=_;simp[Zs];rfl
 have hV:=U4 (Qw os oo rfl) (rC (Zs (Z2 a) s) (Zs (Z2 a) o));intro h0;have VP:(IJ (Zs (Z2 a) s) (Zs (Z2 a) o)).2=none:=by
  unfold TF at h0
  split at h0
  ·assumption
  ·simp at h0
 have TK:=hV.go VP;have wU:(Zs (Z2 a) o).fa.n=(Z2 a).fa.n:=hn o;have hPn:(Zn (Zs (Z2 a) s).fa (Zs (Z2 a) o).fa).n=(Z2 a).fa.n*(Z2 a).fa.n:=by
  show _*_=_;rw[hn,hn]
 have K1:0<(Z2 a).fa.n:=hm.pos;refine ZQ (qW ha (B:=fun i j=>∃t∈(IJ (Zs (Z2 a) s) (Zs (Z2 a) o)).1,i=S5 s (t.1 / (Z2 a).fa.n)/\j=S5 o (t.1%(Z2 a).fa.n)) ⟨?_,?_,?_⟩ (i:=s) (j:=o) ?_)
 ·rintro i j ⟨t,ht,rfl,rfl⟩;have hl:=hV.inv.lt t ht;rw[hPn] at hl;exact⟨Se hs (Nat.div_lt_of_lt_mul hl),Se ho (Nat.mod_lt _ K1)⟩
 ·rintro i j ⟨t,ht,rfl,rfl⟩ x hx;have hl:=hV.inv.lt t ht;rw[hPn] at hl;obtain⟨k,hk⟩:=List.getElem?_of_mem ht;have h1:=(TK k t (ae5 _) hk x hx).1;unfold rC at h1;rw[wU,Ep (m:=Z2 a) (S:=s) (i:=t.1 / (Z2 a).fa.n) (Nat.div_lt_of_lt_mul hl),Ep (m:=Z2 a) (S:=o) (i:=t.1%(Z2 a).fa.n) (Nat.mod_lt _ K1)] at h1
  simpa using h1
 ·rintro i j ⟨t,ht,rfl,rfl⟩ x hx;have hl:=hV.inv.lt t ht;rw[hPn] at hl;obtain⟨k,hk⟩:=List.getElem?_of_mem ht;have h1:=(TK k t (ae5 _) hk x hx).2;obtain⟨t',rE,e⟩:=afe.1 h1;have e1:t'.1=S5 s ((Z2 a).fa.nx (S5 s (t.1 / (Z2 a).fa.n)) x)*(Z2 a).fa.n+S5 o ((Z2 a).fa.nx (S5 o (t.1%(Z2 a).fa.n)) x):=by
   rw[e];show (Zs (Z2 a) s).fa.nx (t.1 / (Zs (Z2 a) o).fa.n) x*(Zs (Z2 a) o).fa.n+(Zs (Z2 a) o).fa.nx (t.1%(Zs (Z2 a) o).fa.n) x=_;rw[wU,Er (m:=Z2 a) (S:=s) (i:=t.1 / (Z2 a).fa.n) (Nat.div_lt_of_lt_mul hl) hx,Er (m:=Z2 a) (S:=o) (i:=t.1%(Z2 a).fa.n) (Nat.mod_lt _ K1) hx]
  have e2:=Se ho (hm.VK.lt _ x (Se ho (Nat.mod_lt t.1 K1)) hx);refine⟨t',rE,?_,?_⟩
  ·rw[e1,Rr e2,Av]
  ·rw[e1,OG e2,Av]
 ·obtain⟨R,hR⟩:=hV.pre;refine⟨(0,0,0),?_,?_,?_⟩
  ·show (0,0,0)∈(Yr _ _).1;rw[hR];simp
  ·simp[S5]
  ·simp[S5]
end
end Go.Am
