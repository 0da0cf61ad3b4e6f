/- A part of the proof of a statement of this seat: the machine on which the program is read, and what it computes; for every input. -/
import Derived.Test.YtkmaeondbkpajaaGreatDoorN23
set_option linter.all false
namespace Go.Am
open Go
variable [Z3]
set_option maxRecDepth 100000
set_option maxHeartbeats 8000000
abbrev Pr:=Int×Int
def PV (p:Pr):AV:=.agg [.int .i64 p.1,.int .i64 p.2]
def Gj (p o:Pr):Bool:=decide (p.1>o.1)||(p.1==o.1&&decide (p.2>o.2))
def Sn (na nb:Nat)(p:Pr):Bool:=decide (p.1<0)||(decide (p.1>=na)||(decide (p.2<0)||decide (p.2>=nb)))
def xE (o:Option Pr)(p:Pr):Bool:=match o with|none=>false|some q=>!Gj p q
def U2 (na nb:Nat):Option Pr->List Pr->Int
 |_,[]=>0
 |q,p::l=>br (Sn na nb p) 10 (br (xE q p) 11 (U2 na nb (some p) l))
theorem ab6 {ks:List K}{ZV:Option AV->Prop}{na nb:Nat}{p:Pr}{A B P:Nat}{e:Env}{s:St}{la lb:Int}{cJ cI:Bool}{ra rb:List AV}{fa fb:AV}(h3:Env.get e 3=.ptr A 0)(h4:Env.get e 4=.ptr B 0)(h10:Env.get e 10=.ptr P 0)
  (gA:s.get A=some (.cells [.int .i64 la,ZP cJ ra,fa] 42 false 0 0))(gB:s.get B=some (.cells [.int .i64 lb,ZP cI rb,fb] 42 false 0 0))(gP:s.get P=some (.cells [.int .i64 p.1,.int .i64 p.2] 55 false 0 0))(ha:ra.length=na)(hb:rb.length=nb)
  (hk:∀e',(∀t:Nat,t<37->t≠11->Env.get e' t=Env.get e t)->Env.get e' 11=.bool (Sn na nb p)->ZV (goN U (VZ U [.tmp 6]) ks e' s)) :
  ZV (go U (VZ U [.tmp 6]) ks Ks e s):=by
 have fP:=ZL cJ ra;have qw:=ZL cI rb;rw[ha] at fP;rw[hb] at qw;have fin:∀(E:Env),(∀t:Nat,t<37->t≠11->Env.get E t=Env.get e t)->Env.get E 11=.bool (Sn na nb p)->ZV (goN U (VZ U [.tmp 6]) ks E s):=fun E h1 h2=>hk E h1 h2
 clear hk;unfold Sn at fin
 cases h1:decide (p.1<0) with
 |true =>
  simp only[go_sem,Ks,h3,h4,h10,gA,gB,gP,fP,qw,h1];refine fin _ (fun t q1 q2=>?_) ?_
  ·have ZQ:∀k:Nat,37<=k->(k=t)=False:=fun k hk=>by simp;omega
   have PU:(11=t)=False:=by simp;omega
   simp only[go_sem,ZQ,PU]
  ·simp only[go_sem,h1,Bool.or_true,Bool.true_or,Bool.or_false,afV]
 |false =>
  cases h2:decide (p.1>=na) with
  |true =>
   simp only[go_sem,Ks,h3,h4,h10,gA,gB,gP,fP,qw,h1,h2];refine fin _ (fun t q1 q2=>?_) ?_
   ·have ZQ:∀k:Nat,37<=k->(k=t)=False:=fun k hk=>by simp;omega
    have PU:(11=t)=False:=by simp;omega
    simp only[go_sem,ZQ,PU]
   ·simp only[go_sem,h1,h2,Bool.or_true,Bool.true_or,Bool.or_false,afV]
  |false =>
   cases h5:decide (p.2<0) with
   |true =>
    simp only[go_sem,Ks,h3,h4,h10,gA,gB,gP,fP,qw,h1,h2,h5];refine fin _ (fun t q1 q2=>?_) ?_
    ·have ZQ:∀k:Nat,37<=k->(k=t)=False:=fun k hk=>by simp;omega
     have PU:(11=t)=False:=by simp;omega
     simp only[go_sem,ZQ,PU]
    ·simp only[go_sem,h1,h2,h5,Bool.or_true,Bool.true_or,Bool.or_false,afV]
   |false =>
    cases h6:decide (p.2>=nb) with
    |true =>
     simp only[go_sem,Ks,h3,h4,h10,gA,gB,gP,fP,qw,h1,h2,h5,h6];refine fin _ (fun t q1 q2=>?_) ?_
     ·have ZQ:∀k:Nat,37<=k->(k=t)=False:=fun k hk=>by simp;omega
      have PU:(11=t)=False:=by simp;omega
      simp only[go_sem,ZQ,PU]
     ·simp only[go_sem,h1,h2,h5,h6,Bool.or_true,Bool.true_or,Bool.or_false,afV]
    |false =>
     simp only[go_sem,Ks,h3,h4,h10,gA,gB,gP,fP,qw,h1,h2,h5,h6];refine fin _ (fun t q1 q2=>?_) ?_
     ·have ZQ:∀k:Nat,37<=k->(k=t)=False:=fun k hk=>by simp;omega
      have PU:(11=t)=False:=by simp;omega
      simp only[go_sem,ZQ,PU]
     ·simp only[go_sem,h1,h2,h5,h6,Bool.or_true,Bool.true_or,Bool.or_false,afV]
def rR (bd:Bool)(o:Option Pr)(p:Pr):Int:=br bd 10 (br (xE o p) 11 0)
theorem rQ (q p:Pr):decide (Af q.1 q.2 p.1 p.2>=0)=!Gj p q:=by
 unfold Af HM Gj;have g1:decide (q.1>p.1)=decide (p.1<q.1):=rfl;have g2:decide (q.2>p.2)=decide (p.2<q.2):=rfl;have g3:decide (p.1>q.1)=decide (q.1<p.1):=rfl;have g4:decide (p.2>q.2)=decide (q.2<p.2):=rfl;rw[g1,g2,g3,g4];have e1:(p.1==q.1)=(!decide (q.1<p.1)&&!decide (p.1<q.1)):=by rw[Bool.eq_iff_iff];simp;omega
 rw[e1];have x1:¬(q.1<p.1/\p.1<q.1):=by omega
 have x2:¬(q.2<p.2/\p.2<q.2):=by omega
 cases h1:decide (q.1<p.1) <;> cases h2:decide (p.1<q.1) <;> cases h3:decide (q.2<p.2) <;> cases h4:decide (p.2<q.2) <;> first|rfl|(exfalso;simp at h1 h2 h3 h4;omega)
theorem Pd {nl:Bool}{l:List Pr}{i:Nat}(h:i<l.length):UT 2 (ZP nl (l.map PV)) (.int .i64 (i:Int))=some (.fp [.int .i64 l[i].1,.int .i64 l[i].2] 0):=by
 have:=Ve 2 nl (l.map PV) .i64 (i:Int) (PV l[i]) (by omega) (by simp[h]) rfl (by omega);rw[this];rfl
theorem abf {ks:List K}{ZV:Option AV->Prop}{nl:Bool}{l:List Pr}{i P:Nat}{bd:Bool}{o:Option Pr}(hi:i<l.length)(hl:l.length<=65536){e:Env}{s:St}(h2:Env.get e 2=ZP nl (l.map PV))(h9:Env.get e 9=.int .i64 (i:Nat))(h10:Env.get e 10=.ptr P 0)(h11:Env.get e 11=.bool bd)
  (gP:s.get P=some (.cells [.int .i64 l[i].1,.int .i64 l[i].2] 55 false 0 0))(hP:P<s.next)(fr:Fr s)(ho:(i=0/\o=none)\/(0<i/\o=l[i-1]?))
  (xD:rR bd o l[i]≠0->ZV (some (.int .i64 (rR bd o l[i]))))
  (hk:rR bd o l[i]=0->∀e' s',(∀t:Nat,t<37->t≠12->t≠6->Env.get e' t=Env.get e t)->(∀j,j<s.next->s'.get j=s.get j)->s.next<=s'.next->Fr s'->ZV (goN U (VZ U [.tmp 6]) ks e' s')) :
  ZV (go U (VZ U [.tmp 6]) ks BT e s):=by
 have hz:=fun (S:St) (j:Nat)=>eY (args:=[AV.sl j 0 2 (some 2) 1]) (s:=S) rfl
 have c1:=Jx bd 10;have R_:=fr.at;have hv:∀x:Bool,X0 [br bd 10 0,br x 11 0]=br bd 10 (br x 11 0):=fun x=>by cases bd <;> cases x <;> rfl
 generalize hw:rR bd o l[i]=v at *;have fin:∀(E:Env) (S:St),(∀t:Nat,t<37->t≠12->t≠6->Env.get E t=Env.get e t)->(∀j,j<s.next->S.get j=s.get j)->s.next<=S.next->Fr S->ZV (br (v != 0) (some (.int .i64 v)) (goN U (VZ U [.tmp 6]) ks E S)):=fun E S h1 h2 h3 h4=>by
  cases hz:v != 0 with
  |true=>rw[WJ];exact xD (by simpa using hz)
  |false=>rw[Zh];exact hk (by simpa using hz) E S h1 h2 h3 h4
 clear xD hk;rcases ho with⟨rfl,rfl⟩|⟨h0,ho⟩
 ·have c2:=Jx false 11;have d0:decide (((0:Nat):Int)>0)=false:=rfl;have gf:X0 [br bd 10 0,0]=v:=by rw[<-hw];exact hv false
  simp only[go_sem,BT,h2,h9,h10,h11,gP,c1,c2,d0,hz,WQ,YI,Wi,Wh,afF,K_,Xj,Yw,gf,R_];refine fin _ _ (fun t q1 q2 q3=>?_) (fun j hj=>?_) ?_ ?_
  ·have ZQ:∀k:Nat,37<=k->(k=t)=False:=fun k hk=>by simp;omega
   have PU:(12=t)=False:=by simp;omega
   simp only[go_sem,ZQ,PU]
  ·rw[Z7,if_neg (by omega),Z0]
  ·rw[Z9,Z_];omega
  ·exact (fr.upto (by omega)).put (by rw[Z_];omega) _
 ·have Ae:i-1<l.length:=by omega
  rw[aaa Ae] at ho;subst ho;have c2:=Jx (!Gj l[i] l[i-1]) 11;have d0:decide (((i:Nat):Int)>0)=true:=decide_eq_true (by omega);have gf:X0 [br bd 10 0,br (!Gj l[i] l[i-1]) 11 0]=v:=by rw[<-hw];exact hv _
  have w1:IntKind.i64.wrap (((i:Nat):Int)-1)=((i-1:Nat):Int):=Zq (by omega) (by omega);have xU:max (0:Int) ((i-1:Nat):Int)=((i-1:Nat):Int):=by omega
  have c3:=Pc l[i-1].1 l[i-1].2 l[i].1 l[i].2;have oa:=rQ l[i-1] l[i];have ix:=Pd (nl:=nl) Ae;simp only[go_sem,BT,h2,h9,h10,h11,gP,c1,c2,c3,oa,ix,w1,xU,d0,hz,WQ,YI,Wi,Wh,afF,K_,Xj,Yw,gf,R_];refine fin _ _ (fun t q1 q2 q3=>?_) (fun j hj=>?_) ?_ ?_
  ·have ZQ:∀k:Nat,37<=k->(k=t)=False:=fun k hk=>by simp;omega
   have PU:(12=t)=False:=by simp;omega
   simp only[go_sem,ZQ,PU]
  ·rw[Z7,if_neg (by omega),Z0]
  ·rw[Z9,Z_];omega
  ·exact (fr.upto (by omega)).put (by rw[Z_];omega) _
def Ny (k:Nat)(p:Pr):Nat:=(p.1*k+p.2).toNat
def QV (l:List Pr)(i:Nat):Option Pr:=if i=0 then none else l[i-1]?
structure ED (na k:Nat)(l:List Pr)(i:Nat):Prop where
 good:∀p∈l.take i,Sn na k p=false
 asc:((l.take i).map (Ny k)).Pairwise (·<·)
theorem AA {na k:Nat}{p:Pr}:Sn na k p=false<->0<=p.1/\p.1<na/\0<=p.2/\p.2<k:=by
 unfold Sn;simp
theorem GK {na k:Nat}{p:Pr}(h:Sn na k p=false):∃x y:Nat,p=((x:Int),(y:Int))/\x<na/\y<k/\Ny k p=x*k+y:=by
 obtain⟨h1,h2,h3,h4⟩:=AA.1 h;obtain⟨p1,p2⟩:=p;simp only at h1 h2 h3 h4;obtain⟨x,rfl⟩:=Int.eq_ofNat_of_zero_le h1;obtain⟨y,rfl⟩:=Int.eq_ofNat_of_zero_le h3;refine⟨x,y,rfl,by omega,by omega,?_⟩;unfold Ny;simp only;have:((x:Int)*(k:Int)+(y:Int))=((x*k+y:Nat):Int):=by simp
 rw[this,Int.toNat_natCast]
theorem Bm {na k:Nat}{p:Pr}(h:Sn na k p=false):Zc k (Ny k p)=[.int .i64 p.1,.int .i64 p.2]:=by
 obtain⟨x,y,rfl,h1,h2,h3⟩:=GK h;rw[h3,Zc,Rr h2,OG h2]
theorem dO {na k:Nat}{p:Pr}(h:Sn na k p=false):Ny k p<na*k:=by
 obtain⟨x,y,rfl,h1,h2,h3⟩:=GK h;rw[h3];exact AE h1 h2
theorem iT {na k:Nat}{p q:Pr}(h:Sn na k p=false)(h':Sn na k q=false):Gj p q=true<->Ny k q<Ny k p:=by
 obtain⟨x,y,rfl,h1,h2,h3⟩:=GK h;obtain⟨x',y',rfl,h1',h2',h3'⟩:=GK h';rw[h3,h3'];unfold Gj;simp only[afY,aab,decide_eq_true_eq,beq_iff_eq];rcases Nat.lt_trichotomy x x' with h|h|h
 ·have:(x+1)*k<=x'*k:=Nat.mul_le_mul_right k h;rw[Nat.succ_mul] at this;omega
 ·subst h;omega
 ·have:(x'+1)*k<=x*k:=Nat.mul_le_mul_right k h;rw[Nat.succ_mul] at this;omega
theorem ED.zero (na k:Nat)(l:List Pr):ED na k l 0:=⟨by simp,by simp⟩
theorem ED.put {na k:Nat}{l:List Pr}{i:Nat}(h:ED na k l i)(hi:i<l.length)(hb:Sn na k l[i]=false)(hp:xE (QV l i) l[i]=false):ED na k l (i+1)/\Ny k l[i]∉(l.take i).map (Ny k):=by
 have Zm:∀p∈l.take i,Ny k p<Ny k l[i]:=by
  intro p fE
  cases i with
  |zero=>simp at fE
  |succ i =>
   have Uz:i<l.length:=by omega
   have ht:l.take (i+1)=l.take i++[l[i]]:=by rw[afC Uz]
   have hq:QV l (i+1)=some l[i]:=by unfold QV;simp[Uz]
   rw[hq] at hp;unfold xE at hp;have hgq:=h.good l[i] (by rw[ht];exact List.mem_append_right _ (ae0.2 rfl));have h1:=(iT hb hgq).1 (by simpa using hp);have ha:=h.asc;rw[ht,afX,afM] at ha;rw[ht] at fE;rcases afb.1 fE with h2|h2
   ·have:=ha.2.2 (Ny k p) (afe.2 ⟨p,h2,rfl⟩) (Ny k l[i]) (by simp);omega
   ·rw[ae0.1 h2];exact h1
 have ht:l.take (i+1)=l.take i++[l[i]]:=by rw[afC hi]
 refine⟨⟨fun p fE=>?_,?_⟩,fun hm=>?_⟩
 ·rw[ht] at fE;rcases afb.1 fE with h2|h2
  ·exact h.good p h2
  ·rw[ae0.1 h2];exact hb
 ·rw[ht,afX,afM];refine⟨h.asc,by simp,fun a ha b hb=>?_⟩;obtain⟨p,Je,rfl⟩:=afe.1 ha;simp only[afm,List.map_nil,ae0] at hb;subst hb;exact Zm p Je
 ·obtain⟨p,Je,Pn⟩:=afe.1 hm;have:=Zm p Je;omega
theorem yv {na nb:Nat}{l:List Pr}{i:Nat}(hi:i<l.length):U2 na nb (QV l i) (l.drop i)=br (Sn na nb l[i]) 10 (br (xE (QV l i) l[i]) 11 (U2 na nb (QV l (i+1)) (l.drop (i+1)))):=by
 rw[aeY hi,U2];have hq:QV l (i+1)=some l[i]:=by unfold QV;simp[hi]
 rw[hq]
theorem iS {bd:Bool}{o:Option Pr}{p:Pr}{v:Int}(h:rR bd o p≠0):(br bd 10 (br (xE o p) 11 v):Int)=rR bd o p:=by
 unfold rR at *
 cases bd with
 |true=>rfl
 |false =>
  cases hx:xE o p with
  |true=>rfl
  |false=>rw[hx] at h;exact absurd rfl h
theorem tW {bd:Bool}{o:Option Pr}{p:Pr}(h:rR bd o p=0):bd=false/\xE o p=false:=by
 unfold rR at *
 cases bd with
 |true=>simp[br] at h
 |false =>
  cases hx:xE o p with
  |true=>rw[hx] at h;simp[br] at h
  |false=>exact⟨rfl,rfl⟩
theorem yr {s:St}{m k:Nat}{ks:List Nat}(h:s.get m=some (.map (VA k (fun _=>.bool true) ks 0) false)){c:Nat}(hc:c∉ks):Xm U 171 (.map m) (.agg (Zc k c)) (.bool true) s=some (s.put m (.map (VA k (fun _=>.bool true) (ks++[c]) 0) false)):=by
 have hu:U.Zt 171=some (.map 55 4):=by kernel_rfl
 have hk:WL U 55 (.agg (Zc k c))=true:=by
  have h1:U.Zt 55=some (.array 2 3):=by kernel_rfl
  have h2:U.Zt 3=some (.int .i64):=by kernel_rfl
  have h3:size U 3=some 1:=by kernel_rfl
  simp only[WL,h1,h2,h3,Zc];rfl
 have:=MU k (fun _=>.bool true) c ks 0 hc;unfold Xm;rw[hu];simp only[hk,if_true,h,this]
theorem yx {s:St}{m k:Nat}{ks:List Nat}(h:s.get m=some (.map (VA k (fun _=>.bool true) ks 0) false))(c:Nat):WI U 171 (.map m) (.agg (Zc k c)) false s=some (.bool (decide (Ya ks c<ks.length))):=by
 have hu:U.Zt 171=some (.map 55 4):=by kernel_rfl
 have hz:zero U 4=some (.bool false):=by kernel_rfl
 have hk:WL U 55 (.agg (Zc k c))=true:=by
  have h1:U.Zt 55=some (.array 2 3):=by kernel_rfl
  have h2:U.Zt 3=some (.int .i64):=by kernel_rfl
  have h3:size U 3=some 1:=by kernel_rfl
  simp only[WL,h1,h2,h3,Zc];rfl
 unfold WI;rw[hu];simp only[hk,if_true,h,PA]
 cases decide (Ya ks c<ks.length) with
 |true=>rfl
 |false=>simp only[cond_false,hz];rfl
theorem adl {ks:List K}{ZV:Option AV->Prop}{nl:Bool}{l:List Pr}{na k A B mp:Nat}(hl:l.length<=65536){e:Env}{s:St}{la lb:Int}{cJ cI:Bool}{ra rb:List AV}{fa fb:AV}
  (h2:Env.get e 2=ZP nl (l.map PV))(h3:Env.get e 3=.ptr A 0)(h4:Env.get e 4=.ptr B 0)(h8:Env.get e 8=.map mp)(h30:Env.get e 30=ZP nl (l.map PV))(h31:Env.get e 31=.int .i64 (l.length:Nat))(h32:Env.get e 32=.int .i64 (0:Nat))
  (gA:s.get A=some (.cells [.int .i64 la,ZP cJ ra,fa] 42 false 0 0))(gB:s.get B=some (.cells [.int .i64 lb,ZP cI rb,fb] 42 false 0 0))(ha:ra.length=na)(hb:rb.length=k)
  (gm:s.get mp=some (.map [] false))(hA:A<s.next)(hB:B<s.next)(hm:mp<s.next)(hAm:mp≠A)(hBm:mp≠B)(fr:Fr s)
  (xD:U2 na k none l≠0->ZV (some (.int .i64 (U2 na k none l))))
  (hk:U2 na k none l=0->ED na k l l.length->∀e' s',(∀t:Nat,t<9->t≠6->Env.get e' t=Env.get e t)->s'.get mp=some (.map (VA k (fun _=>.bool true) (l.map (Ny k)) 0) false)->(∀j,j<s.next->j≠mp->s'.get j=s.get j)->s.next<=s'.next->Fr s'->ZV (goN U (VZ U [.tmp 6]) ks e' s')) :
  ZV (Vx U (VZ U [.tmp 6]) (.bk 0::ks) GU e s):=by
 refine ZC (σ:=Nat) (fun i=>l.length-i) (fun i e' s'=>i<=l.length/\(∀t:Nat,t<9\/t=30\/t=31->t≠6->Env.get e' t=Env.get e t)/\Env.get e' 32=.int .i64 (i:Nat)/\s'.get mp=some (.map (VA k (fun _=>.bool true) ((l.take i).map (Ny k)) 0) false)/\(∀j,j<s.next->j≠mp->s'.get j=s.get j)/\s.next<=s'.next/\Fr s'/\U2 na k (QV l i) (l.drop i)=U2 na k none l/\ED na k l i) 0 ?_
  ⟨ae5 _,fun _ _ _=>rfl,h32,by rw[List.take_zero];exact gm,fun _ _ _=>rfl,aba _,fr,rfl,ED.zero ..⟩
 rintro Lp i e' s' ⟨hi0,hold,q32,qm,hs,XY,YM,Zp,FJ⟩ IH;have q2:=(hold 2 (by omega) (by omega)).trans h2;have q3:=(hold 3 (by omega) (by omega)).trans h3;have q4:=(hold 4 (by omega) (by omega)).trans h4;have q8:=(hold 8 (by omega) (by omega)).trans h8;have wH:=(hold 30 (by omega) (by omega)).trans h30;have q31:=(hold 31 (by omega) (by omega)).trans h31;have uA:=(hs A hA hAm.symm).trans gA;have uB:=(hs B hB hBm.symm).trans gB;rw[zl];by_cases hd:i<l.length
 ·have hw:=ZI hd (by omega);have ix:=Pd (nl:=nl) hd;have R_:=YM.at;have Xg:=yv (na:=na) (nb:=k) hd;rw[Zp] at Xg;simp only[go_sem,wH,q31,q32,Z8,hd,ix,R_];obtain⟨S,hS⟩:∃S,S=(s'.new (.cells [.int .i64 0,.int .i64 0] 55 false 0 0)).put s'.next (.cells [.int .i64 l[i].1,.int .i64 l[i].2] 55 false 0 0):=⟨_,rfl⟩;rw[<-hS];have rN:S.next=s'.next+1:=by rw[hS,Z9,Z']
  have kS:∀j,j<s'.next->S.get j=s'.get j:=fun j h1=>by rw[hS,Z7,if_neg (by omega),ZZ,if_neg (by omega)]
  have uS:S.get s'.next=some (.cells [.int .i64 l[i].1,.int .i64 l[i].2] 55 false 0 0):=by rw[hS,Z7,if_pos rfl]
  have He:Fr S:=by rw[hS];exact (YM.new _).put (by rw[Z'];omega) _
  refine ab6 (ZV:=ZV) (na:=na) (nb:=k) (p:=l[i]) (A:=A) (B:=B) (P:=s'.next) ?_ ?_ ?_ ((kS A (by omega)).trans uA) ((kS B (by omega)).trans uB) uS ha hb ?_
  ·simp only[go_sem,q3]
  ·simp only[go_sem,q4]
  ·simp only[go_sem]
  intro e1 E1 e11;simp only[go_sem];have E1':∀t:Nat,t<9\/t=30\/t=31\/t=32->t≠6->Env.get e1 t=Env.get e' t:=fun t h1 h2=>by
   rw[E1 t (by omega) (by omega)];have n1:(33=t)=False:=by simp;omega
   have n2:(34=t)=False:=by simp;omega
   have n3:(35=t)=False:=by simp;omega
   have n4:(36=t)=False:=by simp;omega
   have n5:(10=t)=False:=by simp;omega
   have n6:(9=t)=False:=by simp;omega
   simp only[go_sem,n1,n2,n3,n4,n5,n6]
  have p9:Env.get e1 9=.int .i64 (i:Nat):=by rw[E1 9 (by omega) (by omega)];simp only[go_sem]
  have G5:Env.get e1 10=.ptr s'.next 0:=by rw[E1 10 (by omega) (by omega)];simp only[go_sem]
  refine abf (ZV:=ZV) (nl:=nl) (l:=l) (i:=i) (P:=s'.next) (bd:=Sn na k l[i]) (o:=QV l i) hd hl ((E1' 2 (by omega) (by omega)).trans q2) p9 G5 e11 uS (by omega) He ?_ ?_ ?_
  ·unfold QV;by_cases h0:i=0
   ·exact .inl ⟨h0,if_pos h0⟩
   ·exact .inr ⟨by omega,if_neg h0⟩
  ·intro hc;rw[iS hc] at Xg;rw[Xg] at xD;exact xD hc
  ·intro hc e2 s2 E2 WC NA TC;obtain⟨vJ,bQ⟩:=tW hc;rw[vJ,bQ,Zh,Zh] at Xg;obtain⟨aak,adn⟩:=FJ.put hd vJ bQ;have T8:=Bm vJ;have v8:Env.get e2 8=.map mp:=by rw[E2 8 (by omega) (by omega) (by omega),E1' 8 (by omega) (by omega),q8]
   have v10:Env.get e2 10=.ptr s'.next 0:=by rw[E2 10 (by omega) (by omega) (by omega),G5]
   have v32:Env.get e2 32=.int .i64 (i:Nat):=by rw[E2 32 (by omega) (by omega) (by omega),E1' 32 (by omega) (by omega),q32]
   have w2:s2.get s'.next=some (.cells [.int .i64 l[i].1,.int .i64 l[i].2] 55 false 0 0):=(WC _ (by omega)).trans uS;have hmp:mp<s'.next:=by omega
   have wm:s2.get mp=some (.map (VA k (fun _=>.bool true) ((l.take i).map (Ny k)) 0) false):=(WC mp (by omega)).trans ((kS mp hmp).trans qm);have up:=yr wm adn;rw[T8] at up;simp only[go_sem,v8,v10,v32,w2,up,hw];refine IH (i+1) _ _ (by omega) ⟨by omega,fun t h1 h2=>?_,?_,?_,fun j h1 h2=>?_,?_,?_,?_,aak⟩
   ·have n1:(82=t)=False:=by simp;omega
    have n2:(83=t)=False:=by simp;omega
    have n3:(84=t)=False:=by simp;omega
    have n4:(32=t)=False:=by simp;omega
    simp only[go_sem,n1,n2,n3,n4];rw[E2 t (by omega) (by omega) h2,E1' t (by omega) h2,hold t h1 h2]
   ·simp only[go_sem]
   ·rw[Z7,if_pos rfl,afC hd,afX];rfl
   ·rw[Z7,if_neg h2.symm,WC j (by omega),kS j (by omega),hs j h1 h2]
   ·rw[Z9];omega
   ·exact TC.put (by omega) _
   ·rw[<-Xg]
 ·have Gr:i=l.length:=by omega
  subst Gr;rw[afE,U2] at Zp;rw[List.take_length] at qm;simp only[go_sem,wH,q31,q32,Z8,afg];exact hk Zp.symm FJ _ _ (fun t h1 h2=>by
   have ZQ:(33=t)=False:=by simp;omega
   simp only[go_sem,ZQ,hold t (.inl h1) h2]) qm hs XY YM
def okx (a b:ZN)(C:List Nat)(c x:Nat):Bool:=(a.fa.fr (c / b.fa.n) x==b.fa.fr (c%b.fa.n) x)&&decide (Ya C ((Zn a.fa b.fa).nx c x)<C.length)
def se (a b:ZN)(C:List Nat)(c:Nat)(x:Nat):Bool:=(List.range x).all (okx a b C c)
theorem uc (a b:ZN)(C:List Nat)(c x:Nat):se a b C c (x+1)=(se a b C c x&&okx a b C c x):=by
 unfold se;rw[List.range_succ,List.all_append];simp
theorem abJ {ks:List K}{ZV:Option AV->Prop}{a b:ZN}(ha:a.ok)(hb:b.ok)(VD:a.lines=b.lines){A B mp P c:Nat}{C:List Nat}{p0:Bool}(hc:c<(Zn a.fa b.fa).n)
  {e:Env}{s:St}(h3:Env.get e 3=.ptr A 0)(h4:Env.get e 4=.ptr B 0)(h8:Env.get e 8=.map mp)(h13:Env.get e 13=.bool p0)(h15:Env.get e 15=.ptr P 0)(h103:Env.get e 103=.int .i64 ((2^a.lines.toNat:Nat):Int))(h104:Env.get e 104=.int .i64 (0:Nat))
  (gA:s.get A=some (.cells [.int .i64 a.lines,ZP a.YC (a.next.map ZX),ZP a.Yx (a.Z4.map ZY)] 42 false 0 0))(gB:s.get B=some (.cells [.int .i64 b.lines,ZP b.YC (b.next.map ZX),ZP b.Yx (b.Z4.map ZY)] 42 false 0 0))
  (gm:s.get mp=some (.map (VA b.fa.n (fun _=>.bool true) C 0) false))(gP:s.get P=some (.cells (Zc b.fa.n c) 55 false 0 0))
  (hA:A<s.next)(hB:B<s.next)(hm:mp<s.next)(hP:P<s.next)(fr:Fr s)
  (hk:∀e' s',(∀t:Nat,t<104->t≠13->t≠16->Env.get e' t=Env.get e t)->Env.get e' 13=.bool (p0&&se a b C c (2^a.lines.toNat))->(∀j,j<s.next->s'.get j=s.get j)->s.next<=s'.next->Fr s'->ZV (goN U (VZ U [.tmp 6]) ks e' s')) :
  ZV (Vx U (VZ U [.tmp 6]) (.bk 4::ks) MV e s):=by
 have Nv:=ha.j8;have Bo:c / b.fa.n<a.next.length:=Nat.div_lt_of_lt_mul (by rw[Nat.mul_comm];exact hc);have P9:c%b.fa.n<b.next.length:=Nat.mod_lt _ hb.pos;refine ZC (σ:=Nat) (fun x=>2^a.lines.toNat-x) (fun x e' s'=>x<=2^a.lines.toNat/\(∀t:Nat,t<104->t≠13->t≠16->Env.get e' t=Env.get e t)/\Env.get e' 104=.int .i64 (x:Nat)/\Env.get e' 13=.bool (p0&&se a b C c x)/\(∀j,j<s.next->s'.get j=s.get j)/\s.next<=s'.next/\Fr s') 0 ?_
  ⟨ae5 _,fun _ _ _ _=>rfl,h104,by rw[h13];simp[se],fun _ _=>rfl,aba _,fr⟩
 rintro Lp x e' s' ⟨hx0,hold,o5,U6,hs,XY,YM⟩ IH;have q3:=(hold 3 (by omega) (by omega) (by omega)).trans h3;have q4:=(hold 4 (by omega) (by omega) (by omega)).trans h4;have q8:=(hold 8 (by omega) (by omega) (by omega)).trans h8;have q15:=(hold 15 (by omega) (by omega) (by omega)).trans h15;have o4:=(hold 103 (by omega) (by omega) (by omega)).trans h103;have uA:=(hs A hA).trans gA;have uB:=(hs B hB).trans gB;have um:=(hs mp hm).trans gm;have uP:=(hs P hP).trans gP;unfold Zc at uP;by_cases hd:x<2^a.lines.toNat
 ·have hw:=ZI hd (by omega);have hpn:=EG hb VD hc hd;have n1:=ha.DR Bo hd;have n2:=hb.DR P9 (by rw[<-VD];exact hd);have n3:=ha.qT Bo hd;have n4:=hb.qT P9 (by rw[<-VD];exact hd);have r1:=Xi (nl:=a.YC) Bo;have r2:=Xi (nl:=b.YC) P9;have r3:=Xh (nl:=a.Yx) (l:=a.Z4) (i:=c / b.fa.n) (by rw[ha.fl];exact Bo);have r4:=Xh (nl:=b.Yx) (l:=b.Z4) (i:=c%b.fa.n) (by rw[hb.fl];exact P9);have lk:=fun (S:St) (h:S.get mp=some (.map (VA b.fa.n (fun _=>.bool true) C 0) false))=>yx h ((Zn a.fa b.fa).nx c x)
  rw[hpn] at lk;have R_:=YM.at;have key:∀(E:Env) (S:St),(∀t:Nat,t<104->t≠13->t≠16->Env.get E t=Env.get e' t)->Env.get E 104=.int .i64 ((x+1:Nat):Int)->Env.get E 13=.bool (p0&&se a b C c (x+1))->(∀j,j<s'.next->S.get j=s'.get j)->s'.next<=S.next->Fr S->ZV (Vx U (VZ U [.tmp 6]) (.bk 4::ks) Lp E S):=fun E S k1 k2 k3 k4 k5 k6 =>
   IH (x+1) _ _ (by omega) ⟨by omega,fun t h1 h2 h3=>(k1 t h1 h2 h3).trans (hold t h1 h2 h3),k2,k3,fun j hj=>(k4 j (by omega)).trans (hs j hj),by omega,k6⟩
  have Nz:∀t:Nat,t<104->t≠13->t≠16->(13=t)=False/\(16=t)=False/\∀k:Nat,104<=k->(k=t)=False:=fun t h1 h2 h3=>⟨by simp;omega,by simp;omega,fun k hk=>by simp;omega⟩
  rw[uc] at key
  cases hp:(p0&&se a b C c x) with
  |false =>
   rw[hp] at U6;rw[<-Bool.and_assoc,hp,Bool.false_and] at key;simp only[go_sem,MV,q3,q4,q8,U6,q15,o4,o5,uA,uB,um,uP,Z8,hd,hw,r1,r2,r3,r4,n1,n2,n3,n4,R_];refine key _ _ (fun t h1 h2 h3=>?_) ?_ ?_ (fun j hj=>?_) ?_ ?_
   ·obtain⟨G2,A6,ZQ⟩:=Nz t h1 h2 h3;simp only[go_sem,G2,A6,ZQ]
   ·simp only[go_sem]
   ·simp only[go_sem]
   ·simp only[Z7,ZZ,Z0]
   ·simp only[Z9,Z',Z_];omega
   ·exact YM.upto (by omega)
  |true =>
   rw[hp] at U6;rw[<-Bool.and_assoc,hp,afU] at key;unfold okx at key
   cases hq:(a.fa.fr (c / b.fa.n) x==b.fa.fr (c%b.fa.n) x) with
   |false =>
    rw[hq,Bool.false_and] at key;simp only[go_sem,MV,q3,q4,q8,U6,q15,o4,o5,uA,uB,um,uP,Z8,hd,hw,r1,r2,r3,r4,n1,n2,n3,n4,R_,Hb,hq];refine key _ _ (fun t h1 h2 h3=>?_) ?_ ?_ (fun j hj=>?_) ?_ ?_
    ·obtain⟨G2,A6,ZQ⟩:=Nz t h1 h2 h3;simp only[go_sem,G2,A6,ZQ]
    ·simp only[go_sem]
    ·simp only[go_sem]
    ·simp only[Z7,ZZ,Z0]
    ·simp only[Z9,Z',Z_];omega
    ·exact YM.upto (by omega)
   |true =>
    rw[hq,afU] at key;simp only[go_sem,MV,q3,q4,q8,U6,q15,o4,o5,uA,uB,um,uP,Z8,hd,hw,r1,r2,r3,r4,n1,n2,n3,n4,R_,Hb,hq,lk];refine key _ _ (fun t h1 h2 h3=>?_) ?_ ?_ (fun j hj=>?_) ?_ ?_
    ·obtain⟨G2,A6,ZQ⟩:=Nz t h1 h2 h3;simp only[go_sem,G2,A6,ZQ]
    ·simp only[go_sem]
    ·simp only[go_sem]
    ·simp only[Z7,ZZ,Z0]
    ·simp only[Z9,Z',Z_];omega
    ·exact YM.upto (by omega)
 ·have rT:x=2^a.lines.toNat:=by omega
  subst rT;simp only[go_sem,MV,o4,o5,Z8,afg];refine hk _ _ (fun t h1 h2 h3=>?_) ?_ hs XY YM
  ·have ZQ:∀k:Nat,104<=k->(k=t)=False:=fun k hk=>by simp;omega
   simp only[go_sem,ZQ];exact hold t h1 h2 h3
  ·simp only[go_sem,U6]
end Go.Am
